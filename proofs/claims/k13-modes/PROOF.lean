import PyProof.Rows.All
import Wide.All
import OpenK.AllK
import Wide.FinOn
import HandS.ForMost
import HandS.ForExc
import HandS.Lambda
import HandS.TupAny
import HandS.Style
import HandS.Flow
import HandS.TupLe
import HandS.Dict
import HandS.Small
import HandS.Iter
import KE.DataEq
import HandS.Strs
import HandS.Text
import HandS.Comp
import HandS.SortInts
import PyProof.DictUpdate
import HandS.WordsExc
import HandS.EndTab
import KE.KNestM
import HandS.Zip
import HandS.Flt
import HandS.DictComp
import HandS.GenList
import PyProof.TupleOfGen
import PyProof.SumAny
import KE.DataMinMax
import KE.SortData
import HandS.FStr
import KE.DataFind
import OpenK.XHead
import KE.KxText
import PySem.Challenge.RW_liftstack_k13_modes_of_a_car
set_option Elab.async false
set_option linter.all false
set_option maxRecDepth 100000
set_option maxHeartbeats 8000000
/-! Pure values and a pure heap over the hand layer. -/
namespace Mi
open PySem PySem.Spec PyProof.Rows L2

/-- a value as a tree; `un`: nothing there yet; `ref i`: the i-th object of the pure heap -/
inductive T where
  | un | non | bl (b : Bool) | int (i : Int) | str (s : List Nat) | tup (ts : List T) | lst (ts : List T) | fix (ts : List T) | dct (kvs : List (T × T)) | ref (i : Nat)

/-- an object that may change -/
inductive Ob where
  | ins (c : Nat) (fs : List T) | lst (ts : List T) | dct (kvs : List (T × T)) | lkd (kvs : List (T × T))

abbrev Hs := List Ob
abbrev Loc := List T

inductive Res (α : Type) where
  | ok (a : α) (M : Hs) | ex (c : Nat) (M : Hs) | bad
def Res.bind {α β : Type} : Res α → (α → Hs → Res β) → Res β
  | .ok a M, k => k a M
  | .ex c M, _ => .ex c M
  | .bad, _ => .bad

inductive SRes where
  | nx (τ : Loc) (M : Hs) | rt (t : T) (M : Hs) | bk (τ : Loc) (M : Hs) | ct (τ : Loc) (M : Hs) | ex (c : Nat) (M : Hs) | bad

abbrev EM := Loc → Hs → Res T
abbrev TM := Loc → Hs → Res Bool
abbrev AM := Loc → Hs → Res (List T)
abbrev SM := Loc → Hs → SRes
abbrev FnM := List T → Hs → Res T

/-- the classes: where they stand, their fields by place -/
structure Tb where
  c : Nat → Addr
  fl : Nat → List Str
  T : List (Addr × (Nat → Nat → Str))
/-- the table at P: each code object that it tells for a place bears the name that nm tells for the place -/
def TabN (H : Hp) (P : Addr) (nm : Nat → Nat → Str) : Prop := ∃ ps : Array Value, H P = some (.tbl ps) ∧ TriplesOk ps.toList ∧ ∀ (pos : Pos) (cv : Value), codeAmong pos ps.toList = some cv → ∃ c, cv = .ref c ∧ H c = some (LamX.CodeO c (nm pos.line pos.col))
def TabsN (T : List (Addr × (Nat → Nat → Str))) (H : Hp) : Prop := ∀ p ∈ T, TabN H p.1 p.2
theorem TabN.ext {H H' : Hp} {P : Addr} {q : Nat → Nat → Str} (t : TabN H P q) (e : ∀ b o, H b = some o → H' b = some o) : TabN H' P q := by
  obtain ⟨ps, h1, h2, h3⟩ := t
  refine ⟨ps, e _ _ h1, h2, fun pos cv hc => ?_⟩
  obtain ⟨c, e1, e2⟩ := h3 pos cv hc
  exact ⟨c, e1, e _ _ e2⟩
theorem TabsN.ext {T : List (Addr × (Nat → Nat → Str))} {H H' : Hp} (t : TabsN T H) (e : ∀ b o, H b = some o → H' b = some o) : TabsN T H' := fun p hp => (t p hp).ext e
theorem TabN.nil {H : Hp} {P : Addr} {q : Nat → Nat → Str} (h : H P = some (.tbl #[])) : TabN H P q := ⟨#[], h, True.intro, fun pos cv hc => by
  have z : codeAmong pos [] = some cv := hc
  simp [codeAmong] at z⟩
/-- not a table of code objects -/
abbrev NT (o : HO) : Prop := ∀ ps, o ≠ .tbl ps

def keyT : T → Option Key
  | .int i => some (.inl i)
  | .str s => some (.inr ⟨s.toArray⟩)
  | _ => none

mutual
inductive Rep (K : PySem.W.Frag) (F : Hp) (ρ : List Addr) : T → V → Prop
  | non : Rep K F ρ .non .non
  | bl (b : Bool) : Rep K F ρ (.bl b) (.bl b)
  | int (i : Int) : Rep K F ρ (.int i) (.int i)
  | str (s : List Nat) : Rep K F ρ (.str s) (.str ⟨s.toArray⟩)
  | ref (i : Nat) (a : Addr) (h : ρ[i]? = some a) : Rep K F ρ (.ref i) (.ref a)
  | tup (ts : List T) (vs : List V) (a : Addr) (h : SqT K F a vs) (r : RepL K F ρ ts vs) : Rep K F ρ (.tup ts) (.ref a)
  | lst (ts : List T) (vs : List V) (a : Addr) (h : F a = some (.lst vs)) (r : RepL K F ρ ts vs) : Rep K F ρ (.lst ts) (.ref a)
  | fix (ts : List T) (vs : List V) (a : Addr) (h : SqL K F a vs) (r : RepL K F ρ ts vs) : Rep K F ρ (.fix ts) (.ref a)
  | dct (kvs : List (T × T)) (vs : List (Key × V)) (a : Addr) (h : F a = some (.dK vs)) (r : RepD K F ρ kvs vs) : Rep K F ρ (.dct kvs) (.ref a)
inductive RepL (K : PySem.W.Frag) (F : Hp) (ρ : List Addr) : List T → List V → Prop
  | nil : RepL K F ρ [] []
  | cons (t : T) (ts : List T) (v : V) (vs : List V) (h : Rep K F ρ t v) (r : RepL K F ρ ts vs) : RepL K F ρ (t :: ts) (v :: vs)
inductive RepD (K : PySem.W.Frag) (F : Hp) (ρ : List Addr) : List (T × T) → List (Key × V) → Prop
  | nil : RepD K F ρ [] []
  | cons (k t : T) (kvs : List (T × T)) (q : Key) (v : V) (vs : List (Key × V)) (e : keyT k = some q) (h : Rep K F ρ t v) (r : RepD K F ρ kvs vs) : RepD K F ρ ((k, t) :: kvs) ((q, v) :: vs)
end

/-- what a run may do: new fixed things, new objects, changes of the objects at ρ; all else that is tracked stays -/
structure Ext (ρ : List Addr) (F H : Hp) (ρ' : List Addr) (F' H' : Hp) : Prop where
  r : ∃ l, ρ' = ρ ++ l
  n : ∀ a ∈ ρ', a ∈ ρ ∨ ∀ o, H a = some o → ¬ NT o
  f : ∀ a o, F a = some o → F' a = some o
  h : ∀ a o, H a = some o → NT o → a ∉ ρ → H' a = some o
  t : ∀ a o, H a = some o → NT o → ∃ o', H' a = some o' ∧ NT o'
  g : ∀ a o, F' a = some o → F a = some o ∨ ∀ o, H a = some o → ¬ NT o

section
variable {K : PySem.W.Frag} {F F' F'' H H' H'' : Hp} {ρ ρ' ρ'' : List Addr}
theorem Ext.refl : Ext ρ F H ρ F H := ⟨⟨[], (List.append_nil _).symm⟩, fun _ h => .inl h, fun _ _ h => h, fun _ _ h _ _ => h, fun _ o h n => ⟨o, h, n⟩, fun _ _ h => .inl h⟩
theorem Ext.trans (a : Ext ρ F H ρ' F' H') (b : Ext ρ' F' H' ρ'' F'' H'') : Ext ρ F H ρ'' F'' H'' := by
  obtain ⟨⟨l, rfl⟩, n, f, h, t, g⟩ := a
  obtain ⟨⟨l', rfl⟩, n', f', h', t', g'⟩ := b
  refine ⟨⟨l ++ l', List.append_assoc _ _ _⟩, fun x hx => ?_, fun x o e => f' x o (f x o e), fun x o e k hx => ?_, fun x o e k => ?_, fun x o e => ?_⟩
  · rcases n' x hx with z | z
    · exact n x z
    · refine .inr fun o e k => ?_
      obtain ⟨o', e', k'⟩ := t x o e k
      exact z o' e' k'
  · refine h' x o (h x o e k hx) k fun m => ?_
    rcases n x m with z | z
    · exact hx z
    · exact z o e k
  · obtain ⟨o', e', k'⟩ := t x o e k
    exact t' x o' e' k'
  · rcases g' x o e with z | z
    · exact g x o z
    · refine .inr fun o e k => ?_
      obtain ⟨o', e', k'⟩ := t x o e k
      exact z o' e' k'
theorem Ext.get (e : Ext ρ F H ρ' F' H') {i : Nat} {a : Addr} (h : ρ[i]? = some a) : ρ'[i]? = some a := by
  obtain ⟨⟨l, rfl⟩, _⟩ := e
  rw [List.getElem?_append_left (List.getElem?_eq_some_iff.mp h).1]
  exact h
theorem Ext.grow {p : Addr} (hp : H p = none) (keep : ∀ a o, H a = some o → H' a = some o) : Ext ρ F H (ρ ++ [p]) F H' := ⟨⟨[p], rfl⟩, fun a h => (List.mem_append.mp h).imp id (fun m => by rw [List.mem_singleton] at m; subst m; intro o e; rw [hp] at e; cases e), fun _ _ e => e, fun a o e _ _ => keep a o e, fun a o e k => ⟨o, keep a o e, k⟩, fun _ _ h => .inl h⟩
theorem rd_mono (e : ∀ a o, F a = some o → F' a = some o) {a : Addr} {u : HO} (h : Rd F a u) : Rd F' a u := by
  rcases h with h | ⟨o, h⟩
  · exact .inl (e _ _ h)
  · exact .inr ⟨o, e _ _ h⟩
theorem sqT_mono (e : ∀ a o, F a = some o → F' a = some o) {a : Addr} {vs : List V} (h : SqT K F a vs) : SqT K F' a vs := by
  rcases h with h | h
  · exact .inl (rd_mono e h)
  · exact .inr h
theorem sqL_mono (e : ∀ a o, F a = some o → F' a = some o) {a : Addr} {vs : List V} (h : SqL K F a vs) : SqL K F' a vs := by
  rcases h with h | h
  · exact .inl (rd_mono e h)
  · exact .inr h
mutual
theorem Rep.mono (e : Ext ρ F H ρ' F' H') : ∀ {t : T} {v : V}, Rep K F ρ t v → Rep K F' ρ' t v
  | _, _, .non => .non
  | _, _, .bl b => .bl b
  | _, _, .int i => .int i
  | _, _, .str s => .str s
  | _, _, .ref i a h => .ref i a (e.get h)
  | _, _, .tup ts vs a h r => .tup ts vs a (sqT_mono e.f h) (RepL.mono e r)
  | _, _, .lst ts vs a h r => .lst ts vs a (e.f _ _ h) (RepL.mono e r)
  | _, _, .fix ts vs a h r => .fix ts vs a (sqL_mono e.f h) (RepL.mono e r)
  | _, _, .dct kvs vs a h r => .dct kvs vs a (e.f _ _ h) (RepD.mono e r)
theorem RepL.mono (e : Ext ρ F H ρ' F' H') : ∀ {ts : List T} {vs : List V}, RepL K F ρ ts vs → RepL K F' ρ' ts vs
  | _, _, .nil => .nil
  | _, _, .cons t ts v vs h r => .cons t ts v vs (Rep.mono e h) (RepL.mono e r)
theorem RepD.mono (e : Ext ρ F H ρ' F' H') : ∀ {ts : List (T × T)} {vs : List (Key × V)}, RepD K F ρ ts vs → RepD K F' ρ' ts vs
  | _, _, .nil => .nil
  | _, _, .cons k t kvs q v vs e' h r => .cons k t kvs q v vs e' (Rep.mono e h) (RepD.mono e r)
end
theorem RepL.length : ∀ {ts : List T} {vs : List V}, RepL K F ρ ts vs → ts.length = vs.length
  | _, _, .nil => rfl
  | _, _, .cons _ _ _ _ _ r => congrArg (· + 1) (RepL.length r)
theorem RepL.get : ∀ {ts : List T} {vs : List V} {i : Nat} {t : T}, RepL K F ρ ts vs → ts[i]? = some t → ∃ v, vs[i]? = some v ∧ Rep K F ρ t v
  | _, _, _, _, .nil, e => by simp at e
  | _, _, 0, _, .cons t ts v vs h r, e => by
    simp only [List.getElem?_cons_zero, Option.some.injEq] at e
    subst e
    exact ⟨v, rfl, h⟩
  | _, _, i + 1, _, .cons t ts v vs h r, e => by
    simp only [List.getElem?_cons_succ] at e
    obtain ⟨w, h1, h2⟩ := RepL.get r e
    exact ⟨w, by simpa using h1, h2⟩
theorem RepL.append : ∀ {ts us : List T} {vs ws : List V}, RepL K F ρ ts vs → RepL K F ρ us ws → RepL K F ρ (ts ++ us) (vs ++ ws)
  | _, _, _, _, .nil, q => q
  | _, _, _, _, .cons t ts v vs h r, q => .cons t _ v _ h (RepL.append r q)
theorem RepL.set {t : T} {v : V} (q : Rep K F ρ t v) : ∀ {ts : List T} {vs : List V} (i : Nat), RepL K F ρ ts vs → RepL K F ρ (ts.set i t) (vs.set i v)
  | _, _, _, .nil => .nil
  | _, _, 0, .cons _ ts _ vs _ r => .cons _ ts _ vs q r
  | _, _, i + 1, .cons t ts v vs h r => .cons t _ v _ h (RepL.set q i r)
end

/-- fields by place against the attributes of the instance -/
structure FsRep (K : PySem.W.Frag) (F : Hp) (ρ : List Addr) (ns : List Str) (fs : List T) (fsV : List (Str × V)) : Prop where
  len : fs.length = ns.length
  at_ : ∀ (i : Nat) (n : Str) (t : T), ns[i]? = some n → fs[i]? = some t → (t = .un ∧ fsV.lookup n = none) ∨ ∃ v, Rep K F ρ t v ∧ fsV.lookup n = some v
  out : ∀ n, n ∉ ns → fsV.lookup n = none
  keys : (fsV.map (·.1)).Nodup ∧ ∀ n ∈ fsV.map (·.1), n ∈ ns

def ObRep (tb : Tb) (K : PySem.W.Frag) (F : Hp) (ρ : List Addr) (H : Hp) (a : Addr) : Ob → Prop
  | .ins c fs => ∃ dx fsV, H a = some (.ins (tb.c c) dx fsV) ∧ FsRep K F ρ (tb.fl c) fs fsV
  | .lst ts => ∃ vs, H a = some (.lst vs) ∧ RepL K F ρ ts vs
  | .dct kvs => ∃ vs, H a = some (.dK vs) ∧ RepD K F ρ kvs vs
  | .lkd kvs => ∃ od vs, H a = some (.frz od (.dK vs)) ∧ RepD K F ρ kvs vs

/-- what is fixed stands; a dict may be locked meanwhile -/
def Hd (H : Hp) (a : Addr) (o : HO) : Prop := H a = some o ∨ ∃ od kvs, o = .dK kvs ∧ H a = some (.frz od o)
structure Sim (tb : Tb) (K : PySem.W.Frag) (ρ : List Addr) (F : Hp) (M : Hs) (H : Hp) : Prop where
  sub : ∀ a o, F a = some o → Hd H a o
  len : ρ.length = M.length
  nd : ρ.Nodup
  fr : ∀ a ∈ ρ, F a = none
  ob : ∀ (i : Nat) (ob : Ob) (a : Addr), M[i]? = some ob → ρ[i]? = some a → ObRep tb K F ρ H a ob
  nt : ∀ a o, F a = some o → NT o
  tab : TabsN tb.T H

theorem Hd.there {H : Hp} {a : Addr} {o : HO} (h : Hd H a o) : ∃ u, H a = some u := by
  rcases h with h | ⟨od, kvs, _, h⟩ <;> exact ⟨_, h⟩
theorem Hd.keep {H H' : Hp} {a : Addr} {o : HO} (h : Hd H a o) (k : ∀ u, H a = some u → H' a = some u) : Hd H' a o := by
  rcases h with h | ⟨od, kvs, e, h⟩
  · exact .inl (k _ h)
  · exact .inr ⟨od, kvs, e, k _ h⟩
/-- the slots of a frame -/
structure LocR (K : PySem.W.Frag) (F : Hp) (ρ : List Addr) (τ : Loc) (σ : L2.St) : Prop where
  len : τ.length = σ.length
  at_ : ∀ (i : Nat) (t : T), τ[i]? = some t → t = .un ∨ ∃ v, σ[i]? = some (some v) ∧ Rep K F ρ t v

section
variable {tb : Tb} {K : PySem.W.Frag} {F F' : Hp} {ρ ρ' : List Addr} {M : Hs} {H : Hp} {τ : Loc} {σ : L2.St}
theorem FsRep.mono (e : Ext ρ F H ρ' F' H') {ns : List Str} {fs : List T} {fsV : List (Str × V)} (h : FsRep K F ρ ns fs fsV) : FsRep K F' ρ' ns fs fsV :=
  ⟨h.len, fun i n t h1 h2 => (h.at_ i n t h1 h2).imp id fun ⟨v, a, b⟩ => ⟨v, a.mono e, b⟩, h.out, h.keys⟩
theorem LocR.mono (e : Ext ρ F H ρ' F' H') (h : LocR K F ρ τ σ) : LocR K F' ρ' τ σ :=
  ⟨h.len, fun i t h1 => (h.at_ i t h1).imp id fun ⟨v, a, b⟩ => ⟨v, a, b.mono e⟩⟩
theorem ObRep.mono {H0 H0' : Hp} (e : Ext ρ F H0 ρ' F' H0') {H' : Hp} {a : Addr} (q : H' a = H a) : ∀ {ob : Ob}, ObRep tb K F ρ H a ob → ObRep tb K F' ρ' H' a ob
  | .ins _ _, ⟨dx, fsV, h, r⟩ => ⟨dx, fsV, by rw [q]; exact h, r.mono e⟩
  | .lst _, ⟨vs, h, r⟩ => ⟨vs, by rw [q]; exact h, r.mono e⟩
  | .dct _, ⟨vs, h, r⟩ => ⟨vs, by rw [q]; exact h, r.mono e⟩
  | .lkd _, ⟨od, vs, h, r⟩ => ⟨od, vs, by rw [q]; exact h, r.mono e⟩
theorem ObRep.there {a : Addr} : ∀ {ob : Ob}, ObRep tb K F ρ H a ob → ∃ o, H a = some o
  | .ins _ _, ⟨dx, fsV, h, r⟩ => ⟨_, h⟩
  | .lst _, ⟨vs, h, r⟩ => ⟨_, h⟩
  | .dct _, ⟨vs, h, r⟩ => ⟨_, h⟩
  | .lkd _, ⟨od, vs, h, r⟩ => ⟨_, h⟩
theorem ObRep.kind {a : Addr} : ∀ {ob : Ob}, ObRep tb K F ρ H a ob → ∃ o, H a = some o ∧ NT o ∧ ∀ φ, o ≠ .ext φ
  | .ins _ _, ⟨dx, fsV, h, r⟩ => ⟨_, h, fun _ z => (by cases z), fun _ z => (by cases z)⟩
  | .lst _, ⟨vs, h, r⟩ => ⟨_, h, fun _ z => (by cases z), fun _ z => (by cases z)⟩
  | .dct _, ⟨vs, h, r⟩ => ⟨_, h, fun _ z => (by cases z), fun _ z => (by cases z)⟩
  | .lkd _, ⟨od, vs, h, r⟩ => ⟨_, h, fun _ z => (by cases z), fun _ z => (by cases z)⟩
theorem Sim.kind (S : Sim tb K ρ F M H) {a : Addr} (h : a ∈ ρ) : ∃ o, H a = some o ∧ NT o ∧ ∀ φ, o ≠ .ext φ := by
  obtain ⟨i, hi, rfl⟩ := List.mem_iff_getElem.mp h
  have hm : i < M.length := by rw [← S.len]; exact hi
  exact (S.ob i M[i] ρ[i] (List.getElem?_eq_getElem hm) (List.getElem?_eq_getElem hi)).kind
theorem Sim.at_ (S : Sim tb K ρ F M H) {i : Nat} {ob : Ob} (h : M[i]? = some ob) : ∃ a, ρ[i]? = some a ∧ ObRep tb K F ρ H a ob := by
  have hi : i < ρ.length := by rw [S.len]; exact (List.getElem?_eq_some_iff.mp h).1
  exact ⟨ρ[i], List.getElem?_eq_getElem hi, S.ob i ob _ h (List.getElem?_eq_getElem hi)⟩
theorem Sim.mem (S : Sim tb K ρ F M H) {a : Addr} (h : a ∈ ρ) : ∃ o, H a = some o := by
  obtain ⟨i, hi, rfl⟩ := List.mem_iff_getElem.mp h
  have hm : i < M.length := by rw [← S.len]; exact hi
  obtain ⟨o, e⟩ := (S.ob i M[i] ρ[i] (List.getElem?_eq_getElem hm) (List.getElem?_eq_getElem hi)).there
  exact ⟨o, e⟩
/-- a new fixed object -/
theorem Sim.lay (S : Sim tb K ρ F M H) {p : Addr} (hp : H p = none) (o : HO) (ho : NT o := by intro _ z; cases z) : Sim tb K ρ (upd F p o) M (upd H p o) ∧ Ext ρ F H ρ (upd F p o) (upd H p o) := by
  have hF : F p = none := by
    cases e : F p with
    | none => rfl
    | some u =>
      obtain ⟨z, q⟩ := (S.sub _ _ e).there
      rw [q] at hp; cases hp
  have kp : ∀ a u, H a = some u → upd H p o a = some u := fun a u e => by rw [upd_ne (ne_of_none e hp)]; exact e
  have ex : Ext ρ F H ρ (upd F p o) (upd H p o) := ⟨⟨[], (List.append_nil _).symm⟩, fun _ h => .inl h, fun a u e => by
    rw [upd_ne (ne_of_none e hF)]; exact e, fun a u e _ _ => kp a u e, fun a u e k => ⟨u, kp a u e, k⟩, fun a u e => by
    by_cases q : a = p
    · subst q; exact .inr fun o z => by rw [hp] at z; cases z
    · rw [upd_ne q] at e; exact .inl e⟩
  refine ⟨⟨fun a u e => ?_, S.len, S.nd, fun a ha => ?_, fun i ob a h1 h2 => ?_, fun a u e => ?_, S.tab.ext kp⟩, ex⟩
  · by_cases q : a = p
    · subst q; rw [upd_same] at e; exact .inl (by rw [upd_same]; exact e)
    · rw [upd_ne q] at e; exact (S.sub a u e).keep fun u h => by rw [upd_ne q]; exact h
  · obtain ⟨u, e⟩ := S.mem ha
    rw [upd_ne (ne_of_none e hp)]
    exact S.fr a ha
  · have r := S.ob i ob a h1 h2
    obtain ⟨u, e⟩ := r.there
    exact r.mono ex (upd_ne (ne_of_none e hp))
  · by_cases q : a = p
    · subst q; rw [upd_same] at e; cases e; exact ho
    · rw [upd_ne q] at e; exact S.nt a u e
/-- a new object that may change -/
theorem Sim.add (S : Sim tb K ρ F M H) {p : Addr} {H' : Hp} {ob : Ob} (hp : H p = none) (keep : ∀ a o, H a = some o → H' a = some o) (h : ObRep tb K F (ρ ++ [p]) H' p ob) :
    Sim tb K (ρ ++ [p]) F (M ++ [ob]) H' ∧ Ext ρ F H (ρ ++ [p]) F H' := by
  have hF : F p = none := by
    cases e : F p with
    | none => rfl
    | some u =>
      obtain ⟨z, q⟩ := (S.sub _ _ e).there
      rw [q] at hp; cases hp
  have ex : Ext ρ F H (ρ ++ [p]) F H' := Ext.grow hp keep
  have hn : p ∉ ρ := fun hm => by obtain ⟨o, e⟩ := S.mem hm; rw [hp] at e; cases e
  refine ⟨⟨fun a o e => (S.sub a o e).keep fun u h => keep _ _ h, by simp [S.len], ?_, fun a ha => ?_, fun i o a h1 h2 => ?_, S.nt, S.tab.ext keep⟩, ex⟩
  · rw [List.nodup_append]
    refine ⟨S.nd, by simp, fun a ha b hb e => ?_⟩
    rw [List.mem_singleton] at hb
    subst hb; subst e
    exact hn ha
  · rcases List.mem_append.mp ha with q | q
    · exact S.fr a q
    · rw [List.mem_singleton] at q; subst q; exact hF
  · by_cases hi : i < M.length
    · rw [List.getElem?_append_left hi] at h1
      rw [List.getElem?_append_left (by rw [S.len]; exact hi)] at h2
      have r := S.ob i o a h1 h2
      obtain ⟨u, e⟩ := r.there
      exact r.mono ex (by rw [keep _ _ e, e])
    · have e1 : i = M.length := by
        have := (List.getElem?_eq_some_iff.mp h1).1
        rw [List.length_append, List.length_singleton] at this
        omega
      subst e1
      rw [List.getElem?_append_right (Nat.le_refl _), Nat.sub_self] at h1
      rw [List.getElem?_append_right (by rw [S.len]; exact Nat.le_refl _), S.len, Nat.sub_self] at h2
      simp only [List.getElem?_cons_zero, Option.some.injEq] at h1 h2
      subst h1; subst h2
      exact h
/-- the tables grow -/
theorem Sim.grow {H' : Hp} (S : Sim tb K ρ F M H) (e : LamX.ExtN H H') (t : TabsN tb.T H') : Sim tb K ρ F M H' ∧ Ext ρ F H ρ F H' := by
  have ex : Ext ρ F H ρ F H' := ⟨⟨[], (List.append_nil _).symm⟩, fun _ h => .inl h, fun _ _ e => e, fun a o q k _ => e a o q k, fun a o q k => ⟨o, e a o q k, k⟩, fun _ _ h => .inl h⟩
  refine ⟨⟨fun a o q => ?_, S.len, S.nd, S.fr, fun i ob a h1 h2 => ?_, S.nt, t⟩, ex⟩
  · rcases S.sub a o q with z | ⟨od, kvs, rfl, z⟩
    · exact .inl (e a o z (S.nt a o q))
    · exact .inr ⟨od, kvs, rfl, e a _ z fun _ z => by cases z⟩
  · have r := S.ob i ob a h1 h2
    obtain ⟨o, q, k, _⟩ := r.kind
    exact r.mono (Ext.refl (H := H)) (by rw [e a o q k, q])
/-- an object changes -/
theorem Ext.put {a : Addr} {o : HO} (ha : a ∈ ρ) (ho : NT o := by intro _ z; cases z) : Ext ρ F H ρ F (upd H a o) := by
  refine ⟨⟨[], (List.append_nil _).symm⟩, fun _ h => .inl h, fun _ _ e => e, fun b u e _ hb => ?_, fun b u e k => ?_, fun _ _ h => .inl h⟩
  · rw [upd_ne (fun z : b = a => hb (by rw [z]; exact ha))]; exact e
  · by_cases z : b = a
    · subst z; exact ⟨_, upd_same, ho⟩
    · exact ⟨u, by rw [upd_ne z]; exact e, k⟩
theorem Sim.put (S : Sim tb K ρ F M H) {i : Nat} {a : Addr} {o : HO} {ob : Ob} (hi : ρ[i]? = some a) (h : ObRep tb K F ρ (upd H a o) a ob) : Sim tb K ρ F (M.set i ob) (upd H a o) := by
  have ha : a ∈ ρ := List.mem_of_getElem? hi
  have hF := S.fr a ha
  obtain ⟨oa, qa, ka, ca⟩ := S.kind ha
  refine ⟨fun b u e => ?_, by simp [S.len], S.nd, S.fr, fun j o' b h1 h2 => ?_, S.nt, fun p hp => ?_⟩
  · exact (S.sub b u e).keep fun z h => by rw [upd_ne (ne_of_none e hF)]; exact h
  · by_cases hj : i = j
    · subst hj
      rw [hi] at h2; cases h2
      have hl : i < M.length := by rw [← S.len]; exact (List.getElem?_eq_some_iff.mp hi).1
      rw [List.getElem?_set_self hl] at h1
      cases h1
      exact h
    · rw [List.getElem?_set_ne hj] at h1
      have ne : b ≠ a := fun e => by
        subst e
        obtain ⟨q1, e1⟩ := List.getElem?_eq_some_iff.mp hi
        obtain ⟨q2, e2⟩ := List.getElem?_eq_some_iff.mp h2
        exact hj ((List.getElem_inj S.nd).mp (e1.trans e2.symm))
      exact (S.ob j o' b h1 h2).mono (Ext.refl (H := H)) (upd_ne ne)
  · obtain ⟨ps, h1, h2, h3⟩ := S.tab p hp
    refine ⟨ps, ?_, h2, fun pos cv hc => ?_⟩
    · rw [upd_ne fun z => ?_]
      · exact h1
      · rw [z, qa] at h1; cases h1; exact ka _ rfl
    · obtain ⟨c, e1, e2⟩ := h3 pos cv hc
      refine ⟨c, e1, ?_⟩
      rw [upd_ne fun z => ?_]
      · exact e2
      · rw [z, qa] at e2; exact ca _ (Option.some.inj e2)
theorem LocR.set (L : LocR K F ρ τ σ) {t : T} {v : V} (r : Rep K F ρ t v) (i : Nat) : LocR K F ρ (τ.set i t) (σ.set i (some v)) := by
  refine ⟨by simp [L.len], fun j u h => ?_⟩
  by_cases hj : i = j
  · subst hj
    have hl : i < τ.length := by
      have := (List.getElem?_eq_some_iff.mp h).1
      simpa using this
    rw [List.getElem?_set_self hl] at h
    cases h
    refine .inr ⟨v, ?_, r⟩
    rw [List.getElem?_set_self (by rw [← L.len]; exact hl)]
  · rw [List.getElem?_set_ne hj] at h
    rw [List.getElem?_set_ne hj]
    exact L.at_ j u h
end

/-! ### readings of mirrors -/
/-- what is wanted of a result -/
def RP {α : Type} (tb : Tb) (K : PySem.W.Frag) (ρ : List Addr) (F H : Hp) (E : Nat → Hp → Prop) (G : α → List Addr → Hp → Hp → Prop) : Res α → Prop
  | .ok a M' => ∀ ρ' F' H', Ext ρ F H ρ' F' H' → Sim tb K ρ' F' M' H' → G a ρ' F' H'
  | .ex c M' => ∀ ρ' F' H', Ext ρ F H ρ' F' H' → Sim tb K ρ' F' M' H' → E c H'
  | .bad => False
theorem RP.mono {α : Type} {tb : Tb} {K : PySem.W.Frag} {ρ ρ' : List Addr} {F F' H H' : Hp} {E : Nat → Hp → Prop} {G : α → List Addr → Hp → Hp → Prop} (e : Ext ρ F H ρ' F' H') : ∀ {r : Res α}, RP tb K ρ F H E G r → RP tb K ρ' F' H' E G r
  | .ok _ _, h => fun ρ2 F2 H2 e2 S => h ρ2 F2 H2 (e.trans e2) S
  | .ex _ _, h => fun ρ2 F2 H2 e2 S => h ρ2 F2 H2 (e.trans e2) S
  | .bad, h => h
theorem RP.imp {α : Type} {tb : Tb} {K : PySem.W.Frag} {ρ : List Addr} {F H : Hp} {E : Nat → Hp → Prop} {G G' : α → List Addr → Hp → Hp → Prop} (g : ∀ a ρ' F' H', Ext ρ F H ρ' F' H' → G a ρ' F' H' → G' a ρ' F' H') : ∀ {r : Res α}, RP tb K ρ F H E G r → RP tb K ρ F H E G' r
  | .ok _ _, h => fun ρ2 F2 H2 e2 S => g _ _ _ _ e2 (h ρ2 F2 H2 e2 S)
  | .ex _ _, h => fun ρ2 F2 H2 e2 S => h ρ2 F2 H2 e2 S
  | .bad, h => h
theorem RP.bind {α β : Type} {tb : Tb} {K : PySem.W.Frag} {ρ : List Addr} {F H : Hp} {E : Nat → Hp → Prop} {G : β → List Addr → Hp → Hp → Prop} {k : α → Hs → Res β} : ∀ {r : Res α}, RP tb K ρ F H E G (r.bind k) →
    RP tb K ρ F H E (fun a ρ' F' H' => ∃ M', r = .ok a M' ∧ Sim tb K ρ' F' M' H' ∧ RP tb K ρ' F' H' E G (k a M')) r
  | .ok _ M, h => fun ρ2 F2 H2 e2 S => ⟨M, rfl, S, RP.mono e2 h⟩
  | .ex _ _, h => fun ρ2 F2 H2 e2 S => h ρ2 F2 H2 e2 S
  | .bad, h => h

abbrev WE1 (tb : Tb) (W : WX) (σ : L2.St) : Nat → Hp → Prop := fun c H => W (.ref (tb.c c)) none σ H
def tM (tb : Tb) (K : PySem.W.Frag) (W : WX) (m : EM) : TE := fun σ H Q => ∃ ρ F M τ, Sim tb K ρ F M H ∧ LocR K F ρ τ σ ∧ RP tb K ρ F H (WE1 tb W σ) (fun t ρ' F' H' => ∀ v, Rep K F' ρ' t v → Q v H') (m τ M)
def tTM (tb : Tb) (K : PySem.W.Frag) (W : WX) (m : TM) : TT := fun σ H Q => ∃ ρ F M τ, Sim tb K ρ F M H ∧ LocR K F ρ τ σ ∧ RP tb K ρ F H (WE1 tb W σ) (fun b _ _ H' => Q b H') (m τ M)
def tAM (tb : Tb) (K : PySem.W.Frag) (W : WX) (m : AM) : TA := fun σ H Q => ∃ ρ F M τ, Sim tb K ρ F M H ∧ LocR K F ρ τ σ ∧ RP tb K ρ F H (WE1 tb W σ) (fun ts ρ' F' H' => ∀ vs, RepL K F' ρ' ts vs → Q vs H') (m τ M)

def SP1 (tb : Tb) (K : PySem.W.Frag) (W : WX) (ρ : List Addr) (F H : Hp) (D : Ends) : SRes → Prop
  | .nx τ' M' => ∀ ρ' F' H' σ', Ext ρ F H ρ' F' H' → Sim tb K ρ' F' M' H' → LocR K F' ρ' τ' σ' → D.nx σ' H'
  | .rt t M' => ∀ ρ' F' H' v, Ext ρ F H ρ' F' H' → Sim tb K ρ' F' M' H' → Rep K F' ρ' t v → D.rt v H'
  | .bk τ' M' => ∀ ρ' F' H' σ', Ext ρ F H ρ' F' H' → Sim tb K ρ' F' M' H' → LocR K F' ρ' τ' σ' → D.bk σ' H'
  | .ct τ' M' => ∀ ρ' F' H' σ', Ext ρ F H ρ' F' H' → Sim tb K ρ' F' M' H' → LocR K F' ρ' τ' σ' → D.ct σ' H'
  | .ex c M' => ∀ ρ' F' H' σ', Ext ρ F H ρ' F' H' → Sim tb K ρ' F' M' H' → W (.ref (tb.c c)) none σ' H'
  | .bad => False
theorem SP1.mono {tb : Tb} {K : PySem.W.Frag} {W : WX} {ρ ρ' : List Addr} {F F' H H' : Hp} {D : Ends} (e : Ext ρ F H ρ' F' H') : ∀ {r : SRes}, SP1 tb K W ρ F H D r → SP1 tb K W ρ' F' H' D r
  | .nx _ _, h => fun ρ2 F2 H2 σ' e2 S L => h ρ2 F2 H2 σ' (e.trans e2) S L
  | .rt _ _, h => fun ρ2 F2 H2 v e2 S R => h ρ2 F2 H2 v (e.trans e2) S R
  | .bk _ _, h => fun ρ2 F2 H2 σ' e2 S L => h ρ2 F2 H2 σ' (e.trans e2) S L
  | .ct _ _, h => fun ρ2 F2 H2 σ' e2 S L => h ρ2 F2 H2 σ' (e.trans e2) S L
  | .ex _ _, h => fun ρ2 F2 H2 σ' e2 S => h ρ2 F2 H2 σ' (e.trans e2) S
  | .bad, h => h
def tSM (tb : Tb) (K : PySem.W.Frag) (W : WX) (m : SM) : TS := fun D σ H => ∃ ρ F M τ, Sim tb K ρ F M H ∧ LocR K F ρ τ σ ∧ SP1 tb K W ρ F H D (m τ M)
end Mi
namespace Mi
open PySem PySem.Spec PyProof.Rows L2

section
variable {X : Cx}
theorem pe_imp {e : Expr} {t t' : TE} (h : PE X e t) (g : ∀ σ H Q, t' σ H Q → t σ H Q) : PE X e t' := ⟨fun pins s σ H Q I q => h.run pins s σ H Q I (g σ H Q q)⟩
theorem pt_imp {e : Expr} {t t' : TT} (h : PT X e t) (g : ∀ σ H Q, t' σ H Q → t σ H Q) : PT X e t' := ⟨fun pins s σ H Q I q => h.run pins s σ H Q I (g σ H Q q)⟩
theorem pw_imp {e : Expr} {t t' : TT} (h : PW X e t) (g : ∀ σ H Q, t' σ H Q → t σ H Q) : PW X e t' := ⟨fun wh pins s σ H Q I q => h.run wh pins s σ H Q I (g σ H Q q)⟩
theorem pa_imp {e : List Expr} {t t' : TA} (h : PA X e t) (g : ∀ σ H Q, t' σ H Q → t σ H Q) : PA X e t' := ⟨fun pos pins s σ H Q I q => h.run pos pins s σ H Q I (g σ H Q q)⟩
theorem ps_imp {e : Stmt} {t t' : TS} (h : PS X e t) (g : ∀ D σ H, t' D σ H → t D σ H) : PS X e t' := ⟨fun pins s σ H D I q => h.run pins s σ H D I (g D σ H q)⟩
theorem pss_imp {e : List Stmt} {t t' : TS} (h : PSs X e t) (g : ∀ D σ H, t' D σ H → t D σ H) : PSs X e t' := ⟨fun pins s σ H D I q => h.run pins s σ H D I (g D σ H q)⟩
theorem pe_alt {e : Expr} {t t' : TE} (h : PE X e t) (h' : PE X e t') : PE X e (fun σ H Q => t σ H Q ∨ t' σ H Q) := ⟨fun pins s σ H Q I q => q.elim (h.run pins s σ H Q I) (h'.run pins s σ H Q I)⟩
theorem ps_alt {e : Stmt} {t t' : TS} (h : PS X e t) (h' : PS X e t') : PS X e (fun D σ H => t D σ H ∨ t' D σ H) := ⟨fun pins s σ H D I q => q.elim (h.run pins s σ H D I) (h'.run pins s σ H D I)⟩
end

abbrev GM (K : PySem.W.Frag) (Q : VK) : T → List Addr → Hp → Hp → Prop := fun t ρ' F' H' => ∀ v, Rep K F' ρ' t v → Q v H'
theorem RP.here {α : Type} {tb : Tb} {K : PySem.W.Frag} {ρ : List Addr} {F : Hp} {M : Hs} {H : Hp} {E : Nat → Hp → Prop} {G : α → List Addr → Hp → Hp → Prop} {a : α} (S : Sim tb K ρ F M H) (h : RP tb K ρ F H E G (.ok a M)) : G a ρ F H := h ρ F H .refl S

def okT : T → Hs → Res T
  | .un, _ => .bad
  | t, M => .ok t M
theorem okT_of {t : T} {M : Hs} (h : t ≠ .un) : okT t M = .ok t M := by
  cases t <;> first | rfl | exact absurd rfl h

/-! ### mirrors of expressions -/
def mC (t : T) : EM := fun _ M => .ok t M
def mVar (i : Nat) : EM := fun τ M => okT (τ.getD i .un) M
def mOp2 (f : T → T → Hs → Res T) (a b : EM) : EM := fun τ M => (a τ M).bind fun x M1 => (b τ M1).bind fun y M2 => f x y M2
def mOp1 (f : T → Hs → Res T) (a : EM) : EM := fun τ M => (a τ M).bind f
def mNil : AM := fun _ M => .ok [] M
def mCons (a : EM) (b : AM) : AM := fun τ M => (a τ M).bind fun x M1 => (b τ M1).bind fun xs M2 => .ok (x :: xs) M2
def mApp (f : List T → Hs → Res T) (a : AM) : EM := fun τ M => (a τ M).bind f
def mBool (a : EM) : TM := fun τ M => (a τ M).bind fun t M1 => match t with | .bl b => .ok b M1 | _ => .bad
def mOfB (a : TM) : EM := fun τ M => (a τ M).bind fun b M1 => .ok (.bl b) M1
def mAnd (a b : TM) : TM := fun τ M => (a τ M).bind fun x M1 => if x then b τ M1 else .ok false M1
def mOr (a b : TM) : TM := fun τ M => (a τ M).bind fun x M1 => if x then .ok true M1 else b τ M1
def mNot (a : TM) : TM := fun τ M => (a τ M).bind fun x M1 => .ok (!x) M1
def mIfE (c : TM) (a b : EM) : EM := fun τ M => (c τ M).bind fun x M1 => if x then a τ M1 else b τ M1
def mTup (a : AM) : EM := fun τ M => (a τ M).bind fun xs M1 => .ok (.tup xs) M1
def mLst (a : AM) : EM := fun τ M => (a τ M).bind fun xs M1 => .ok (.lst xs) M1
/-- a list that may change -/
def mLstR (a : AM) : EM := fun τ M => (a τ M).bind fun xs M1 => .ok (.ref M1.length) (M1 ++ [.lst xs])

section
variable {X : Cx} {tb : Tb} {W : WX} {σ : L2.St} {H : Hp} {Q : VK}

theorem mE_var (i : Nat) {x : Str} {pos : Pos} (hN : X.N[i]? = some x := by rfl) (hv : Vis X.env.scope x := by first | exact Or.inl rfl | exact Or.inr (Or.inl rfl) | exact Or.inr (Or.inr rfl))
    (hd : (x == ("__debug__" : Str)) = false := by decide) (hcd : (x == ("__classdict__" : Str)) = false := by decide) : PE X (.Name x pos) (tM tb X.K W (mVar i)) := by
  refine pe_imp (pe_var hN hv hd hcd) fun σ H Q h => ?_
  obtain ⟨ρ, F, M, τ, S, L, p⟩ := h
  unfold mVar at p
  cases e : τ[i]? with
  | none =>
    rw [List.getD_eq_getElem?_getD, e] at p
    exact p.elim
  | some t =>
    rw [List.getD_eq_getElem?_getD, e] at p
    rcases L.at_ i t e with rfl | ⟨v, h1, h2⟩
    · exact p.elim
    · have hu : t ≠ .un := fun z => by subst z; cases h2
      rw [show Option.getD (some t) T.un = t from rfl, okT_of hu] at p
      exact ⟨v, h1, RP.here S p v h2⟩

theorem mE_const {e : Expr} {t : T} {v : V} (h : PE X e (tC v)) (r : ∀ (F : Hp) (ρ : List Addr), Rep X.K F ρ t v) : PE X e (tM tb X.K W (mC t)) := by
  refine pe_imp h fun σ H Q h => ?_
  obtain ⟨ρ, F, M, τ, S, L, p⟩ := h
  exact RP.here S p v (r F ρ)
theorem mE_int {i : Int} {j : Nat} {pos : Pos} : PE X (.Constant (.int i) j pos) (tM tb X.K W (mC (.int i))) := mE_const pe_int fun _ _ => .int i
theorem mE_bl {b : Bool} {j : Nat} {pos : Pos} : PE X (.Constant (.bool b) j pos) (tM tb X.K W (mC (.bl b))) := mE_const pe_bl fun _ _ => .bl b
theorem mE_non {j : Nat} {pos : Pos} : PE X (.Constant .none j pos) (tM tb X.K W (mC .non)) := mE_const pe_non fun _ _ => .non
theorem mE_str (s : List Nat) {x : Str} {j : Nat} {pos : Pos} (h : x = ⟨s.toArray⟩ := by rfl) : PE X (.Constant (.str x) j pos) (tM tb X.K W (mC (.str s))) := by
  subst h
  exact mE_const pe_str fun _ _ => .str s
theorem mE_glob {x : Str} {t : T} {v : V} {u : Value} {pos : Pos} (hm : X.mg x = some u) (r : RelV v u) (q : ∀ (F : Hp) (ρ : List Addr), Rep X.K F ρ t v) (hg : Gl X x := by rfl) (hd : (x == ("__debug__" : Str)) = false := by decide) :
    PE X (.Name x pos) (tM tb X.K W (mC t)) := mE_const (pe_glob hg hm r hd) q

/-- an operation on values -/
def Op2 (tb : Tb) (K : PySem.W.Frag) (f : T → T → Hs → Res T) (r : R2) : Prop :=
  ∀ (E : Nat → Hp → Prop) (ρ : List Addr) (F : Hp) (M : Hs) (H : Hp) (Q : VK) (a b : T) (x y : V), Sim tb K ρ F M H → Rep K F ρ a x → Rep K F ρ b y → RP tb K ρ F H E (GM K Q) (f a b M) → r x y H Q
def Op1 (tb : Tb) (K : PySem.W.Frag) (f : T → Hs → Res T) (r : V → Hp → VK → Prop) : Prop :=
  ∀ (E : Nat → Hp → Prop) (ρ : List Addr) (F : Hp) (M : Hs) (H : Hp) (Q : VK) (a : T) (x : V), Sim tb K ρ F M H → Rep K F ρ a x → RP tb K ρ F H E (GM K Q) (f a M) → r x H Q
def OpN (tb : Tb) (K : PySem.W.Frag) (f : List T → Hs → Res T) (r : List V → Hp → VK → Prop) : Prop :=
  ∀ (E : Nat → Hp → Prop) (ρ : List Addr) (F : Hp) (M : Hs) (H : Hp) (Q : VK) (a : List T) (x : List V), Sim tb K ρ F M H → RepL K F ρ a x → RP tb K ρ F H E (GM K Q) (f a M) → r x H Q

theorem one {f : T → Hs → Res T} {r : V → Hp → VK → Prop} {ma : EM} {K : PySem.W.Frag} (hf : Op1 tb K f r) (h : tM tb K W (mOp1 f ma) σ H Q) : tUn r (tM tb K W ma) σ H Q := by
  obtain ⟨ρ, F, M, τ, S, L, p⟩ := h
  refine ⟨ρ, F, M, τ, S, L, (RP.bind p).imp fun a ρ1 F1 H1 e1 q v r1 => ?_⟩
  obtain ⟨M1, _, S1, p1⟩ := q
  exact hf _ ρ1 F1 M1 H1 Q a v S1 r1 p1
theorem two {f : T → T → Hs → Res T} {r : R2} {ma mb : EM} {K : PySem.W.Frag} (hf : Op2 tb K f r) (h : tM tb K W (mOp2 f ma mb) σ H Q) : tOp r (tM tb K W ma) (tM tb K W mb) σ H Q := by
  obtain ⟨ρ, F, M, τ, S, L, p⟩ := h
  refine ⟨ρ, F, M, τ, S, L, (RP.bind p).imp fun a ρ1 F1 H1 e1 q v r1 => ?_⟩
  obtain ⟨M1, _, S1, p1⟩ := q
  refine ⟨ρ1, F1, M1, τ, S1, L.mono e1, (RP.bind p1).imp fun b ρ2 F2 H2 e2 q2 w r2 => ?_⟩
  obtain ⟨M2, _, S2, p2⟩ := q2
  exact hf _ ρ2 F2 M2 H2 Q a b v w S2 (r1.mono e2) r2 p2
theorem many {f : List T → Hs → Res T} {r : List V → Hp → VK → Prop} {ma : AM} {K : PySem.W.Frag} (hf : OpN tb K f r) (h : tM tb K W (mApp f ma) σ H Q) : tCB r (tAM tb K W ma) σ H Q := by
  obtain ⟨ρ, F, M, τ, S, L, p⟩ := h
  refine ⟨ρ, F, M, τ, S, L, (RP.bind p).imp fun a ρ1 F1 H1 e1 q v r1 => ?_⟩
  obtain ⟨M1, _, S1, p1⟩ := q
  exact hf _ ρ1 F1 M1 H1 Q a v S1 r1 p1

theorem mE_op {op : Operator} {a b : Expr} {pos : Pos} {f : T → T → Hs → Res T} {r : R2} {ma mb : EM} (ho : OpR X (binaryOp op) r) (hf : Op2 tb X.K f r) (ha : PE X a (tM tb X.K W ma)) (hb : PE X b (tM tb X.K W mb)) :
    PE X (.BinOp a op b pos) (tM tb X.K W (mOp2 f ma mb)) := pe_imp (pe_op ho ha hb) fun _ _ _ h => two hf h
theorem mE_un {op : UnaryOp} {a : Expr} {pos : Pos} {f : T → Hs → Res T} {r : V → Hp → VK → Prop} {ma : EM} (ho : UnR X (unaryOp op) r) (hf : Op1 tb X.K f r) (ha : PE X a (tM tb X.K W ma)) :
    PE X (.UnaryOp op a pos) (tM tb X.K W (mOp1 f ma)) := pe_imp (pe_un ho ha) fun _ _ _ h => one hf h
theorem mE_cmp {op : CmpOp} {a b : Expr} {pos : Pos} {f : T → T → Hs → Res T} {r : R2} {ma mb : EM} (ho : OpR X (compareOp op) r) (hf : Op2 tb X.K f r) (ha : PE X a (tM tb X.K W ma)) (hb : PE X b (tM tb X.K W mb))
    (hm : behindInMarks op b = false := by first | exact nomark _ | rfl) : PE X (.Compare a [op] [b] pos) (tM tb X.K W (mOp2 f ma mb)) := pe_imp (pe_cmpR ho ha hb hm) fun _ _ _ h => two hf h
theorem bools {m : EM} {K : PySem.W.Frag} {Qb : Bool → Hp → Prop} (h : tTM tb K W (mBool m) σ H Qb) : tM tb K W m σ H (fun x H' => ∃ k, x = .bl k ∧ Qb k H') := by
  obtain ⟨ρ, F, M, τ, S, L, p⟩ := h
  refine ⟨ρ, F, M, τ, S, L, (RP.bind p).imp fun a ρ1 F1 H1 e1 q v r1 => ?_⟩
  obtain ⟨M1, _, S1, p1⟩ := q
  cases r1 with
  | bl b => exact ⟨b, rfl, RP.here S1 p1⟩
  | _ => exact p1.elim
theorem mT_cmp {op : CmpOp} {a b : Expr} {pos : Pos} {f : T → T → Hs → Res T} {r : R2} {ma mb : EM} (ho : OpR X (compareOp op) r) (hf : Op2 tb X.K f r) (ha : PE X a (tM tb X.K W ma)) (hb : PE X b (tM tb X.K W mb))
    (hm : behindInMarks op b = false := by first | exact nomark _ | rfl) : PT X (.Compare a [op] [b] pos) (tTM tb X.K W (mBool (mOp2 f ma mb))) := pt_imp (pt_cmpR ho ha hb hm) fun _ _ _ h => two hf (bools h)
/-- an expression that gives a bool, as a test -/
theorem mT_val {e : Expr} {m : EM} (h : PE X e (tM tb X.K W m)) (he : ∀ whole, isTrue e X.env whole = (do let v ← whole; standAt e.pos; holding [v] (truthy v)) := by intro _; rfl) : PT X e (tTM tb X.K W (mBool m)) :=
  pt_imp (pt_val h he) fun _ _ _ h => bools h
theorem mT_and {a b : Expr} {rest : List Expr} {pos : Pos} {ma mb : TM} (ha : PT X a (tTM tb X.K W ma)) (hb : PW X (.BoolOp .And (b :: rest) pos) (tTM tb X.K W mb)) : PW X (.BoolOp .And (a :: b :: rest) pos) (tTM tb X.K W (mAnd ma mb)) := by
  refine pw_imp (pw_and ha hb) fun σ H Q h => ?_
  obtain ⟨ρ, F, M, τ, S, L, p⟩ := h
  refine ⟨ρ, F, M, τ, S, L, (RP.bind p).imp fun x ρ1 F1 H1 e1 q => ?_⟩
  obtain ⟨M1, _, S1, p1⟩ := q
  cases x with
  | true => exact ⟨ρ1, F1, M1, τ, S1, L.mono e1, p1⟩
  | false => exact RP.here S1 p1
theorem mT_or {a b : Expr} {rest : List Expr} {pos : Pos} {ma mb : TM} (ha : PT X a (tTM tb X.K W ma)) (hb : PW X (.BoolOp .Or (b :: rest) pos) (tTM tb X.K W mb)) : PW X (.BoolOp .Or (a :: b :: rest) pos) (tTM tb X.K W (mOr ma mb)) := by
  refine pw_imp (pw_or ha hb) fun σ H Q h => ?_
  obtain ⟨ρ, F, M, τ, S, L, p⟩ := h
  refine ⟨ρ, F, M, τ, S, L, (RP.bind p).imp fun x ρ1 F1 H1 e1 q => ?_⟩
  obtain ⟨M1, _, S1, p1⟩ := q
  cases x with
  | true => exact RP.here S1 p1
  | false => exact ⟨ρ1, F1, M1, τ, S1, L.mono e1, p1⟩
theorem mT_not {a : Expr} {pos : Pos} {ma : TM} (ha : PT X a (tTM tb X.K W ma)) : PT X (.UnaryOp .Not a pos) (tTM tb X.K W (mNot ma)) := by
  refine pt_imp (pt_not ha) fun σ H Q h => ?_
  obtain ⟨ρ, F, M, τ, S, L, p⟩ := h
  refine ⟨ρ, F, M, τ, S, L, (RP.bind p).imp fun x ρ1 F1 H1 e1 q => ?_⟩
  obtain ⟨M1, _, S1, p1⟩ := q
  exact RP.here S1 p1
/-- the same as values: all bools -/
theorem mE_notB {a : Expr} {pos : Pos} {ma : EM} (ha : PE X a (tM tb X.K W ma)) : PE X (.UnaryOp .Not a pos) (tM tb X.K W (mOfB (mNot (mBool ma)))) := by
  refine pe_imp (pe_not ha) fun σ H Q h => ?_
  refine bools (Qb := fun c H1 => Q (.bl (!c)) H1) ?_
  obtain ⟨ρ, F, M, τ, S, L, p⟩ := h
  refine ⟨ρ, F, M, τ, S, L, ?_⟩
  have p' := RP.bind p
  unfold mNot at p'
  refine (RP.bind p').imp fun x ρ1 F1 H1 e1 q => ?_
  obtain ⟨M1, e2, S1, p1⟩ := q
  obtain ⟨M2, e3, S2, p2⟩ := RP.here S1 p1
  exact RP.here S2 p2 _ (.bl _)
theorem mE_and {a b : Expr} {rest : List Expr} {pos : Pos} {ma mb : EM} (ha : PE X a (tM tb X.K W ma)) (hb : PE X (.BoolOp .And (b :: rest) pos) (tM tb X.K W mb)) : PE X (.BoolOp .And (a :: b :: rest) pos) (tM tb X.K W (mIfE (mBool ma) mb (mC (.bl false)))) := by
  refine pe_imp (pe_and ha hb) fun σ H Q h => ?_
  refine bools (Qb := fun c H1 => if c = true then tM tb X.K W mb σ H1 Q else Q (.bl false) H1) ?_
  obtain ⟨ρ, F, M, τ, S, L, p⟩ := h
  refine ⟨ρ, F, M, τ, S, L, (RP.bind p).imp fun x ρ1 F1 H1 e1 q => ?_⟩
  obtain ⟨M1, _, S1, p1⟩ := q
  cases x with
  | true => exact ⟨ρ1, F1, M1, τ, S1, L.mono e1, p1⟩
  | false => exact RP.here S1 p1 _ (.bl _)
theorem mE_or {a b : Expr} {rest : List Expr} {pos : Pos} {ma mb : EM} (ha : PE X a (tM tb X.K W ma)) (hb : PE X (.BoolOp .Or (b :: rest) pos) (tM tb X.K W mb)) : PE X (.BoolOp .Or (a :: b :: rest) pos) (tM tb X.K W (mIfE (mBool ma) (mC (.bl true)) mb)) := by
  refine pe_imp (pe_or ha hb) fun σ H Q h => ?_
  refine bools (Qb := fun c H1 => if c = true then Q (.bl true) H1 else tM tb X.K W mb σ H1 Q) ?_
  obtain ⟨ρ, F, M, τ, S, L, p⟩ := h
  refine ⟨ρ, F, M, τ, S, L, (RP.bind p).imp fun x ρ1 F1 H1 e1 q => ?_⟩
  obtain ⟨M1, _, S1, p1⟩ := q
  cases x with
  | true => exact RP.here S1 p1 _ (.bl _)
  | false => exact ⟨ρ1, F1, M1, τ, S1, L.mono e1, p1⟩
theorem mE_ifE {c a b : Expr} {pos : Pos} {mc : TM} {ma mb : EM} (hc : PT X c (tTM tb X.K W mc)) (ha : PE X a (tM tb X.K W ma)) (hb : PE X b (tM tb X.K W mb)) : PE X (.IfExp c a b pos) (tM tb X.K W (mIfE mc ma mb)) := by
  refine pe_imp (pe_ifExp hc ha hb) fun σ H Q h => ?_
  obtain ⟨ρ, F, M, τ, S, L, p⟩ := h
  refine ⟨ρ, F, M, τ, S, L, (RP.bind p).imp fun x ρ1 F1 H1 e1 q => ?_⟩
  obtain ⟨M1, _, S1, p1⟩ := q
  cases x with
  | true => exact ⟨ρ1, F1, M1, τ, S1, L.mono e1, p1⟩
  | false => exact ⟨ρ1, F1, M1, τ, S1, L.mono e1, p1⟩

/-! ### argument lists, displays -/
theorem mA_nil : PA X [] (tAM tb X.K W mNil) := pa_imp pa_nil fun σ H Q ⟨ρ, F, M, τ, S, L, p⟩ => RP.here S p [] .nil
theorem mA_cons {e : Expr} {es : List Expr} {ma : EM} {mb : AM} (ha : PE X e (tM tb X.K W ma)) (hb : PA X es (tAM tb X.K W mb)) (hs : starEach (e :: es) X.env = (false, eval e X.env) :: starEach es X.env := by rfl) :
    PA X (e :: es) (tAM tb X.K W (mCons ma mb)) := by
  refine pa_imp (pa_cons ha hb hs) fun σ H Q h => ?_
  obtain ⟨ρ, F, M, τ, S, L, p⟩ := h
  refine ⟨ρ, F, M, τ, S, L, (RP.bind p).imp fun a ρ1 F1 H1 e1 q v r1 => ?_⟩
  obtain ⟨M1, _, S1, p1⟩ := q
  refine ⟨ρ1, F1, M1, τ, S1, L.mono e1, (RP.bind p1).imp fun b ρ2 F2 H2 e2 q2 w r2 => ?_⟩
  obtain ⟨M2, _, S2, p2⟩ := q2
  exact RP.here S2 p2 _ (.cons _ _ _ _ (r1.mono e2) r2)
/-- a new fixed list, tuple out of values that stand -/
theorem new_lst {K : PySem.W.Frag} {ρ : List Addr} {F : Hp} {M : Hs} {E : Nat → Hp → Prop} {ts : List T} {vs : List V} (S : Sim tb K ρ F M H) (r : RepL K F ρ ts vs) (p : RP tb K ρ F H E (GM K Q) (.ok (.lst ts) M)) (q : Addr) (hq : H q = none) : Q (.ref q) (upd H q (.lst vs)) := by
  obtain ⟨S', e⟩ := S.lay hq (.lst vs)
  exact p ρ _ _ e S' _ (.lst ts vs q upd_same (r.mono e))
theorem new_tup {K : PySem.W.Frag} {ρ : List Addr} {F : Hp} {M : Hs} {E : Nat → Hp → Prop} {ts : List T} {vs : List V} (S : Sim tb K ρ F M H) (r : RepL K F ρ ts vs) (p : RP tb K ρ F H E (GM K Q) (.ok (.tup ts) M)) (q : Addr) (hq : H q = none) : Q (.ref q) (upd H q (.tup vs)) := by
  obtain ⟨S', e⟩ := S.lay hq (.tup vs)
  exact p ρ _ _ e S' _ (.tup ts vs q (.inl (.inl upd_same)) (r.mono e))
theorem new_lstR {K : PySem.W.Frag} {ρ : List Addr} {F : Hp} {M : Hs} {E : Nat → Hp → Prop} {ts : List T} {vs : List V} (S : Sim tb K ρ F M H) (r : RepL K F ρ ts vs) (p : RP tb K ρ F H E (GM K Q) (.ok (.ref M.length) (M ++ [.lst ts]))) (q : Addr) (hq : H q = none) : Q (.ref q) (upd H q (.lst vs)) := by
  have kp : ∀ a o, H a = some o → upd H q (.lst vs) a = some o := fun a o e => by rw [upd_ne (ne_of_none e hq)]; exact e
  have ex : Ext ρ F H (ρ ++ [q]) F (upd H q (.lst vs)) := .grow hq kp
  obtain ⟨S', e⟩ := S.add (H' := upd H q (.lst vs)) (ob := .lst ts) hq kp ⟨vs, upd_same, r.mono ex⟩
  exact p _ _ _ e S' _ (.ref _ q (by rw [← S.len, List.getElem?_append_right (Nat.le_refl _), Nat.sub_self]; rfl))
/-- how many values a display has -/
def Len (n : Nat) (m : AM) : Prop := ∀ τ M xs M', m τ M = .ok xs M' → xs.length = n
theorem Len.nil : Len 0 mNil := fun τ M xs M' e => by cases e; rfl
theorem Len.cons {n : Nat} {a : EM} {b : AM} (h : Len n b) : Len (n + 1) (mCons a b) := fun τ M xs M' e => by
  unfold mCons at e
  cases ea : a τ M with
  | ok x M1 =>
    rw [ea] at e
    cases eb : b τ M1 with
    | ok ys M2 =>
      simp only [Res.bind, eb] at e
      cases e
      simp [h τ M1 ys _ eb]
    | ex c M2 => simp [Res.bind, eb] at e
    | bad => simp [Res.bind, eb] at e
  | ex c M1 => rw [ea] at e; cases e
  | bad => rw [ea] at e; cases e
theorem small_line {n : Nat} (h : n ≤ 1000) : n ≤ sizeLine := Nat.le_trans h (by rw [sizeLine_eq]; decide)
theorem mE_tup {es : List Expr} {k n : Nat} {pos : Pos} {m : AM} (h : PA X es (tAM tb X.K W m)) (hl : Len n m) (hn : n ≤ 1000 := by decide) : PE X (.Tuple es k pos) (tM tb X.K W (mTup m)) := by
  refine pe_imp (pe_tup h) fun σ H Q h => ?_
  obtain ⟨ρ, F, M, τ, S, L, p⟩ := h
  refine ⟨ρ, F, M, τ, S, L, (RP.bind p).imp fun a ρ1 F1 H1 e1 q v r1 => ?_⟩
  obtain ⟨M1, e2, S1, p1⟩ := q
  exact ⟨by rw [← r1.length, hl _ _ _ _ e2]; exact small_line hn, new_tup S1 r1 p1⟩
theorem mE_lst {es : List Expr} {n : Nat} {pos : Pos} {m : AM} (h : PA X es (tAM tb X.K W m)) (hl : Len n m) (hn : n ≤ 1000 := by decide) : PE X (.List es pos) (tM tb X.K W (mLst m)) := by
  refine pe_imp (pe_lst h) fun σ H Q h => ?_
  obtain ⟨ρ, F, M, τ, S, L, p⟩ := h
  refine ⟨ρ, F, M, τ, S, L, (RP.bind p).imp fun a ρ1 F1 H1 e1 q v r1 => ?_⟩
  obtain ⟨M1, e2, S1, p1⟩ := q
  exact ⟨by rw [← r1.length, hl _ _ _ _ e2]; exact small_line hn, new_lst S1 r1 p1⟩
theorem mE_lstR {es : List Expr} {n : Nat} {pos : Pos} {m : AM} (h : PA X es (tAM tb X.K W m)) (hl : Len n m) (hn : n ≤ 1000 := by decide) : PE X (.List es pos) (tM tb X.K W (mLstR m)) := by
  refine pe_imp (pe_lst h) fun σ H Q h => ?_
  obtain ⟨ρ, F, M, τ, S, L, p⟩ := h
  refine ⟨ρ, F, M, τ, S, L, (RP.bind p).imp fun a ρ1 F1 H1 e1 q v r1 => ?_⟩
  obtain ⟨M1, e2, S1, p1⟩ := q
  exact ⟨by rw [← r1.length, hl _ _ _ _ e2]; exact small_line hn, new_lstR S1 r1 p1⟩
end
end Mi
namespace Mi
open PySem PySem.Spec PyProof.Rows L2

/-! ### what a def is worth -/
def spM (tb : Tb) (K : PySem.W.Frag) (n : Nat) (g : FnM) : Sp := fun vs H Q E => ∃ ρ F M ts, Sim tb K ρ F M H ∧ RepL K F ρ ts vs ∧ ts.length = n ∧ RP tb K ρ F H (fun c H' => E (.ref (tb.c c)) none H') (GM K Q) (g ts M)

def mBody (n : Nat) (b : SM) : FnM := fun ts M => match b (ts ++ List.replicate (n - ts.length) .un) M with
  | .nx _ M' => .ok .non M'
  | .rt t M' => .ok t M'
  | .ex c M' => .ex c M'
  | _ => .bad

section
variable {P : Program} {w : World} {K : PySem.W.Frag} {mg : Str → Option Value} {base : Heap} {tb : Tb}
theorem loc_start {F : Hp} {ρ : List Addr} {ts : List T} {vs : List V} {N : List Str} (r : RepL K F ρ ts vs) : LocR K F ρ (ts ++ List.replicate (N.length - ts.length) .un) (L2.start N vs) := by
  have hl := r.length
  refine ⟨by simp [L2.start, hl], fun i t h => ?_⟩
  by_cases hi : i < ts.length
  · rw [List.getElem?_append_left hi] at h
    obtain ⟨v, h1, h2⟩ := r.get h
    refine .inr ⟨v, ?_, h2⟩
    unfold L2.start
    rw [List.getElem?_append_left (by rw [List.length_map, ← hl]; exact hi), List.getElem?_map, h1]
    rfl
  · rw [List.getElem?_append_right (by omega)] at h
    obtain ⟨_, e⟩ := List.getElem?_eq_some_iff.mp h
    rw [List.getElem_replicate] at e
    exact .inl e.symm
theorem fn_ok {x qual : Str} {st : Stmt} {f : Addr} {fd : FuncData} {N ps : List Str} {k n : Nat} {b : SM} (Fu : Fun K x qual st f fd) (S : FnScope N ps (defScope st)) (hn : n = N.length)
    (hb : ∀ (cdv : Value) (A : Around) (outer : List Env) (s : Shared) (H : Hp) (E : XK), Room k (A.deeper (envOfC qual (defScope st) s.heap.objs.size f cdv)) →
      PSs (cxOf (L2.CX P w) P w K mg base N qual (defScope st) f cdv A outer s H E) (defBody st) (tSM tb K (fun cls d _ H' => E cls d H') b)) :
    FnOk P w K mg base (L2.CX P w) (k + 1) f fd ps (spM tb K ps.length (mBody n b)) := by
  refine Fu.okX S (fun vs H Q E h => ?_) (fun cdv A outer s H vs Q E hr h => ⟨_, hb cdv A outer s H E hr, ?_⟩)
  · obtain ⟨ρ, F, M, ts, _, r, e, _⟩ := h
    rw [← r.length, e]
  · obtain ⟨ρ, F, M, ts, Sm, r, e, p⟩ := h
    refine ⟨ρ, F, M, _, Sm, loc_start r, ?_⟩
    unfold mBody at p
    rw [hn] at p
    cases hres : b (ts ++ List.replicate (N.length - ts.length) .un) M with
    | nx τ' M' => rw [hres] at p; exact fun ρ' F' H' σ' ex S' _ => p ρ' F' H' ex S' _ .non
    | rt t M' => rw [hres] at p; exact fun ρ' F' H' v ex S' rv => p ρ' F' H' ex S' v rv
    | ex c M' => rw [hres] at p; exact fun ρ' F' H' σ' ex S' => p ρ' F' H' ex S'
    | bk τ' M' => rw [hres] at p; exact p.elim
    | ct τ' M' => rw [hres] at p; exact p.elim
    | bad => rw [hres] at p; exact p.elim
end

/-- a def that may be called with n arguments (its defaults filled up) -/
def CallOk (P : Program) (w : World) (K : PySem.W.Frag) (mg : Str → Option Value) (base : Heap) (tb : Tb) (k : Nat) (f : Addr) (n : Nat) (g : FnM) : Prop :=
  ∃ (fd : FuncData) (ps : List Str) (ds : List Value) (dvs : List V) (dts : List T) (g0 : FnM), FnOk P w K mg base (L2.CX P w) k f fd ps (spM tb K ps.length g0) ∧ Binds K fd ps ds ∧ Vals dvs ds ∧
    (∀ (F : Hp) (ρ : List Addr), RepL K F ρ dts dvs) ∧ n + dts.length = ps.length ∧ g = fun ts => g0 (ts ++ dts)
theorem CallOk.of {P : Program} {w : World} {K : PySem.W.Frag} {mg : Str → Option Value} {base : Heap} {tb : Tb} {k n : Nat} {f : Addr} {g : FnM} {fd : FuncData} {ps : List Str}
    (G : FnOk P w K mg base (L2.CX P w) k f fd ps (spM tb K n g)) (b : Binds K fd ps []) (hn : n = ps.length := by rfl) : CallOk P w K mg base tb k f n g := by
  subst hn
  exact ⟨fd, ps, [], [], [], g, G, b, .nil, fun _ _ => .nil, rfl, by simp⟩
theorem CallOk.mono {P : Program} {w : World} {K : PySem.W.Frag} {mg : Str → Option Value} {base : Heap} {tb : Tb} {j k n : Nat} {f : Addr} {g : FnM} (G : CallOk P w K mg base tb j f n g) (h : j ≤ k) : CallOk P w K mg base tb k f n g := by
  obtain ⟨fd, ps, ds, dvs, dts, g0, G, r⟩ := G
  exact ⟨fd, ps, ds, dvs, dts, g0, G.mono h, r⟩

section
variable {X : Cx} {tb : Tb} {W : WX} {σ : L2.St} {H : Hp} {Q : VK} {s : Shared} {pins : List (Addr × Obj)}
theorem run_ok {k n : Nat} {f : Addr} {g : FnM} {ρ : List Addr} {F : Hp} {M : Hs} {ts : List T} {vs : List V} {us : List Value} (G : CallOk X.prog X.w X.K X.mg X.base tb k f n g) (hr : Room k X.A) (tk : Takes X W)
    (I : Inv X pins σ H s) (S : Sim tb X.K ρ F M H) (r : RepL X.K F ρ ts vs) (rv : Vals vs us) (hn : ts.length = n) (p : RP tb X.K ρ F H (WE1 tb W σ) (GM X.K Q) (g ts M)) :
    wpAny (model X.prog X.w) X.A (call (.ref f) us) (EP X pins σ Q) X.xe s := by
  obtain ⟨fd, ps, ds, dvs, dts, g0, G, hb, hd, hdt, hl, rfl⟩ := G
  have r2 : Vals (vs ++ dvs) (us ++ ds) := rv.append hd
  have rt : RepL X.K F ρ (ts ++ dts) (vs ++ dvs) := r.append (hdt F ρ)
  have hlen : (us ++ ds).length = ps.length := by rw [← r2.length, ← rt.length, List.length_append, hn, hl]
  have sp : spM tb X.K ps.length g0 (vs ++ dvs) H Q (L2.WE W σ) := ⟨ρ, F, M, ts ++ dts, S, rt, by rw [List.length_append, hn, hl], p⟩
  refine wpAny_call (codeAny_mono (G.run X.A X.stack s H ⟨us, []⟩ (us ++ ds) (vs ++ dvs) Q (L2.WE W σ) hr I.env0 (hb s us I.kIn hlen) r2 sp) fun res s' hq => ?_)
  cases res with
  | error e => exact passAt tk σ pins H s e s' I hq
  | ok fl =>
    cases fl with
    | ret u => exact I.after hq
    | next => exact False.elim hq
    | brk => exact False.elim hq
    | cont => exact False.elim hq

def mCall (g : FnM) (a : AM) : EM := fun τ M => (a τ M).bind g
theorem mE_call {x : Str} {p pos : Pos} {e : Expr} {es : List Expr} {k n : Nat} {f : Addr} {g : FnM} {ma : AM} (G : CallOk X.prog X.w X.K X.mg X.base tb k f n g) (hr : Room k X.A) (hm : X.mg x = some (.ref f)) (hk : PySem.W.keepIn X.K (.ref f) = true) (tk : Takes X W)
    (ha : PA X (e :: es) (tAM tb X.K W ma)) (hl : Len n ma) (hg : Gl X x := by rfl) (hdb : (x == ("__debug__" : Str)) = false := by decide) (he : starEach (e :: es) X.env = (false, eval e X.env) :: starEach es X.env := by rfl)
    (hpl : (backTo pos (starEach es X.env)).any (·.1) = false := by rfl) : PE X (.Call (.Name x p) (e :: es) [] pos) (tM tb X.K W (mCall g ma)) := by
  refine ⟨fun pins s σ H Q I h => ?_⟩
  obtain ⟨ρ, F, M, τ, S, L, p⟩ := h
  have hq : tAM tb X.K W ma σ H (fun vs H1 => ∃ ρ1 F1 M1 ts, Sim tb X.K ρ1 F1 M1 H1 ∧ RepL X.K F1 ρ1 ts vs ∧ ts.length = n ∧ RP tb X.K ρ1 F1 H1 (WE1 tb W σ) (GM X.K Q) (g ts M1)) :=
    ⟨ρ, F, M, τ, S, L, (RP.bind p).imp fun ts ρ1 F1 H1 e1 ⟨M1, e2, S1, p1⟩ vs r1 => ⟨ρ1, F1, M1, ts, S1, r1, hl _ _ _ _ e2, p1⟩⟩
  refine wpAny_Call_Name_kw (ld_glob I hg hm ?_ hdb)
  refine PySem.W.callWith_K (h₀ := X.base) I.ok.mod.kin hk (thn (ha.run pos pins s σ H _ I hq) fun us s1 ⟨vs, H1, I1, rv, q⟩ => ⟨I1.kIn, ?_⟩) he hpl
  obtain ⟨ρ1, F1, M1, ts, S1, r1, hn, p1⟩ := q
  exact run_ok G hr tk I1 S1 r1 rv hn p1
theorem mE_call0 {x : Str} {p pos : Pos} {k : Nat} {f : Addr} {g : FnM} (G : CallOk X.prog X.w X.K X.mg X.base tb k f 0 g) (hr : Room k X.A) (hm : X.mg x = some (.ref f)) (hk : PySem.W.keepIn X.K (.ref f) = true) (tk : Takes X W)
    (hg : Gl X x := by rfl) (hdb : (x == ("__debug__" : Str)) = false := by decide) : PE X (.Call (.Name x p) [] [] pos) (tM tb X.K W (mCall g mNil)) := by
  refine ⟨fun pins s σ H Q I h => ?_⟩
  obtain ⟨ρ, F, M, τ, S, L, p⟩ := h
  refine wpAny_Call_Name_kw (ld_glob I hg hm ?_ hdb)
  exact PySem.W.callWith_K0 I.kIn hk (run_ok (us := []) G hr tk I S .nil .nil rfl p)

/-! ### fields, methods, new instances -/
def mFld (tab : List (Nat × Nat)) (a : EM) : EM := fun τ M => (a τ M).bind fun o M1 => match o with
  | .ref i => match M1[i]? with
    | some (.ins c fs) => match tab.lookup c with
      | some j => okT (fs.getD j .un) M1
      | none => .bad
    | _ => .bad
  | _ => .bad
/-- what is known of a class -/
structure CF (K : PySem.W.Frag) (tb : Tb) (c : Nat) : Prop where
  cls : Cls K (tb.c c)
  nd : (tb.fl c).Nodup
  few : (tb.fl c).length ≤ 100
/-- which place the field f has in which class -/
def FTab (K : PySem.W.Frag) (tb : Tb) (f : Str) (tab : List (Nat × Nat)) : Prop := ∀ c j, (c, j) ∈ tab → (tb.fl c)[j]? = some f ∧ CF K tb c ∧ NoAttr K (tb.c c) f
theorem mem_of_lk {α : Type} {l : List (Nat × α)} {c : Nat} {v : α} (h : l.lookup c = some v) : (c, v) ∈ l := by
  induction l with
  | nil => cases h
  | cons p l ih =>
    obtain ⟨a, b⟩ := p
    rw [List.lookup_cons] at h
    by_cases e : c == a
    · rw [e] at h
      cases h
      rw [eq_of_beq e]
      exact List.mem_cons_self
    · rw [Bool.not_eq_true] at e
      rw [e] at h
      exact List.mem_cons_of_mem _ (ih h)
theorem FTab.one {K : PySem.W.Frag} {f : Str} {c j : Nat} (h : (tb.fl c)[j]? = some f) (h1 : CF K tb c) (h2 : NoAttr K (tb.c c) f) : FTab K tb f [(c, j)] := fun a b m => by
  rw [List.mem_singleton] at m
  cases m
  exact ⟨h, h1, h2⟩
theorem FTab.cons {K : PySem.W.Frag} {f : Str} {c j : Nat} {tab : List (Nat × Nat)} (h : (tb.fl c)[j]? = some f) (h1 : CF K tb c) (h2 : NoAttr K (tb.c c) f) (t : FTab K tb f tab) : FTab K tb f ((c, j) :: tab) := fun a b m => by
  rcases List.mem_cons.mp m with m | m
  · cases m
    exact ⟨h, h1, h2⟩
  · exact t a b m
/-- what stands at a value that names an instance -/
theorem ins_at {K : PySem.W.Frag} {ρ : List Addr} {F : Hp} {M : Hs} {i c : Nat} {fs : List T} {v : V} (S : Sim tb K ρ F M H) (r : Rep K F ρ (.ref i) v) (e : M[i]? = some (.ins c fs)) :
    ∃ a dx fsV, v = .ref a ∧ ρ[i]? = some a ∧ H a = some (.ins (tb.c c) dx fsV) ∧ FsRep K F ρ (tb.fl c) fs fsV := by
  cases r with
  | ref _ a h =>
    obtain ⟨dx, fsV, h1, h2⟩ := S.ob i _ a e h
    exact ⟨a, dx, fsV, rfl, h, h1, h2⟩
theorem mE_fld {e : Expr} {f : Str} {pos : Pos} {tab : List (Nat × Nat)} {m : EM} (ht : FTab X.K tb f tab) (he : PE X e (tM tb X.K W m)) (hb : attributeBase e f X.env (eval e X.env) = eval e X.env := by rfl) : PE X (.Attribute e f pos) (tM tb X.K W (mFld tab m)) := by
  refine pe_imp (pe_fld he hb) fun σ H Q h => ?_
  obtain ⟨ρ, F, M, τ, S, L, p⟩ := h
  refine ⟨ρ, F, M, τ, S, L, (RP.bind p).imp fun o ρ1 F1 H1 e1 q v r1 => ?_⟩
  obtain ⟨M1, _, S1, p1⟩ := q
  split at p1
  case h_2 => exact p1.elim
  rename_i i
  split at p1
  case h_2 => exact p1.elim
  rename_i c fs hm
  split at p1
  case h_2 => exact p1.elim
  rename_i j hl
  obtain ⟨h1, h2, h3⟩ := ht c j (mem_of_lk hl)
  obtain ⟨a, dx, fsV, rfl, _, ha, fr⟩ := ins_at S1 r1 hm
  have hj : j < fs.length := by rw [fr.len]; exact (List.getElem?_eq_some_iff.mp h1).1
  rw [List.getD_eq_getElem?_getD, List.getElem?_eq_getElem hj] at p1
  rcases fr.at_ j f fs[j] h1 (List.getElem?_eq_getElem hj) with ⟨z, _⟩ | ⟨w, rw', lk⟩
  · rw [show Option.getD (some fs[j]) T.un = fs[j] from rfl, z] at p1
    exact p1.elim
  · have hu : fs[j] ≠ .un := fun z => by rw [z] at rw'; cases rw'
    rw [show Option.getD (some fs[j]) T.un = fs[j] from rfl, okT_of hu] at p1
    exact ⟨a, _, dx, fsV, w, rfl, ha, h2.cls, h3, lk, RP.here S1 p1 w rw'⟩

def mMeth (tab : List (Nat × FnM)) (mo : EM) (ma : AM) : EM := fun τ M => (mo τ M).bind fun o M1 => match o with
  | .ref i => match M1[i]? with
    | some (.ins c _) => match tab.lookup c with
      | some g => (ma τ M1).bind fun ts M2 => g (o :: ts) M2
      | none => .bad
    | _ => .bad
  | _ => .bad
def MTab (P : Program) (w : World) (K : PySem.W.Frag) (mg : Str → Option Value) (base : Heap) (tb : Tb) (k n : Nat) (m : Str) (tab : List (Nat × FnM)) : Prop :=
  ∀ c g, (c, g) ∈ tab → CF K tb c ∧ m ∉ tb.fl c ∧ ∃ f, Meth K (tb.c c) m f ∧ CallOk P w K mg base tb k f (n + 1) g
theorem MTab.one {P : Program} {w : World} {K : PySem.W.Frag} {mg : Str → Option Value} {base : Heap} {k n c : Nat} {m : Str} {g : FnM} {f : Addr} (h1 : CF K tb c) (h2 : m ∉ tb.fl c) (h3 : Meth K (tb.c c) m f) (h4 : CallOk P w K mg base tb k f (n + 1) g) :
    MTab P w K mg base tb k n m [(c, g)] := fun a b q => by
  rw [List.mem_singleton] at q
  cases q
  exact ⟨h1, h2, f, h3, h4⟩
theorem MTab.cons {P : Program} {w : World} {K : PySem.W.Frag} {mg : Str → Option Value} {base : Heap} {k n c : Nat} {m : Str} {g : FnM} {f : Addr} {tab : List (Nat × FnM)} (h1 : CF K tb c) (h2 : m ∉ tb.fl c) (h3 : Meth K (tb.c c) m f)
    (h4 : CallOk P w K mg base tb k f (n + 1) g) (t : MTab P w K mg base tb k n m tab) : MTab P w K mg base tb k n m ((c, g) :: tab) := fun a b q => by
  rcases List.mem_cons.mp q with q | q
  · cases q
    exact ⟨h1, h2, f, h3, h4⟩
  · exact t a b q
theorem MTab.mono {P : Program} {w : World} {K : PySem.W.Frag} {mg : Str → Option Value} {base : Heap} {j k n : Nat} {m : Str} {tab : List (Nat × FnM)} (t : MTab P w K mg base tb j n m tab) (h : j ≤ k) : MTab P w K mg base tb k n m tab := fun c g q => by
  obtain ⟨h1, h2, f, h3, h4⟩ := t c g q
  exact ⟨h1, h2, f, h3, h4.mono h⟩
/-- the reading of a method call, up to its arguments -/
theorem meth_read {m : Str} {tab : List (Nat × FnM)} {mo : EM} {ma : AM} {k n : Nat} (t : MTab X.prog X.w X.K X.mg X.base tb k n m tab) (h : tM tb X.K W (mMeth tab mo ma) σ H Q) :
    tM tb X.K W mo σ H fun x H1 => ∃ a C dx fs f, x = .ref a ∧ H1 a = some (.ins C dx fs) ∧ Cls X.K C ∧ Meth X.K C m f ∧ fs.lookup m = none ∧
      ∃ (g : FnM) (o : T) (ρ1 : List Addr) (F1 : Hp) (M1 : Hs) (τ : Loc), CallOk X.prog X.w X.K X.mg X.base tb k f (n + 1) g ∧ Sim tb X.K ρ1 F1 M1 H1 ∧ LocR X.K F1 ρ1 τ σ ∧ Rep X.K F1 ρ1 o (.ref a) ∧
        RP tb X.K ρ1 F1 H1 (WE1 tb W σ) (GM X.K Q) ((ma τ M1).bind fun ts M2 => g (o :: ts) M2) := by
  obtain ⟨ρ, F, M, τ, S, L, p⟩ := h
  refine ⟨ρ, F, M, τ, S, L, (RP.bind p).imp fun o ρ1 F1 H1 e1 q v r1 => ?_⟩
  obtain ⟨M1, _, S1, p1⟩ := q
  split at p1
  case h_2 => exact p1.elim
  rename_i i
  split at p1
  case h_2 => exact p1.elim
  rename_i c fs hm
  split at p1
  case h_2 => exact p1.elim
  rename_i g hl
  obtain ⟨h1, h2, f, h3, h4⟩ := t c g (mem_of_lk hl)
  obtain ⟨a, dx, fsV, rfl, _, ha, fr⟩ := ins_at S1 r1 hm
  exact ⟨a, _, dx, fsV, f, rfl, ha, h1.cls, h3, fr.out m h2, g, _, ρ1, F1, M1, τ, h4, S1, L.mono e1, r1, p1⟩
theorem mE_meth {o e : Expr} {es : List Expr} {m : Str} {apos pos : Pos} {k n : Nat} {tab : List (Nat × FnM)} {mo : EM} {ma : AM} {pl : Sem Bool} (t : MTab X.prog X.w X.K X.mg X.base tb k n m tab) (hr : Room k X.A) (tk : Takes X W)
    (ho : PE X o (tM tb X.K W mo)) (ha : PA X (e :: es) (tAM tb X.K W ma)) (hl : Len n ma) (he : starEach (e :: es) X.env = (false, eval e X.env) :: starEach es X.env := by rfl) (hpl : (backTo pos (starEach es X.env)).any (·.1) = false := by rfl)
    (ht : eval (.Call (.Attribute o m apos) (e :: es) [] pos) X.env = (do
      let ov ← eval o X.env
      standAt apos.atName
      let (f, first) ← holding [ov] (getMethod ov m pl)
      callWith pos f first (backTo pos (starEach (e :: es) X.env)) (backToKw pos (keywordEach [] X.env))) := by rfl) :
    PE X (.Call (.Attribute o m apos) (e :: es) [] pos) (tM tb X.K W (mMeth tab mo ma)) := by
  refine ⟨fun pins s σ H Q I h => ?_⟩
  refine methcall_of (pl := pl) ho I ?_ ht
  obtain ⟨ρ, F, M, τ, S, L, p⟩ := meth_read t h
  refine ⟨ρ, F, M, τ, S, L, p.imp fun o ρ1 F1 H1 e1 q v r1 => ?_⟩
  obtain ⟨a, C, dx, fs, f, rfl, hH, hC, hM, hn, g, o', ρ1, F1, M1, τ', G, S1, L1, ro, p1⟩ := q v r1
  refine ⟨a, C, dx, fs, f, rfl, hH, hC, hM, hn, fun s1 I1 => ?_⟩
  have hq : tAM tb X.K W ma σ H1 (fun vs H2 => ∃ ρ2 F2 M2 ts, Sim tb X.K ρ2 F2 M2 H2 ∧ RepL X.K F2 ρ2 (o' :: ts) (.ref a :: vs) ∧ (o' :: ts).length = n + 1 ∧ RP tb X.K ρ2 F2 H2 (WE1 tb W σ) (GM X.K Q) (g (o' :: ts) M2)) :=
    ⟨ρ1, F1, M1, τ', S1, L1, (RP.bind p1).imp fun ts ρ2 F2 H2 e2 ⟨M2, e3, S2, p2⟩ vs r2 => ⟨ρ2, F2, M2, ts, S2, .cons _ _ _ _ (ro.mono e2) r2, congrArg (· + 1) (hl _ _ _ _ e3), p2⟩⟩
  refine PySem.W.callWith_K (first := [.ref a]) (h₀ := X.base) I1.ok.mod.kin hM.kp (thn (ha.run pos pins s1 σ H1 _ I1 hq) fun us s2 ⟨vs, H2, I2, rv, q⟩ => ⟨I2.kIn, ?_⟩) he hpl
  obtain ⟨ρ2, F2, M2, ts, S2, r2, hn2, p2⟩ := q
  exact run_ok (us := .ref a :: us) (vs := .ref a :: vs) G hr tk I2 S2 r2 (.cons rfl rv) hn2 p2
theorem mE_meth0 {o : Expr} {m : Str} {apos pos : Pos} {k : Nat} {tab : List (Nat × FnM)} {mo : EM} {pl : Sem Bool} (t : MTab X.prog X.w X.K X.mg X.base tb k 0 m tab) (hr : Room k X.A) (tk : Takes X W)
    (ho : PE X o (tM tb X.K W mo))
    (ht : eval (.Call (.Attribute o m apos) [] [] pos) X.env = (do
      let ov ← eval o X.env
      standAt apos.atName
      let (f, first) ← holding [ov] (getMethod ov m pl)
      callWith pos f first (backTo pos (starEach [] X.env)) (backToKw pos (keywordEach [] X.env))) := by rfl) :
    PE X (.Call (.Attribute o m apos) [] [] pos) (tM tb X.K W (mMeth tab mo mNil)) := by
  refine ⟨fun pins s σ H Q I h => ?_⟩
  refine methcall_of (pl := pl) ho I ?_ ht
  obtain ⟨ρ, F, M, τ, S, L, p⟩ := meth_read t h
  refine ⟨ρ, F, M, τ, S, L, p.imp fun o ρ1 F1 H1 e1 q v r1 => ?_⟩
  obtain ⟨a, C, dx, fs, f, rfl, hH, hC, hM, hn, g, o', ρ1, F1, M1, τ', G, S1, L1, ro, p1⟩ := q v r1
  refine ⟨a, C, dx, fs, f, rfl, hH, hC, hM, hn, fun s1 I1 => ?_⟩
  exact PySem.W.callWith_K0 (first := [.ref a]) I1.kIn hM.kp (run_ok (us := [.ref a]) (vs := [.ref a]) G hr tk I1 S1 (.cons _ _ _ _ ro .nil) (.cons rfl .nil) rfl p1)

/-- a new instance of the class c; nf: how many fields -/
def mMake (c nf : Nat) (g : FnM) (ma : AM) : EM := fun τ M => (ma τ M).bind fun ts M1 => (g (.ref M1.length :: ts) (M1 ++ [.ins c (List.replicate nf .un)])).bind fun r M2 => match r with
  | .non => .ok (.ref M1.length) M2
  | _ => .bad
theorem fs_new {K : PySem.W.Frag} {F : Hp} {ρ : List Addr} {ns : List Str} : FsRep K F ρ ns (List.replicate ns.length .un) [] :=
  ⟨by simp, fun i n t h1 h2 => by
    obtain ⟨_, e⟩ := List.getElem?_eq_some_iff.mp h2
    rw [List.getElem_replicate] at e
    exact .inl ⟨e.symm, rfl⟩, fun _ _ => rfl, ⟨List.nodup_nil, fun n h => by cases h⟩⟩
theorem run_new {k n c nf : Nat} {f : Addr} {g : FnM} {ρ : List Addr} {F : Hp} {M : Hs} {ts : List T} {vs : List V} {us : List Value} (Mk' : Mk X.K (tb.c c) f) (hnf : nf = (tb.fl c).length) (G : CallOk X.prog X.w X.K X.mg X.base tb k f (n + 1) g) (hr : Room (k + 1) X.A) (tk : Takes X W)
    (I : Inv X pins σ H s) (S : Sim tb X.K ρ F M H) (r : RepL X.K F ρ ts vs) (rv : Vals vs us) (hn : ts.length = n)
    (p : RP tb X.K ρ F H (WE1 tb W σ) (GM X.K Q) ((g (.ref M.length :: ts) (M ++ [.ins c (List.replicate nf .un)])).bind fun r M2 => match r with | .non => .ok (.ref M.length) M2 | _ => .bad)) :
    wpAny (model X.prog X.w) X.A (call (.ref (tb.c c)) us) (EP X pins σ Q) X.xe s := by
  obtain ⟨fd, ps, ds, dvs, dts, g0, G, hb, hd, hdt, hl, rfl⟩ := G
  have I2 := Inv.made (C := tb.c c) I
  have fx : H (s.heap.objs.size + 1) = none := I.hok.fresh (Nat.le_succ _)
  have fd' : H s.heap.objs.size = none := I.hok.fresh (Nat.le_refl _)
  subst hnf
  obtain ⟨S2, e2⟩ := S.add (p := s.heap.objs.size + 1) (H' := upd (upd H s.heap.objs.size (.own (s.heap.objs.size + 1))) (s.heap.objs.size + 1) (.ins (tb.c c) s.heap.objs.size [])) (ob := .ins c (List.replicate (tb.fl c).length .un)) fx
    (fun a o e => by rw [upd_ne (ne_of_none e fx), upd_ne (ne_of_none e fd')]; exact e) ⟨s.heap.objs.size, [], upd_same, fs_new⟩
  have r0 : Rep X.K F (ρ ++ [s.heap.objs.size + 1]) (.ref M.length) (.ref (s.heap.objs.size + 1)) := .ref _ _ (by rw [← S.len, List.getElem?_append_right (Nat.le_refl _), Nat.sub_self]; rfl)
  have rt : RepL X.K F (ρ ++ [s.heap.objs.size + 1]) (.ref M.length :: (ts ++ dts)) (.ref (s.heap.objs.size + 1) :: (vs ++ dvs)) := .cons _ _ _ _ r0 ((r.mono e2).append (hdt _ _))
  have r2 : Vals (V.ref (s.heap.objs.size + 1) :: (vs ++ dvs)) (Value.ref (s.heap.objs.size + 1) :: (us ++ ds)) := .cons rfl (rv.append hd)
  have hlt : (T.ref M.length :: (ts ++ dts)).length = ps.length := by rw [List.length_cons, List.length_append, hn]; omega
  have hlen : (Value.ref (s.heap.objs.size + 1) :: us ++ ds).length = ps.length := by
    rw [← hlt, rt.length, r2.length]
    rfl
  have q := RP.bind (p.mono e2)
  have sp : spM tb X.K ps.length g0 (.ref (s.heap.objs.size + 1) :: (vs ++ dvs)) (upd (upd H s.heap.objs.size (.own (s.heap.objs.size + 1))) (s.heap.objs.size + 1) (.ins (tb.c c) s.heap.objs.size []))
      (fun v H2 => v = .non ∧ Q (.ref (s.heap.objs.size + 1)) H2) (L2.WE W σ) := by
    refine ⟨_, F, _, _, S2, rt, hlt, q.imp fun t ρ3 F3 H3 e3 ⟨M3, _, S3, p3⟩ v r3 => ?_⟩
    cases t with
    | non => cases r3; exact ⟨rfl, RP.here S3 p3 _ (r0.mono e3)⟩
    | _ => exact p3.elim
  refine wpAny_call (make_map (f := f) I.kIn Mk'.makes Mk'.init (beq_iff_eq.mp Mk'.fn) (codeAny_mono (G.run _ X.stack _ _ ⟨Value.ref (s.heap.objs.size + 1) :: us, []⟩ (Value.ref (s.heap.objs.size + 1) :: (us ++ ds)) _ _ (L2.WE W σ) (hr.make _ us [])
    (I2.env0.make _ us []) (hb _ (Value.ref (s.heap.objs.size + 1) :: us) I2.kIn hlen) r2 sp) fun res s' hq => ?_))
  cases res with
  | error e => exact passAt tk σ pins _ _ e s' I2 hq
  | ok fl =>
    cases fl with
    | ret u =>
      obtain ⟨v, H', I3, rv', ev, q3⟩ := I2.after hq
      subst ev
      exact ⟨rv', ⟨V.ref (s.heap.objs.size + 1), H', I3, rfl, q3⟩⟩
    | next => exact False.elim hq
    | brk => exact False.elim hq
    | cont => exact False.elim hq
theorem mE_make {x : Str} {p pos : Pos} {e : Expr} {es : List Expr} {k n c nf : Nat} {f : Addr} {g : FnM} {ma : AM} (Mk' : Mk X.K (tb.c c) f) (hnf : nf = (tb.fl c).length) (G : CallOk X.prog X.w X.K X.mg X.base tb k f (n + 1) g) (hr : Room (k + 1) X.A)
    (hm : X.mg x = some (.ref (tb.c c))) (tk : Takes X W) (ha : PA X (e :: es) (tAM tb X.K W ma)) (hl : Len n ma) (hg : Gl X x := by rfl) (hdb : (x == ("__debug__" : Str)) = false := by decide)
    (he : starEach (e :: es) X.env = (false, eval e X.env) :: starEach es X.env := by rfl) (hpl : (backTo pos (starEach es X.env)).any (·.1) = false := by rfl) : PE X (.Call (.Name x p) (e :: es) [] pos) (tM tb X.K W (mMake c nf g ma)) := by
  refine ⟨fun pins s σ H Q I h => ?_⟩
  obtain ⟨ρ, F, M, τ, S, L, p⟩ := h
  have hq : tAM tb X.K W ma σ H (fun vs H1 => ∃ ρ1 F1 M1 ts, Sim tb X.K ρ1 F1 M1 H1 ∧ RepL X.K F1 ρ1 ts vs ∧ ts.length = n ∧ RP tb X.K ρ1 F1 H1 (WE1 tb W σ) (GM X.K Q)
      ((g (.ref M1.length :: ts) (M1 ++ [.ins c (List.replicate nf .un)])).bind fun r M2 => match r with | .non => .ok (.ref M1.length) M2 | _ => .bad)) :=
    ⟨ρ, F, M, τ, S, L, (RP.bind p).imp fun ts ρ1 F1 H1 e1 ⟨M1, e2, S1, p1⟩ vs r1 => ⟨ρ1, F1, M1, ts, S1, r1, hl _ _ _ _ e2, p1⟩⟩
  refine wpAny_Call_Name_kw (ld_glob I hg hm ?_ hdb)
  refine PySem.W.callWith_K (h₀ := X.base) I.ok.mod.kin Mk'.kp (thn (ha.run pos pins s σ H _ I hq) fun us s1 ⟨vs, H1, I1, rv, q⟩ => ⟨I1.kIn, ?_⟩) he hpl
  obtain ⟨ρ1, F1, M1, ts, S1, r1, hn, p1⟩ := q
  exact run_new Mk' hnf G hr tk I1 S1 r1 rv hn p1
theorem mE_make0 {x : Str} {p pos : Pos} {k c nf : Nat} {f : Addr} {g : FnM} (Mk' : Mk X.K (tb.c c) f) (hnf : nf = (tb.fl c).length) (G : CallOk X.prog X.w X.K X.mg X.base tb k f 1 g) (hr : Room (k + 1) X.A)
    (hm : X.mg x = some (.ref (tb.c c))) (tk : Takes X W) (hg : Gl X x := by rfl) (hdb : (x == ("__debug__" : Str)) = false := by decide) : PE X (.Call (.Name x p) [] [] pos) (tM tb X.K W (mMake c nf g mNil)) := by
  refine ⟨fun pins s σ H Q I h => ?_⟩
  obtain ⟨ρ, F, M, τ, S, L, p⟩ := h
  refine wpAny_Call_Name_kw (ld_glob I hg hm ?_ hdb)
  exact PySem.W.callWith_K0 I.kIn Mk'.kp (run_new (us := []) Mk' hnf G hr tk I S .nil .nil rfl p)
end
end Mi
namespace Mi
open PySem PySem.Spec PyProof.Rows L2

/-! ### mirrors of statements -/
def Res.st {α : Type} : Res α → (α → Hs → SRes) → SRes
  | .ok a M, k => k a M
  | .ex c M, _ => .ex c M
  | .bad, _ => .bad
def mSkip : SM := fun τ M => .nx τ M
def mSeq (a b : SM) : SM := fun τ M => match a τ M with
  | .nx τ' M' => b τ' M'
  | r => r
def mIf (c : TM) (a b : SM) : SM := fun τ M => (c τ M).st fun x M1 => if x then a τ M1 else b τ M1
def mExp (e : EM) : SM := fun τ M => (e τ M).st fun _ M1 => .nx τ M1
def mRet (e : EM) : SM := fun τ M => (e τ M).st fun t M1 => .rt t M1
def mRetN : SM := fun τ M => .rt .non M
def mSet (i : Nat) (e : EM) : SM := fun τ M => (e τ M).st fun t M1 => .nx (τ.set i t) M1
def mRaise (c : Nat) : SM := fun τ M => .ex c M
def mBrk : SM := fun τ M => .bk τ M
def mCnt : SM := fun τ M => .ct τ M

section
variable {X : Cx} {tb : Tb} {W : WX} {σ : L2.St} {H : Hp} {K : PySem.W.Frag} {ρ : List Addr} {F : Hp} {D : Ends}
theorem SP1.st {α : Type} {k : α → Hs → SRes} : ∀ {r : Res α}, SP1 tb K W ρ F H D (r.st k) → RP tb K ρ F H (WE1 tb W σ) (fun a ρ' F' H' => ∃ M', r = .ok a M' ∧ Sim tb K ρ' F' M' H' ∧ SP1 tb K W ρ' F' H' D (k a M')) r
  | .ok _ M, h => fun ρ2 F2 H2 e2 S => ⟨M, rfl, S, SP1.mono e2 h⟩
  | .ex _ _, h => fun ρ2 F2 H2 e2 S => h ρ2 F2 H2 σ e2 S
  | .bad, h => h
/-- the same reading where more is known of the ends -/
theorem SP1.imp {D D' : Ends} (hn : ∀ σ H, D.nx σ H → D'.nx σ H) (hr : ∀ v H, D.rt v H → D'.rt v H) (hb : ∀ σ H, D.bk σ H → D'.bk σ H) (hc : ∀ σ H, D.ct σ H → D'.ct σ H) : ∀ {r : SRes}, SP1 tb K W ρ F H D r → SP1 tb K W ρ F H D' r
  | .nx _ _, h => fun ρ2 F2 H2 σ' e2 S L => hn _ _ (h ρ2 F2 H2 σ' e2 S L)
  | .rt _ _, h => fun ρ2 F2 H2 v e2 S L => hr _ _ (h ρ2 F2 H2 v e2 S L)
  | .bk _ _, h => fun ρ2 F2 H2 σ' e2 S L => hb _ _ (h ρ2 F2 H2 σ' e2 S L)
  | .ct _ _, h => fun ρ2 F2 H2 σ' e2 S L => hc _ _ (h ρ2 F2 H2 σ' e2 S L)
  | .ex _ _, h => h
  | .bad, h => h

theorem mS_skip : PSs X [] (tSM tb X.K W mSkip) := pss_imp pss_nil fun D σ H ⟨ρ, F, M, τ, S, L, p⟩ => p ρ F H σ .refl S L
theorem mS_cons {st : Stmt} {rest : List Stmt} {a b : SM} (ha : PS X st (tSM tb X.K W a)) (hb : PSs X rest (tSM tb X.K W b)) : PSs X (st :: rest) (tSM tb X.K W (mSeq a b)) := by
  refine pss_imp (pss_cons ha hb) fun D σ H h => ?_
  obtain ⟨ρ, F, M, τ, S, L, p⟩ := h
  refine ⟨ρ, F, M, τ, S, L, ?_⟩
  unfold mSeq at p
  cases e : a τ M with
  | nx τ' M' => rw [e] at p; exact fun ρ1 F1 H1 σ1 e1 S1 L1 => ⟨ρ1, F1, M', τ', S1, L1, p.mono e1⟩
  | rt t M' => rw [e] at p; exact p
  | bk τ' M' => rw [e] at p; exact p
  | ct τ' M' => rw [e] at p; exact p
  | ex c M' => rw [e] at p; exact p
  | bad => rw [e] at p; exact p
theorem mS_one {st : Stmt} {a : SM} (ha : PS X st (tSM tb X.K W a)) : PSs X [st] (tSM tb X.K W a) := pss_one ha
theorem mS_pass {pos : Pos} : PS X (.Pass pos) (tSM tb X.K W mSkip) := ps_imp ps_pass fun D σ H ⟨ρ, F, M, τ, S, L, p⟩ => p ρ F H σ .refl S L
theorem mS_brk {pos : Pos} : PS X (.Break pos) (tSM tb X.K W mBrk) := ps_imp ps_break fun D σ H ⟨ρ, F, M, τ, S, L, p⟩ => p ρ F H σ .refl S L
theorem mS_cnt {pos : Pos} : PS X (.Continue pos) (tSM tb X.K W mCnt) := ps_imp ps_continue fun D σ H ⟨ρ, F, M, τ, S, L, p⟩ => p ρ F H σ .refl S L
theorem mS_if {c : Expr} {a b : List Stmt} {pos : Pos} {mc : TM} {ma mb : SM} (hc : PT X c (tTM tb X.K W mc)) (ha : PSs X a (tSM tb X.K W ma)) (hb : PSs X b (tSM tb X.K W mb)) : PS X (.If c a b pos) (tSM tb X.K W (mIf mc ma mb)) := by
  refine ps_imp (ps_if hc ha hb) fun D σ H h => ?_
  obtain ⟨ρ, F, M, τ, S, L, p⟩ := h
  refine ⟨ρ, F, M, τ, S, L, (SP1.st p).imp fun x ρ1 F1 H1 e1 q => ?_⟩
  obtain ⟨M1, _, S1, p1⟩ := q
  cases x with
  | true => exact ⟨ρ1, F1, M1, τ, S1, L.mono e1, p1⟩
  | false => exact ⟨ρ1, F1, M1, τ, S1, L.mono e1, p1⟩
theorem mS_exp {e : Expr} {pos : Pos} {m : EM} (he : PE X e (tM tb X.K W m)) (hs : swapsWith e none pos.line X.env = pure false := by rfl) : PS X (.Expr e pos) (tSM tb X.K W (mExp m)) := by
  refine ps_imp (ps_expr he hs) fun D σ H h => ?_
  obtain ⟨ρ, F, M, τ, S, L, p⟩ := h
  refine ⟨ρ, F, M, τ, S, L, (SP1.st p).imp fun x ρ1 F1 H1 e1 q v r => ?_⟩
  obtain ⟨M1, _, S1, p1⟩ := q
  exact p1 ρ1 F1 H1 σ .refl S1 (L.mono e1)
theorem mS_ret {e : Expr} {pos : Pos} {m : EM} (he : PE X e (tM tb X.K W m)) : PS X (.Return (some e) pos) (tSM tb X.K W (mRet m)) := by
  refine ps_imp (ps_ret he) fun D σ H h => ?_
  obtain ⟨ρ, F, M, τ, S, L, p⟩ := h
  refine ⟨ρ, F, M, τ, S, L, (SP1.st p).imp fun x ρ1 F1 H1 e1 q v r => ?_⟩
  obtain ⟨M1, _, S1, p1⟩ := q
  exact p1 ρ1 F1 H1 v .refl S1 r
theorem mS_retN {pos : Pos} : PS X (.Return none pos) (tSM tb X.K W mRetN) := ps_imp ps_retN fun D σ H ⟨ρ, F, M, τ, S, L, p⟩ => p ρ F H .non .refl S .non
theorem mS_set (i : Nat) {x : Str} {e : Expr} {pos pos' : Pos} {m : EM} (he : PE X e (tM tb X.K W m)) (hN : X.N.Nodup) (hi : X.N[i]? = some x := by rfl) (hx : L2.Loc X.env.scope x := by first | exact Or.inl rfl | exact Or.inr rfl)
    (hs : swapsWith e (some (.Name x pos')) pos.line X.env = pure false := by rfl) (hf : X.fn x = true ∨ X.env.scope.names.lookup x = some .local := by first | exact .inl rfl | exact .inr rfl) :
    PS X (.Assign [.Name x pos'] e pos) (tSM tb X.K W (mSet i m)) := by
  refine ps_imp (ps_set hN hi hx he hs hf) fun D σ H h => ?_
  obtain ⟨ρ, F, M, τ, S, L, p⟩ := h
  refine ⟨ρ, F, M, τ, S, L, (SP1.st p).imp fun x ρ1 F1 H1 e1 q v r => ?_⟩
  obtain ⟨M1, _, S1, p1⟩ := q
  exact p1 ρ1 F1 H1 _ .refl S1 ((L.mono e1).set r i)
/-- an own exception class, raised with a text -/
structure XOk (X : Cx) (tb : Tb) (c : Nat) (x : Str) : Prop where
  exc : PySem.W.excIn X.K (tb.c c) [.type "ValueError", .type "Exception", .type "BaseException", .type "object"] "ValueError.__new__" = true
  mg : X.mg x = some (.ref (tb.c c))
  kp : PySem.W.keepIn X.K (.ref (tb.c c)) = true
  sub : PySem.W.subIn X.K (.ref (tb.c c)) (.type "BaseException") = some true
  ty : PySem.W.typeIn X.K (.ref (tb.c c)) = some (.type "type")
theorem mS_raise {x msg : Str} {c j : Nat} {p p2 p3 pos : Pos} (o : XOk X tb c x) (tk : Takes X W) (hc : X.calm = true := by rfl) (hg : Gl X x := by rfl) (hdb : (x == ("__debug__" : Str)) = false := by decide) :
    PS X (.Raise (some (.Call (.Name x p) [.Constant (.str msg) j p2] [] p3)) none pos) (tSM tb X.K W (mRaise c)) := by
  refine ps_imp (ps_raise hc tk (pmk_own PySem.F.excBase_ValueError o.exc o.mg o.kp (raises_own o.sub o.ty) hg hdb)) fun D σ H h => ?_
  obtain ⟨ρ, F, M, τ, S, L, p⟩ := h
  exact p ρ F H σ .refl S
end

/-! ### while -/
def whileF (c : TM) (b : SM) : Nat → Loc → Hs → SRes
  | 0, _, _ => .bad
  | n + 1, τ, M => (c τ M).st fun x M1 => if x then (match b τ M1 with
    | .nx τ2 M2 => whileF c b n τ2 M2
    | .ct τ2 M2 => whileF c b n τ2 M2
    | .bk τ2 M2 => .nx τ2 M2
    | r => r) else .nx τ M1
def mWhile (n : Nat) (c : TM) (b : SM) : SM := whileF c b n

section
variable {X : Cx} {tb : Tb} {W : WX}
theorem mS_while {c : Expr} {body : List Stmt} {pos : Pos} {mc : TM} {mb : SM} (n : Nat) (hp : PassesOwn (model X.prog X.w) X.A X.env X.xe) (hc : PT X c (tTM tb X.K W mc)) (hb : PSs X body (tSM tb X.K W mb)) :
    PS X (.While c body [] pos) (tSM tb X.K W (mWhile n mc mb)) := by
  refine ps_imp (ps_while hp hc hb) fun D σ H h => ?_
  obtain ⟨ρ, F, M, τ, S, L, p⟩ := h
  refine ⟨fun m σ1 H1 => ∃ ρ1 F1 M1 τ1, Sim tb X.K ρ1 F1 M1 H1 ∧ LocR X.K F1 ρ1 τ1 σ1 ∧ SP1 tb X.K W ρ1 F1 H1 D (whileF mc mb m τ1 M1), ⟨n, ρ, F, M, τ, S, L, p⟩, ?_⟩
  rintro m σ1 H1 ⟨ρ1, F1, M1, τ1, S1, L1, p1⟩
  cases m with
  | zero => exact p1.elim
  | succ m =>
    refine ⟨ρ1, F1, M1, τ1, S1, L1, (SP1.st p1).imp fun x ρ2 F2 H2 e2 q => ?_⟩
    obtain ⟨M2, _, S2, p2⟩ := q
    cases x with
    | false => exact p2 ρ2 F2 H2 σ1 .refl S2 (L1.mono e2)
    | true =>
      rw [if_pos rfl] at p2 ⊢
      refine ⟨fun σ' H' => ∃ ρ1 F1 M1 τ1, Sim tb X.K ρ1 F1 M1 H' ∧ LocR X.K F1 ρ1 τ1 σ' ∧ SP1 tb X.K W ρ1 F1 H' D (whileF mc mb m τ1 M1), fun σ' H' q => ⟨m, Nat.lt_succ_self m, q⟩, ρ2, F2, M2, τ1, S2, L1.mono e2, ?_⟩
      cases e : mb τ1 M2 with
      | nx τ' M' => rw [e] at p2; exact fun ρ3 F3 H3 σ3 e3 S3 L3 => ⟨ρ3, F3, M', τ', S3, L3, p2.mono e3⟩
      | ct τ' M' => rw [e] at p2; exact fun ρ3 F3 H3 σ3 e3 S3 L3 => ⟨ρ3, F3, M', τ', S3, L3, p2.mono e3⟩
      | bk τ' M' => rw [e] at p2; exact p2
      | rt t M' => rw [e] at p2; exact p2
      | ex c M' => rw [e] at p2; exact p2
      | bad => rw [e] at p2; exact p2
end

/-! ### targets of names and tuples of names -/
abbrev TgP := T → Loc → Option Loc
abbrev TgPs := List T → Loc → Option Loc
def gN (i : Nat) : TgP := fun t τ => some (τ.set i t)
def gZ : TgPs := fun ts τ => match ts with | [] => some τ | _ => none
def gC (g : TgP) (h : TgPs) : TgPs := fun ts τ => match ts with | t :: r => (g t τ).bind (h r) | [] => none
def gTp (g : TgPs) : TgP := fun t τ => match t with | .tup ts => g ts τ | _ => none
def tGP (K : PySem.W.Frag) (ws : List Nat) (g : TgP) : TG := fun v σ H Q => ∃ (ρ : List Addr) (F : Hp) (τ τ' : Loc) (t : T), (∀ a o, F a = some o → Hd H a o) ∧ LocR K F ρ τ σ ∧ Rep K F ρ t v ∧ g t τ = some τ' ∧ ∀ σ', LocR K F ρ τ' σ' → wipe σ' ws = wipe σ ws → Q σ' H
def tGPs (K : PySem.W.Frag) (ws : List Nat) (g : TgPs) : TGs := fun vs σ H Q => ∃ (ρ : List Addr) (F : Hp) (τ τ' : Loc) (ts : List T), (∀ a o, F a = some o → Hd H a o) ∧ LocR K F ρ τ σ ∧ RepL K F ρ ts vs ∧ g ts τ = some τ' ∧ ∀ σ', LocR K F ρ τ' σ' → wipe σ' ws = wipe σ ws → Q σ' H
theorem wipe_set {σ : L2.St} {i : Nat} {x : Option V} : ∀ {ws : List Nat}, i ∈ ws → wipe (σ.set i x) ws = wipe σ ws
  | [], h => by cases h
  | w :: ws, h => by
    unfold wipe
    by_cases hi : i ∈ ws
    · rw [wipe_set hi]
    · have e : i = w := (List.mem_cons.mp h).resolve_right hi
      subst e
      have : ∀ ws : List Nat, i ∉ ws → wipe (σ.set i x) ws = (wipe σ ws).set i x := fun ws => by
        induction ws with
        | nil => exact fun _ => rfl
        | cons v vs ih =>
          intro hn
          have h1 : i ≠ v := fun e => hn (by rw [e]; exact List.mem_cons_self)
          have h2 : i ∉ vs := fun m => hn (List.mem_cons_of_mem _ m)
          unfold wipe
          rw [ih h2, List.set_comm _ _ h1]
      rw [this ws hi, List.set_set]
section
variable {X : Cx}
theorem hd_sqT {K : PySem.W.Frag} {F H : Hp} (h : ∀ a o, F a = some o → Hd H a o) {a : Addr} {vs : List V} (q : SqT K F a vs) : SqT K H a vs := by
  rcases q with (q | ⟨od, q⟩) | q
  · rcases h _ _ q with z | ⟨_, _, e, _⟩
    · exact .inl (.inl z)
    · cases e
  · rcases h _ _ q with z | ⟨_, _, e, _⟩
    · exact .inl (.inr ⟨od, z⟩)
    · cases e
  · exact .inr q
theorem hd_sqL {K : PySem.W.Frag} {F H : Hp} (h : ∀ a o, F a = some o → Hd H a o) {a : Addr} {vs : List V} (q : SqL K F a vs) : SqL K H a vs := by
  rcases q with (q | ⟨od, q⟩) | q
  · rcases h _ _ q with z | ⟨_, _, e, _⟩
    · exact .inl (.inl z)
    · cases e
  · rcases h _ _ q with z | ⟨_, _, e, _⟩
    · exact .inl (.inr ⟨od, z⟩)
    · cases e
  · exact .inr q
theorem hd_lst {F H : Hp} (h : ∀ a o, F a = some o → Hd H a o) {a : Addr} {vs : List V} (q : F a = some (.lst vs)) : H a = some (.lst vs) := by
  rcases h _ _ q with z | ⟨_, _, e, _⟩
  · exact z
  · cases e
theorem hd_dK {F H : Hp} (h : ∀ a o, F a = some o → Hd H a o) {a : Addr} {vs : List (Key × V)} (q : F a = some (.dK vs)) : Rd H a (.dK vs) := by
  rcases h _ _ q with z | ⟨od, _, _, z⟩
  · exact .inl z
  · exact .inr ⟨od, z⟩
theorem pg_imp {e : Expr} {t t' : TG} (h : PG X e t) (g : ∀ v σ H Q, t' v σ H Q → t v σ H Q) : PG X e t' := ⟨fun pins s σ H v u Q I r q => h.run pins s σ H v u Q I r (g v σ H Q q)⟩
theorem pgs_imp {e : List Expr} {t t' : TGs} (h : PGs X e t) (g : ∀ v σ H Q, t' v σ H Q → t v σ H Q) : PGs X e t' := ⟨fun pins s σ H v u Q I r q => h.run pins s σ H v u Q I r (g v σ H Q q)⟩
theorem mG_name (i : Nat) (ws : List Nat) {x : Str} {pos : Pos} (hN : X.N.Nodup) (hi : X.N[i]? = some x := by rfl) (hx : L2.Loc X.env.scope x := by first | exact Or.inl rfl | exact Or.inr rfl)
    (hf : X.fn x = true ∨ X.env.scope.names.lookup x = some .local := by first | exact .inl rfl | exact .inr rfl) (hw : i ∈ ws := by decide) : PG X (.Name x pos) (tGP X.K ws (gN i)) := by
  refine pg_imp (pg_name hN hi hx hf) fun v σ H Q h => ?_
  obtain ⟨ρ, F, τ, τ', t, hs, L, r, e, k⟩ := h
  cases e
  exact k _ (L.set r i) (wipe_set hw)
theorem mG_nil (ws : List Nat) : PGs X [] (tGPs X.K ws gZ) := by
  refine pgs_imp pgs_nil fun v σ H Q h => ?_
  obtain ⟨ρ, F, τ, τ', ts, hs, L, r, e, k⟩ := h
  cases r with
  | nil => cases e; exact ⟨rfl, k _ L rfl⟩
  | cons => cases e
theorem mG_cons {ws : List Nat} {e : Expr} {es : List Expr} {g : TgP} {h : TgPs} (hg : PG X e (tGP X.K ws g)) (hh : PGs X es (tGPs X.K ws h)) (hs : (assignEach (e :: es) X.env).map (·.2) = assign e X.env :: (assignEach es X.env).map (·.2) := by rfl) :
    PGs X (e :: es) (tGPs X.K ws (gC g h)) := by
  refine pgs_imp (pgs_cons hg hh hs) fun v σ H Q q => ?_
  obtain ⟨ρ, F, τ, τ', ts, hs, L, r, e, k⟩ := q
  cases r with
  | nil => cases e
  | cons t ts v vs r1 r2 =>
    unfold gC at e
    cases e1 : g t τ with
    | none => simp [e1] at e
    | some τ1 =>
      simp only [e1, Option.bind] at e
      exact ⟨v, vs, rfl, ρ, F, τ, τ1, t, hs, L, r1, e1, fun σ1 L1 w1 => ⟨ρ, F, τ1, τ', ts, hs, L1, r2, e, fun σ2 L2 w2 => k σ2 L2 (w2.trans w1)⟩⟩
theorem gLen {g : TgPs} {n : Nat} (h : ∀ ts τ τ', g ts τ = some τ' → ts.length = n) : True := trivial
theorem mG_tup {ws : List Nat} {es : List Expr} {k : Nat} {pos : Pos} {g : TgPs} {n : Nat} (h : PGs X es (tGPs X.K ws g)) (hl : ∀ ts τ τ', g ts τ = some τ' → ts.length = n) (hc : X.calm = true := by rfl) (hn : (assignEach es X.env).length = n := by rfl)
    (hst : (assignEach es X.env).findIdx? (·.1) = none := by rfl) : PG X (.Tuple es k pos) (tGP X.K ws (gTp g)) := by
  refine pg_imp (pg_tup hc h hn hst) fun v σ H Q q => ?_
  obtain ⟨ρ, F, τ, τ', t, hs, L, r, e, k⟩ := q
  unfold gTp at e
  split at e
  case h_2 => cases e
  rename_i ts
  cases r with
  | tup _ vs a hq rl => exact ⟨a, vs, rfl, hd_sqT hs hq, by rw [← rl.length]; exact hl _ _ _ e, ρ, F, τ, τ', ts, hs, L, rl, e, k⟩
theorem gZ_len : ∀ ts τ τ', gZ ts τ = some τ' → ts.length = 0 := fun ts τ τ' h => by
  cases ts with
  | nil => rfl
  | cons => cases h
theorem gC_len {g : TgP} {h : TgPs} {n : Nat} (hl : ∀ ts τ τ', h ts τ = some τ' → ts.length = n) : ∀ ts τ τ', gC g h ts τ = some τ' → ts.length = n + 1 := fun ts τ τ' e => by
  cases ts with
  | nil => cases e
  | cons t ts =>
    unfold gC at e
    cases e1 : g t τ with
    | none => simp [e1] at e
    | some τ1 =>
      simp only [e1, Option.bind] at e
      simp [hl _ _ _ e]
end
end Mi
namespace Mi
open PySem PySem.Spec PyProof.Rows L2

/-! ### what is walked -/
/-- fixed items, or items asked at each turn (none: not to be walked; some none: the end) -/
inductive Src where
  | l (ts : List T)
  | f (nx : Nat → Hs → Option (Option T))
abbrev IM := Mi.Loc → Hs → Res Src

def forL (g : TgP) (b : SM) : List T → Mi.Loc → Hs → SRes
  | [], τ, M => .nx τ M
  | t :: ts, τ, M => match g t τ with
    | none => .bad
    | some τ1 => match b τ1 M with
      | .nx τ2 M2 => forL g b ts τ2 M2
      | .ct τ2 M2 => forL g b ts τ2 M2
      | .bk τ2 M2 => .nx τ2 M2
      | r => r
def forF (g : TgP) (b : SM) (nx : Nat → Hs → Option (Option T)) : Nat → Nat → Mi.Loc → Hs → SRes
  | 0, _, _, _ => .bad
  | n + 1, i, τ, M => match nx i M with
    | none => .bad
    | some none => .nx τ M
    | some (some t) => match g t τ with
      | none => .bad
      | some τ1 => match b τ1 M with
        | .nx τ2 M2 => forF g b nx n (i + 1) τ2 M2
        | .ct τ2 M2 => forF g b nx n (i + 1) τ2 M2
        | .bk τ2 M2 => .nx τ2 M2
        | r => r
def forS (g : TgP) (b : SM) : Src → Mi.Loc → Hs → SRes
  | .l ts, τ, M => forL g b ts τ M
  | .f nx, τ, M => forF g b nx 1000000 0 τ M
def mFor (it : IM) (g : TgP) (b : SM) : SM := fun τ M => (it τ M).st fun src M1 => forS g b src τ M1

/-- the iterator J yields what the source tells -/
def Its (tb : Tb) (K : PySem.W.Frag) (J : It) (ρ0 : List Addr) (F0 H0 : Hp) : Src → Prop
  | .l ts => ∀ i ρ F M H, Ext ρ0 F0 H0 ρ F H → Sim tb K ρ F M H →
      (∀ t, ts[i]? = some t → J.go i H ∧ ∀ x H', J.yld i H x H' → ∃ F', Ext ρ F H ρ F' H' ∧ Sim tb K ρ F' M H' ∧ Rep K F' ρ t x) ∧ (i = ts.length → J.stop i H)
  | .f nx => ∀ i ρ F M H, Ext ρ0 F0 H0 ρ F H → Sim tb K ρ F M H →
      (∀ t, nx i M = some (some t) → J.go i H ∧ ∀ x H', J.yld i H x H' → ∃ F', Ext ρ F H ρ F' H' ∧ Sim tb K ρ F' M H' ∧ Rep K F' ρ t x) ∧ (nx i M = some none → J.stop i H)
def tI (tb : Tb) (K : PySem.W.Frag) (W : WX) (m : IM) : TI := fun σ H R => ∃ ρ F M τ, Sim tb K ρ F M H ∧ LocR K F ρ τ σ ∧ RP tb K ρ F H (WE1 tb W σ) (fun src ρ' F' H' => ∀ J, Its tb K J ρ' F' H' src → R J H') (m τ M)

section
variable {X : Cx} {tb : Tb} {W : WX} {σ : L2.St} {H : Hp} {K : PySem.W.Frag}
theorem pi_imp {tg e : Expr} {t t' : TI} (h : PI X tg e t) (g : ∀ σ H R, t' σ H R → t σ H R) : PI X tg e t' := ⟨fun pins s σ H R I q => h.run pins s σ H R I (g σ H R q)⟩
theorem pi_alt {tg e : Expr} {t t' : TI} (h : PI X tg e t) (h' : PI X tg e t') : PI X tg e (fun σ H R => t σ H R ∨ t' σ H R) := ⟨fun pins s σ H R I q => q.elim (h.run pins s σ H R I) (h'.run pins s σ H R I)⟩
theorem Its.mono {J : It} {ρ ρ' : List Addr} {F F' H H' : Hp} (e : Ext ρ F H ρ' F' H') : ∀ {src : Src}, Its tb K J ρ F H src → Its tb K J ρ' F' H' src
  | .l ts, h => fun i ρ F M H e' S => h i ρ F M H (e.trans e') S
  | .f nx, h => fun i ρ F M H e' S => h i ρ F M H (e.trans e') S
theorem for_end {ws : List Nat} {g : TgP} {b : SM} {J : It} {D : Ends} {src : Src} {ρ : List Addr} {F : Hp} {M : Hs} {τ : Mi.Loc} (S : Sim tb K ρ F M H) (L : LocR K F ρ τ σ) (hJ : Its tb K J ρ F H src) (p : SP1 tb K W ρ F H D (forS g b src τ M)) :
    ∃ Wv : Nat → Nat → L2.St → Hp → Prop, (∃ m, Wv 0 m σ H) ∧ ∀ i m σ H, Wv i m σ H → (J.stop i H ∧ D.nx σ H) ∨ (J.go i H ∧ ∃ N : L2.St → Hp → Prop, (∀ σ' H', N σ' H' → ∃ m', m' < m ∧ Wv (i + 1) m' σ' H') ∧
      ∀ x H', J.yld i H x H' → tGP K ws g x σ H' fun σ2 H2 => tSM tb K W b { D with nx := N, ct := N, bk := D.nx } σ2 H2) := by
  cases src with
  | l ts =>
    refine ⟨fun i m σ' H' => ∃ ρ1 F1 M1 τ1, Ext ρ F H ρ1 F1 H' ∧ Sim tb K ρ1 F1 M1 H' ∧ LocR K F1 ρ1 τ1 σ' ∧ m + i = ts.length ∧ SP1 tb K W ρ1 F1 H' D (forL g b (ts.drop i) τ1 M1), ⟨ts.length, ρ, F, M, τ, .refl, S, L, rfl, by rw [List.drop_zero]; exact p⟩, ?_⟩
    rintro i m σ1 H1 ⟨ρ1, F1, M1, τ1, e1, S1, L1, hm, p1⟩
    obtain ⟨h1, h2⟩ := hJ i ρ1 F1 M1 H1 e1 S1
    by_cases hi : i < ts.length
    · rw [List.drop_eq_getElem_cons hi] at p1
      obtain ⟨go, yl⟩ := h1 _ (List.getElem?_eq_getElem hi)
      refine .inr ⟨go, fun σ' H' => ∃ ρ1 F1 M1 τ1, Ext ρ F H ρ1 F1 H' ∧ Sim tb K ρ1 F1 M1 H' ∧ LocR K F1 ρ1 τ1 σ' ∧ (m - 1) + (i + 1) = ts.length ∧ SP1 tb K W ρ1 F1 H' D (forL g b (ts.drop (i + 1)) τ1 M1), fun σ' H' q => ⟨m - 1, by omega, q⟩, fun x H' y => ?_⟩
      obtain ⟨F2, e2, S2, r2⟩ := yl x H' y
      have hm' : (m - 1) + (i + 1) = ts.length := by omega
      unfold forL at p1
      cases eg : g ts[i] τ1 with
      | none => rw [eg] at p1; exact p1.elim
      | some τ2 =>
        rw [eg] at p1
        dsimp only at p1
        refine ⟨ρ1, F2, τ1, τ2, ts[i], S2.sub, L1.mono e2, r2, eg, fun σ2 L2' _ => ⟨ρ1, F2, M1, τ2, S2, L2', ?_⟩⟩
        have p2 := p1.mono e2
        cases eb : b τ2 M1 with
        | nx τ' M' => rw [eb] at p2; exact fun ρ3 F3 H3 σ3 e3 S3 L3 => ⟨ρ3, F3, M', τ', (e1.trans e2).trans e3, S3, L3, hm', p2.mono e3⟩
        | ct τ' M' => rw [eb] at p2; exact fun ρ3 F3 H3 σ3 e3 S3 L3 => ⟨ρ3, F3, M', τ', (e1.trans e2).trans e3, S3, L3, hm', p2.mono e3⟩
        | bk τ' M' => rw [eb] at p2; exact p2
        | rt t M' => rw [eb] at p2; exact p2
        | ex c M' => rw [eb] at p2; exact p2
        | bad => rw [eb] at p2; exact p2
    · have hi' : i = ts.length := by omega
      rw [List.drop_eq_nil_of_le (by omega)] at p1
      exact .inl ⟨h2 hi', p1 ρ1 F1 H1 σ1 .refl S1 L1⟩
  | f nx =>
    refine ⟨fun i m σ' H' => ∃ ρ1 F1 M1 τ1, Ext ρ F H ρ1 F1 H' ∧ Sim tb K ρ1 F1 M1 H' ∧ LocR K F1 ρ1 τ1 σ' ∧ SP1 tb K W ρ1 F1 H' D (forF g b nx m i τ1 M1), ⟨1000000, ρ, F, M, τ, .refl, S, L, p⟩, ?_⟩
    rintro i m σ1 H1 ⟨ρ1, F1, M1, τ1, e1, S1, L1, p1⟩
    obtain ⟨h1, h2⟩ := hJ i ρ1 F1 M1 H1 e1 S1
    cases m with
    | zero => exact p1.elim
    | succ m =>
      unfold forF at p1
      cases en : nx i M1 with
      | none => rw [en] at p1; exact p1.elim
      | some o =>
        rw [en] at p1
        cases o with
        | none => exact .inl ⟨h2 en, p1 ρ1 F1 H1 σ1 .refl S1 L1⟩
        | some t =>
          obtain ⟨go, yl⟩ := h1 _ en
          refine .inr ⟨go, fun σ' H' => ∃ ρ1 F1 M1 τ1, Ext ρ F H ρ1 F1 H' ∧ Sim tb K ρ1 F1 M1 H' ∧ LocR K F1 ρ1 τ1 σ' ∧ SP1 tb K W ρ1 F1 H' D (forF g b nx m (i + 1) τ1 M1), fun σ' H' q => ⟨m, Nat.lt_succ_self m, q⟩, fun x H' y => ?_⟩
          obtain ⟨F2, e2, S2, r2⟩ := yl x H' y
          dsimp only at p1
          cases eg : g t τ1 with
          | none => rw [eg] at p1; exact p1.elim
          | some τ2 =>
            rw [eg] at p1
            dsimp only at p1
            refine ⟨ρ1, F2, τ1, τ2, t, S2.sub, L1.mono e2, r2, eg, fun σ2 L2' _ => ⟨ρ1, F2, M1, τ2, S2, L2', ?_⟩⟩
            have p2 := p1.mono e2
            cases eb : b τ2 M1 with
            | nx τ' M' => rw [eb] at p2; exact fun ρ3 F3 H3 σ3 e3 S3 L3 => ⟨ρ3, F3, M', τ', (e1.trans e2).trans e3, S3, L3, p2.mono e3⟩
            | ct τ' M' => rw [eb] at p2; exact fun ρ3 F3 H3 σ3 e3 S3 L3 => ⟨ρ3, F3, M', τ', (e1.trans e2).trans e3, S3, L3, p2.mono e3⟩
            | bk τ' M' => rw [eb] at p2; exact p2
            | rt t M' => rw [eb] at p2; exact p2
            | ex c M' => rw [eb] at p2; exact p2
            | bad => rw [eb] at p2; exact p2
theorem mS_for {ws : List Nat} {tg iter : Expr} {body : List Stmt} {pos : Pos} {it : IM} {g : TgP} {b : SM} (hp : PassesOwn (model X.prog X.w) X.A X.env X.xe) (hi : PI X tg iter (tI tb X.K W it)) (hg : PG X tg (tGP X.K ws g)) (hb : PSs X body (tSM tb X.K W b))
    (hc : X.calm = true := by rfl) (hs : ∀ x, foldedSetIterable iter X.env x = pure x := by intro _; rfl) : PS X (.For tg iter body [] pos) (tSM tb X.K W (mFor it g b)) := by
  refine ps_imp (ps_for hp hc hi hg hb hs) fun D σ H h => ?_
  obtain ⟨ρ, F, M, τ, S, L, p⟩ := h
  refine ⟨ρ, F, M, τ, S, L, (SP1.st p).imp fun src ρ1 F1 H1 e1 q J hJ => ?_⟩
  obtain ⟨M1, _, S1, p1⟩ := q
  exact for_end S1 (L.mono e1) hJ p1

/-! ### sources -/
def srcR (r : Nat) : Nat → Hs → Option (Option T) := fun i M => match M[r]? with
  | some (.lst ts) => some ts[i]?
  | _ => none
def srcV : T → Hs → Res Src
  | .lst ts, M => .ok (.l ts) M
  | .tup ts, M => .ok (.l ts) M
  | .fix ts, M => .ok (.l ts) M
  | .str s, M => .ok (.l (s.map fun c => .str [c])) M
  | .ref r, M => match M[r]? with
    | some (.lst _) => .ok (.f (srcR r)) M
    | _ => .bad
  | _, _ => .bad
def mIV (e : EM) : IM := fun τ M => (e τ M).bind srcV
theorem its_list {a : Addr} {ρ : List Addr} {F : Hp} {ts : List T} {vs : List V} (h : SqL K F a vs) (r : RepL K F ρ ts vs) : Its tb K (Itl K a) ρ F H (.l ts) := fun i ρ1 F1 M1 H1 e1 S1 => by
  have h1 : SqL K H1 a vs := hd_sqL S1.sub (sqL_mono e1.f h)
  have sub1 : ∀ a o, F a = some o → Hd H1 a o := fun a o e => S1.sub a o (e1.f a o e)
  refine ⟨fun t ht => ?_, fun hi => ⟨vs, h1, by rw [hi, r.length]; exact Nat.le_refl _⟩⟩
  obtain ⟨v, hv, rv⟩ := r.get ht
  refine ⟨⟨vs, v, h1, hv⟩, fun x H' y => ?_⟩
  obtain ⟨rfl, y2⟩ := y
  have hx := y2 vs h1
  rw [hv] at hx; cases hx
  exact ⟨F1, .refl, S1, rv.mono e1⟩
theorem its_tup {a : Addr} {ρ : List Addr} {F : Hp} {ts : List T} {vs : List V} (h : SqT K F a vs) (r : RepL K F ρ ts vs) : Its tb K (Itt K a) ρ F H (.l ts) := fun i ρ1 F1 M1 H1 e1 S1 => by
  have h1 : SqT K H1 a vs := hd_sqT S1.sub (sqT_mono e1.f h)
  refine ⟨fun t ht => ?_, fun hi => ⟨vs, h1, by rw [hi, r.length]; exact Nat.le_refl _⟩⟩
  obtain ⟨v, hv, rv⟩ := r.get ht
  refine ⟨⟨vs, v, h1, hv⟩, fun x H' y => ?_⟩
  obtain ⟨rfl, y2⟩ := y
  have hx := y2 vs h1
  rw [hv] at hx; cases hx
  exact ⟨F1, .refl, S1, rv.mono e1⟩
theorem its_str {ρ : List Addr} {F : Hp} (s : List Nat) : Its tb K (L2.Its ⟨s.toArray⟩) ρ F H (.l (s.map fun c => .str [c])) := fun i ρ1 F1 M1 H1 e1 S1 => by
  refine ⟨fun t ht => ?_, fun hi => ?_⟩
  · rw [List.getElem?_map] at ht
    cases e : s[i]? with
    | none => rw [e] at ht; cases ht
    | some c =>
      rw [e] at ht; cases ht
      refine ⟨?_, fun x H' y => ?_⟩
      · show i < s.toArray.size
        have := (List.getElem?_eq_some_iff.mp e).1
        simpa using this
      · obtain ⟨rfl, c', hc, rfl⟩ := y
        have hc' : s[i]? = some c' := by simpa using hc
        rw [e] at hc'; cases hc'
        exact ⟨F1, .refl, S1, .str [c]⟩
  · show s.toArray.size ≤ i
    rw [hi]
    simp
theorem its_ref {a : Addr} {r : Nat} {ρ : List Addr} {F : Hp} (h : ρ[r]? = some a) : Its tb K (Itl K a) ρ F H (.f (srcR r)) := fun i ρ1 F1 M1 H1 e1 S1 => by
  have h' := e1.get h
  have at_ : ∀ ts, M1[r]? = some (.lst ts) → ∃ vs, H1 a = some (.lst vs) ∧ RepL K F1 ρ1 ts vs := fun ts hm => S1.ob r _ a hm h'
  refine ⟨fun t ht => ?_, fun ht => ?_⟩
  · unfold srcR at ht
    split at ht
    case h_2 => cases ht
    rename_i ts hm
    obtain ⟨vs, hH, rl⟩ := at_ ts hm
    obtain ⟨v, hv, rv⟩ := rl.get (Option.some.inj ht)
    refine ⟨⟨vs, v, .inl (.inl hH), hv⟩, fun x H' y => ?_⟩
    obtain ⟨rfl, y2⟩ := y
    have hx := y2 vs (.inl (.inl hH))
    rw [hv] at hx; cases hx
    exact ⟨F1, .refl, S1, rv⟩
  · unfold srcR at ht
    split at ht
    case h_2 => cases ht
    rename_i ts hm
    obtain ⟨vs, hH, rl⟩ := at_ ts hm
    have := Option.some.inj ht
    rw [List.getElem?_eq_none_iff] at this
    exact ⟨vs, .inl (.inl hH), by rw [← rl.length]; exact this⟩
theorem mI_val {tg e : Expr} {m : EM} (h : PE X e (tM tb X.K W m)) : PI X tg e (tI tb X.K W (mIV m)) := by
  refine pi_imp (pi_alt (pi_list h) (pi_alt (pi_tup h) (pi_str h))) fun σ H R q => ?_
  obtain ⟨ρ, F, M, τ, S, L, p⟩ := q
  have p' := RP.bind p
  cases em : m τ M with
  | bad => rw [em] at p'; exact p'.elim
  | ex c M' => rw [em] at p'; exact .inl ⟨ρ, F, M, τ, S, L, by rw [em]; exact p'⟩
  | ok t M1 =>
    rw [em] at p'
    have key : ∀ {ρ1 F1 H1}, Ext ρ F H ρ1 F1 H1 → Sim tb X.K ρ1 F1 M1 H1 → RP tb X.K ρ1 F1 H1 (WE1 tb W σ) (fun src ρ' F' H' => ∀ J, Its tb X.K J ρ' F' H' src → R J H') (srcV t M1) := fun {ρ1 F1 H1} e1 S1 => by
      obtain ⟨M', e, _, r⟩ := p' ρ1 F1 H1 e1 S1
      cases e
      exact r
    cases t with
    | lst ts =>
      refine .inl ⟨ρ, F, M, τ, S, L, ?_⟩
      rw [em]
      intro ρ1 F1 H1 e1 S1 v rv
      cases rv with
      | lst _ vs a hF rl =>
        refine ⟨a, rfl, ⟨vs, .inl (.inl (hd_lst S1.sub hF))⟩, RP.here S1 (key e1 S1) _ (its_list (.inl (.inl hF)) rl)⟩
    | tup ts =>
      refine .inr (.inl ⟨ρ, F, M, τ, S, L, ?_⟩)
      rw [em]
      intro ρ1 F1 H1 e1 S1 v rv
      cases rv with
      | tup _ vs a hF rl => exact ⟨a, rfl, ⟨vs, hd_sqT S1.sub hF⟩, RP.here S1 (key e1 S1) _ (its_tup hF rl)⟩
    | fix ts =>
      refine .inl ⟨ρ, F, M, τ, S, L, ?_⟩
      rw [em]
      intro ρ1 F1 H1 e1 S1 v rv
      cases rv with
      | fix _ vs a hF rl => exact ⟨a, rfl, ⟨vs, hd_sqL S1.sub hF⟩, RP.here S1 (key e1 S1) _ (its_list hF rl)⟩
    | str s =>
      refine .inr (.inr ⟨ρ, F, M, τ, S, L, ?_⟩)
      rw [em]
      intro ρ1 F1 H1 e1 S1 v rv
      cases rv with
      | str _ => exact ⟨_, rfl, RP.here S1 (key e1 S1) _ (its_str s)⟩
    | ref r =>
      refine .inl ⟨ρ, F, M, τ, S, L, ?_⟩
      rw [em]
      intro ρ1 F1 H1 e1 S1 v rv
      cases rv with
      | ref _ a hF =>
        have q := key e1 S1
        cases hm : M1[r]? with
        | none => simp only [srcV, hm] at q; exact q.elim
        | some ob =>
        cases ob with
        | ins c fs => simp only [srcV, hm] at q; exact q.elim
        | dct c => simp only [srcV, hm] at q; exact q.elim
        | lkd c => simp only [srcV, hm] at q; exact q.elim
        | lst ts =>
        simp only [srcV, hm] at q
        obtain ⟨vs, hH, rl⟩ := S1.ob r _ a hm hF
        exact ⟨a, rfl, ⟨vs, .inl (.inl hH)⟩, RP.here S1 q _ (its_ref hF)⟩
    | un => exact .inl ⟨ρ, F, M, τ, S, L, by rw [em]; exact fun ρ1 F1 H1 e1 S1 v rv => (key e1 S1).elim⟩
    | non => exact .inl ⟨ρ, F, M, τ, S, L, by rw [em]; exact fun ρ1 F1 H1 e1 S1 v rv => (key e1 S1).elim⟩
    | bl b => exact .inl ⟨ρ, F, M, τ, S, L, by rw [em]; exact fun ρ1 F1 H1 e1 S1 v rv => (key e1 S1).elim⟩
    | int i => exact .inl ⟨ρ, F, M, τ, S, L, by rw [em]; exact fun ρ1 F1 H1 e1 S1 v rv => (key e1 S1).elim⟩
    | dct kvs => exact .inl ⟨ρ, F, M, τ, S, L, by rw [em]; exact fun ρ1 F1 H1 e1 S1 v rv => (key e1 S1).elim⟩

/-! range -/
def rngL (lo c : Int) (n : Nat) : List T := (List.range n).map fun i => .int (lo + (i : Nat) * c)
def okI (i : Int) : Bool := decide (-4611686018427387904 ≤ i) && decide (i < 4611686018427387904)
theorem okI_of {i : Int} (h : okI i = true) : -(2 ^ 62) ≤ i ∧ i < 2 ^ 62 := by
  unfold okI at h
  simp only [Bool.and_eq_true, decide_eq_true_eq] at h
  omega
def mIA (f : List T → Hs → Res Src) (a : AM) : IM := fun τ M => (a τ M).bind f
def rngV1 : List T → Hs → Res Src
  | [.int j], M => if okI j then .ok (.l (rngL 0 1 j.toNat)) M else .bad
  | _, _ => .bad
def rngV2 : List T → Hs → Res Src
  | [.int i, .int j], M => if okI i && okI j then .ok (.l (rngL i 1 (j - i).toNat)) M else .bad
  | _, _ => .bad
def OpI (tb : Tb) (K : PySem.W.Frag) (f : List T → Hs → Res Src) (r : List V → Hp → (It → Hp → Prop) → Prop) : Prop :=
  ∀ (E : Nat → Hp → Prop) (ρ : List Addr) (F : Hp) (M : Hs) (H : Hp) (R : It → Hp → Prop) (a : List T) (x : List V), Sim tb K ρ F M H → RepL K F ρ a x → RP tb K ρ F H E (fun src ρ' F' H' => ∀ J, Its tb K J ρ' F' H' src → R J H') (f a M) → r x H R
theorem manyI {f : List T → Hs → Res Src} {r : List V → Hp → (It → Hp → Prop) → Prop} {ma : AM} {R : It → Hp → Prop} (hf : OpI tb K f r) (h : tI tb K W (mIA f ma) σ H R) : tAM tb K W ma σ H (fun vs H1 => r vs H1 R) := by
  obtain ⟨ρ, F, M, τ, S, L, p⟩ := h
  refine ⟨ρ, F, M, τ, S, L, (RP.bind p).imp fun a ρ1 F1 H1 e1 q v r1 => ?_⟩
  obtain ⟨M1, _, S1, p1⟩ := q
  exact hf _ ρ1 F1 M1 H1 R a v S1 r1 p1
theorem its_rng {ρ : List Addr} {F : Hp} {lo : Int} {n : Nat} : Its tb K (Itr lo n) ρ F H (.l (rngL lo 1 n)) := fun i ρ1 F1 M1 H1 e1 S1 => by
  refine ⟨fun t ht => ?_, fun hi => ?_⟩
  · unfold rngL at ht
    rw [List.getElem?_map] at ht
    cases e : (List.range n)[i]? with
    | none => rw [e] at ht; cases ht
    | some c =>
      rw [e] at ht; cases ht
      obtain ⟨hl, e⟩ := List.getElem?_eq_some_iff.mp e
      rw [List.getElem_range] at e
      subst e
      rw [List.length_range] at hl
      refine ⟨hl, fun x H' y => ?_⟩
      obtain ⟨rfl, rfl⟩ := y
      exact ⟨F1, .refl, S1, by show Rep K F1 ρ1 (.int (lo + (i : Nat) * 1)) _; rw [Int.mul_one]; exact .int _⟩
  · show n ≤ i
    rw [hi]
    simp [rngL]
theorem op_rng1 : OpI tb K rngV1 (fun vs H R => ∃ j : Int, vs = [.int j] ∧ -(2 ^ 62) ≤ j ∧ j < 2 ^ 62 ∧ R (Itr 0 j.toNat) H) := fun E ρ F M H R a x S r p => by
  unfold rngV1 at p
  split at p
  case h_2 => exact p.elim
  rename_i j
  cases r with
  | cons _ _ _ _ r1 r2 =>
  cases r1; cases r2
  split at p
  · rename_i hk
    obtain ⟨h1, h2⟩ := okI_of hk
    exact ⟨j, rfl, h1, h2, RP.here S p _ its_rng⟩
  · exact p.elim
theorem op_rng2 : OpI tb K rngV2 (fun vs H R => ∃ i j : Int, vs = [.int i, .int j] ∧ (-(2 ^ 62) ≤ i ∧ i < 2 ^ 62 ∧ -(2 ^ 62) ≤ j ∧ j < 2 ^ 62) ∧ R (Itr i (j - i).toNat) H) := fun E ρ F M H R a x S r p => by
  unfold rngV2 at p
  split at p
  case h_2 => exact p.elim
  rename_i i j
  cases r with
  | cons _ _ _ _ r1 r2 =>
  cases r2 with
  | cons _ _ _ _ r2 r3 =>
  cases r1; cases r2; cases r3
  split at p
  · rename_i hk
    rw [Bool.and_eq_true] at hk
    obtain ⟨h1, h2⟩ := okI_of hk.1
    obtain ⟨h3, h4⟩ := okI_of hk.2
    exact ⟨i, j, rfl, ⟨h1, h2, h3, h4⟩, RP.here S p _ its_rng⟩
  · exact p.elim
theorem mI_rng1 {tg a : Expr} {m : AM} {p pos : Pos} (hm : X.mg "range" = none) (h : PA X [a] (tAM tb X.K W m)) (hg : Gl X "range" := by rfl) (hs : starEach [a] X.env = [(false, eval a X.env)] := by rfl) :
    PI X tg (.Call (.Name "range" p) [a] [] pos) (tI tb X.K W (mIA rngV1 m)) := pi_imp (pi_range1 hg hm h hs) fun σ H R q => manyI op_rng1 q
theorem mI_rng2 {tg a b : Expr} {m : AM} {p pos : Pos} (hm : X.mg "range" = none) (h : PA X [a, b] (tAM tb X.K W m)) (hg : Gl X "range" := by rfl) (hs : starEach [a, b] X.env = [(false, eval a X.env), (false, eval b X.env)] := by rfl)
    (hs2 : starEach [b] X.env = [(false, eval b X.env)] := by rfl) : PI X tg (.Call (.Name "range" p) [a, b] [] pos) (tI tb X.K W (mIA rngV2 m)) :=
  pi_imp (pi_range2 hg hm h hs hs2) fun σ H R q => manyI op_rng2 q
end
end Mi
namespace Mi
open PySem PySem.Spec PyProof.Rows L2

/-! ### dicts -/
def kEq : T → T → Bool
  | .int i, .int j => decide (i = j)
  | .str s, .str t => decide (s = t)
  | _, _ => false
def isKey : T → Bool
  | .int _ => true
  | .str _ => true
  | _ => false
def dGet : List (T × T) → T → Option T
  | [], _ => none
  | p :: r, k => if kEq p.1 k then some p.2 else dGet r k
def dHas (kvs : List (T × T)) (k : T) : Bool := kvs.any fun p => kEq p.1 k
def dPut (kvs : List (T × T)) (k v : T) : List (T × T) := if dHas kvs k then kvs.map (fun p => if kEq p.1 k then (p.1, v) else p) else kvs ++ [(k, v)]
def dDrop (kvs : List (T × T)) (k : T) : List (T × T) := kvs.filter fun p => !kEq p.1 k
def dMerge (kvs more : List (T × T)) : List (T × T) := more.foldl (fun a p => dPut a p.1 p.2) kvs

theorem isKey_iff {k : T} : isKey k = true ↔ ∃ q, keyT k = some q := by
  cases k <;> simp [isKey, keyT]
theorem kEq_iff {a b : T} {p q : Key} (ha : keyT a = some p) (hb : keyT b = some q) : kEq a b = decide (p = q) := by
  cases a <;> simp only [keyT, Option.some.injEq, reduceCtorEq] at ha <;> cases b <;> simp only [keyT, Option.some.injEq, reduceCtorEq] at hb <;> subst ha <;> subst hb <;> simp [kEq]
section
variable {K : PySem.W.Frag} {F : Hp} {ρ : List Addr}
theorem key_rep {k : T} {q : Key} {v : V} (h : keyT k = some q) (r : Rep K F ρ k v) : v = kV q := by
  cases k <;> simp only [keyT, Option.some.injEq, reduceCtorEq] at h <;> subst h <;> cases r <;> rfl
theorem RepD.length : ∀ {kvs : List (T × T)} {vs : List (Key × V)}, RepD K F ρ kvs vs → kvs.length = vs.length
  | _, _, .nil => rfl
  | _, _, .cons _ _ _ _ _ _ _ _ r => congrArg (· + 1) (RepD.length r)
theorem RepD.get {k : T} {q : Key} (hk : keyT k = some q) : ∀ {kvs : List (T × T)} {vs : List (Key × V)}, RepD K F ρ kvs vs → (dGet kvs k = none ∧ valV vs q = none) ∨ ∃ t v, dGet kvs k = some t ∧ valV vs q = some v ∧ Rep K F ρ t v
  | _, _, .nil => .inl ⟨rfl, rfl⟩
  | _, _, .cons a t kvs p v vs e h r => by
    have he := kEq_iff e hk
    by_cases hp : p = q
    · refine .inr ⟨t, v, ?_, valV_pos hp, h⟩
      unfold dGet
      rw [he, decide_eq_true hp]
      rfl
    · have z : dGet ((a, t) :: kvs) k = dGet kvs k := by
        conv => lhs; unfold dGet
        rw [he, decide_eq_false hp]
        rfl
      rw [z, valV_neg (p := (p, v)) hp]
      exact RepD.get hk r
theorem RepD.has {k : T} {q : Key} (hk : keyT k = some q) : ∀ {kvs : List (T × T)} {vs : List (Key × V)}, RepD K F ρ kvs vs → dHas kvs k = vs.any fun kv => decide (kv.1 = q)
  | _, _, .nil => rfl
  | _, _, .cons a t kvs p v vs e h r => by
    unfold dHas
    rw [List.any_cons, List.any_cons, kEq_iff e hk]
    have := RepD.has hk r
    unfold dHas at this
    rw [this]
theorem RepD.hasV {k : T} {q : Key} (hk : keyT k = some q) {kvs : List (T × T)} {vs : List (Key × V)} (r : RepD K F ρ kvs vs) : dHas kvs k = (valV vs q).isSome := by
  rw [RepD.has hk r, valV_any]
theorem RepD.append : ∀ {kvs more : List (T × T)} {vs ws : List (Key × V)}, RepD K F ρ kvs vs → RepD K F ρ more ws → RepD K F ρ (kvs ++ more) (vs ++ ws)
  | _, _, _, _, .nil, s => s
  | _, _, _, _, .cons a t kvs p v vs e h r, s => .cons a t _ p v _ e h (RepD.append r s)
theorem RepD.repl {k t : T} {q : Key} {v : V} (hk : keyT k = some q) (rt : Rep K F ρ t v) : ∀ {kvs : List (T × T)} {vs : List (Key × V)}, RepD K F ρ kvs vs →
    RepD K F ρ (kvs.map fun p => if kEq p.1 k then (p.1, t) else p) (vs.map fun kv => if kv.1 = q then (kv.1, v) else kv)
  | _, _, .nil => .nil
  | _, _, .cons a u kvs p w vs e h r => by
    rw [List.map_cons, List.map_cons]
    have he := kEq_iff e hk
    by_cases hp : p = q
    · rw [he, decide_eq_true hp, if_pos rfl, if_pos hp]
      exact .cons _ _ _ _ _ _ e rt (RepD.repl hk rt r)
    · rw [he, decide_eq_false hp, if_neg Bool.false_ne_true, if_neg hp]
      exact .cons _ _ _ _ _ _ e h (RepD.repl hk rt r)
theorem RepD.put {k t : T} {q : Key} {v : V} (hk : keyT k = some q) (rt : Rep K F ρ t v) {kvs : List (T × T)} {vs : List (Key × V)} (r : RepD K F ρ kvs vs) : RepD K F ρ (dPut kvs k t) (putK vs q v) := by
  unfold dPut putK
  rw [RepD.has hk r]
  by_cases h : (vs.any fun kv => decide (kv.1 = q)) = true
  · rw [if_pos h, if_pos h]
    exact RepD.repl hk rt r
  · rw [if_neg h, if_neg h]
    exact r.append (.cons _ _ _ _ _ _ hk rt .nil)
theorem RepD.drop {k : T} {q : Key} (hk : keyT k = some q) : ∀ {kvs : List (T × T)} {vs : List (Key × V)}, RepD K F ρ kvs vs → RepD K F ρ (dDrop kvs k) (dropK vs q)
  | _, _, .nil => .nil
  | _, _, .cons a u kvs p w vs e h r => by
    have he := kEq_iff e hk
    have ih := RepD.drop hk r
    unfold dDrop dropK at ih ⊢
    rw [List.filter_cons, List.filter_cons]
    by_cases hp : p = q
    · simp only [he, decide_eq_true hp, hp]
      simpa using ih
    · simp only [he, decide_eq_false hp]
      simp only [Bool.not_false, if_true, ne_eq, hp, not_false_eq_true, decide_true]
      exact .cons _ _ _ _ _ _ e h ih
theorem RepD.merge : ∀ {more : List (T × T)} {ws : List (Key × V)} {kvs : List (T × T)} {vs : List (Key × V)}, RepD K F ρ more ws → RepD K F ρ kvs vs → RepD K F ρ (dMerge kvs more) (mergeK vs ws)
  | _, _, _, _, .nil, s => s
  | _, _, _, _, .cons a t more p v ws e h r, s => RepD.merge (kvs := dPut _ a t) (vs := putK _ p v) r (s.put e h)
end

/-! ### what a value stands for: a list, a tuple, a dict -/
def lsOf : T → Hs → Option (List T)
  | .lst ts, _ => some ts
  | .fix ts, _ => some ts
  | .ref r, M => match M[r]? with
    | some (.lst ts) => some ts
    | _ => none
  | _, _ => none
def dcOf : T → Hs → Option (List (T × T))
  | .dct kvs, _ => some kvs
  | .ref r, M => match M[r]? with
    | some (.dct kvs) => some kvs
    | some (.lkd kvs) => some kvs
    | _ => none
  | _, _ => none
section
variable {tb : Tb} {K : PySem.W.Frag} {F : Hp} {ρ : List Addr} {M : Hs} {H : Hp}
theorem ls_at {t : T} {ts : List T} {v : V} (S : Sim tb K ρ F M H) (r : Rep K F ρ t v) (h : lsOf t M = some ts) : ∃ a vs, v = .ref a ∧ SqL K H a vs ∧ RepL K F ρ ts vs := by
  cases t <;> simp only [lsOf, reduceCtorEq] at h
  case lst us =>
    cases h
    cases r with
    | lst _ vs a hF rl => exact ⟨a, vs, rfl, .inl (.inl (hd_lst S.sub hF)), rl⟩
  case fix us =>
    cases h
    cases r with
    | fix _ vs a hF rl => exact ⟨a, vs, rfl, hd_sqL S.sub hF, rl⟩
  case ref i =>
    split at h
    case h_2 => cases h
    rename_i us hm
    cases h
    cases r with
    | ref _ a hρ =>
      obtain ⟨vs, hH, rl⟩ := S.ob i _ a hm hρ
      exact ⟨a, vs, rfl, .inl (.inl hH), rl⟩
def lsW : T → Hs → Option (List T)
  | .lst ts, _ => some ts
  | .ref r, M => match M[r]? with
    | some (.lst ts) => some ts
    | _ => none
  | _, _ => none
theorem lw_at {t : T} {ts : List T} {v : V} (S : Sim tb K ρ F M H) (r : Rep K F ρ t v) (h : lsW t M = some ts) : ∃ a vs, v = .ref a ∧ H a = some (.lst vs) ∧ RepL K F ρ ts vs := by
  cases t <;> simp only [lsW, reduceCtorEq] at h
  case lst us =>
    cases h
    cases r with
    | lst _ vs a hF rl => exact ⟨a, vs, rfl, hd_lst S.sub hF, rl⟩
  case ref i =>
    split at h
    case h_2 => cases h
    rename_i us hm
    cases h
    cases r with
    | ref _ a hρ =>
      obtain ⟨vs, hH, rl⟩ := S.ob i _ a hm hρ
      exact ⟨a, vs, rfl, hH, rl⟩
theorem dc_at {t : T} {kvs : List (T × T)} {v : V} (S : Sim tb K ρ F M H) (r : Rep K F ρ t v) (h : dcOf t M = some kvs) : ∃ a vs, v = .ref a ∧ Rd H a (.dK vs) ∧ RepD K F ρ kvs vs := by
  cases t <;> simp only [dcOf, reduceCtorEq] at h
  case dct us =>
    cases h
    cases r with
    | dct _ vs a hF rl => exact ⟨a, vs, rfl, hd_dK S.sub hF, rl⟩
  case ref i =>
    split at h
    case h_3 => cases h
    all_goals
      rename_i us hm
      cases h
      cases r with
      | ref _ a hρ =>
        have z := S.ob i _ a hm hρ
        first
          | (obtain ⟨vs, hH, rl⟩ := z; exact ⟨a, vs, rfl, .inl hH, rl⟩)
          | (obtain ⟨od, vs, hH, rl⟩ := z; exact ⟨a, vs, rfl, .inr ⟨od, hH⟩, rl⟩)
end

/-! ### operations on values -/
def lineN : Nat := 16777216
theorem lineN_eq : lineN = sizeLine := by rw [sizeLine_eq]; rfl
def fAdd : T → T → Hs → Res T
  | .int i, .int j, M => .ok (.int (i + j)) M
  | .str s, .str t, M => if s.length + t.length ≤ lineN then .ok (.str (s ++ t)) M else .bad
  | .tup a, .tup b, M => if a.length + b.length ≤ lineN then .ok (.tup (a ++ b)) M else .bad
  | x, y, M => match lsW x M, lsW y M with
    | some a, some b => if a.length + b.length ≤ lineN then .ok (.lst (a ++ b)) M else .bad
    | _, _ => .bad
def fSub : T → T → Hs → Res T
  | .int i, .int j, M => .ok (.int (i - j)) M
  | _, _, _ => .bad
def smallI (i : Int) : Bool := decide (-18446744073709551616 < i) && decide (i < 18446744073709551616)
def fMul : T → T → Hs → Res T
  | .int i, .int j, M => if smallI i || smallI j then .ok (.int (i * j)) M else .bad
  | x, .int k, M => match lsW x M with
    | some a => if decide (-9223372036854775808 ≤ k) && decide (k < 9223372036854775808) && decide (a.length * k.toNat ≤ lineN) then .ok (.lst (List.replicate k.toNat a).flatten) M else .bad
    | none => .bad
  | _, _, _ => .bad
def fDiv : T → T → Hs → Res T
  | .int i, .int j, M => if decide (j ≠ 0) && decide (j.natAbs < 1073741824) then .ok (.int (i.fdiv j)) M else .bad
  | _, _, _ => .bad
def fMod : T → T → Hs → Res T
  | .int i, .int j, M => if decide (j ≠ 0) then .ok (.int (i.fmod j)) M else .bad
  | _, _, _ => .bad
def fPow : T → T → Hs → Res T
  | .int i, .int j, M => if decide (0 ≤ j) && decide (j ≤ 1000000) && decide (i.natAbs < 18446744073709551616) then .ok (.int (i ^ j.toNat)) M else .bad
  | _, _, _ => .bad
def fNeg : T → Hs → Res T
  | .int i, M => .ok (.int (-i)) M
  | _, _ => .bad
def fLt : T → T → Hs → Res T
  | .int i, .int j, M => .ok (.bl (decide (i < j))) M
  | _, _, _ => .bad
def fLe : T → T → Hs → Res T
  | .int i, .int j, M => .ok (.bl (decide (i ≤ j))) M
  | _, _, _ => .bad
def fGt : T → T → Hs → Res T
  | .int i, .int j, M => .ok (.bl (decide (j < i))) M
  | _, _, _ => .bad
def fGe : T → T → Hs → Res T
  | .int i, .int j, M => .ok (.bl (decide (j ≤ i))) M
  | _, _, _ => .bad
def isNon : T → Bool
  | .non => true
  | _ => false
def fIs : T → T → Hs → Res T
  | x, .non, M => .ok (.bl (isNon x)) M
  | .bl a, .bl b, M => .ok (.bl (decide (a = b))) M
  | _, _, _ => .bad
def fIsN : T → T → Hs → Res T
  | x, .non, M => .ok (.bl (!isNon x)) M
  | .bl a, .bl b, M => .ok (.bl (!decide (a = b))) M
  | _, _, _ => .bad

section
variable {X : Cx} {tb : Tb} {K : PySem.W.Frag}
theorem OpR.imp {f : Value → Value → Sem Value} {r r' : R2} (h : OpR X f r) (g : ∀ x y H Q, r' x y H Q → r x y H Q) : OpR X f r' := fun pins s σ H x y v u Q I rx ry q => h pins s σ H x y v u Q I rx ry (g x y H Q q)
abbrev rAddU (K : PySem.W.Frag) : R2 := fun x y H Q => rI0 (fun i j => .int (i + j)) x y H Q ∨ (∃ i j, x = .str i ∧ y = .str j ∧ i.length + j.length ≤ sizeLine ∧ Q (.str (i ++ j)) H) ∨ rCatA K x y H Q ∨ rCat x y H Q
theorem opr_add : OpR X (binaryOp .Add) (rAddU X.K) := op_add.or (op_add_str.or (op_catA.or op_cat))
theorem str_len (s : List Nat) : (⟨s.toArray⟩ : Str).length = s.length := by simp [Str.length]
theorem str_app (s t : List Nat) : ((⟨s.toArray⟩ : Str) ++ (⟨t.toArray⟩ : Str)) = ⟨(s ++ t).toArray⟩ := by
  show (⟨s.toArray ++ t.toArray⟩ : Str) = _
  simp
theorem op2_add : Op2 tb K fAdd (rAddU K) := fun E ρ F M H Q a b x y S ra rb p => by
  unfold fAdd at p
  split at p
  · cases ra; cases rb
    exact .inl ⟨_, _, rfl, rfl, RP.here S p _ (.int _)⟩
  · split at p
    case isFalse => exact p.elim
    rename_i s t hl
    cases ra; cases rb
    refine .inr (.inl ⟨_, _, rfl, rfl, by rw [str_len, str_len, ← lineN_eq]; exact hl, ?_⟩)
    rw [str_app]
    exact RP.here S p _ (.str _)
  · split at p
    case isFalse => exact p.elim
    rename_i s t hl
    cases ra with
    | tup _ vs aa ha rla =>
    cases rb with
    | tup _ ws bb hb rlb =>
    refine .inr (.inr (.inl ⟨aa, bb, vs, ws, rfl, rfl, hd_sqT S.sub ha, hd_sqT S.sub hb, by rw [← rla.length, ← rlb.length, ← lineN_eq]; exact hl, fun e => ?_, fun e1 e2 => ?_, fun _ _ q hq => new_tup S (rla.append rlb) p q hq⟩))
    · subst e
      cases rla
      exact RP.here S p _ (.tup _ ws bb hb rlb)
    · subst e2
      cases rlb
      rw [List.append_nil] at p
      exact RP.here S p _ (.tup _ vs aa ha rla)
  · split at p
    case h_2 => exact p.elim
    rename_i us ws h1 h2
    split at p
    case isFalse => exact p.elim
    rename_i hl
    obtain ⟨aa, vs, rfl, hH, rl⟩ := lw_at S ra h1
    obtain ⟨bb, zs, rfl, hH2, rl2⟩ := lw_at S rb h2
    exact .inr (.inr (.inr ⟨aa, bb, vs, zs, rfl, rfl, hH, hH2, by rw [← rl.length, ← rl2.length, ← lineN_eq]; exact hl, fun q hq => new_lst S (rl.append rl2) p q hq⟩))
theorem op2_I0 {f : T → T → Hs → Res T} {g : Int → Int → V} {g' : Int → Int → T} (hf : ∀ a b M, f a b M = .bad ∨ ∃ i j, a = .int i ∧ b = .int j ∧ f a b M = .ok (g' i j) M) (hg : ∀ i j (F : Hp) (ρ : List Addr), Rep K F ρ (g' i j) (g i j)) : Op2 tb K f (rI0 g) :=
  fun E ρ F M H Q a b x y S ra rb p => by
    rcases hf a b M with e | ⟨i, j, rfl, rfl, e⟩
    · rw [e] at p; exact p.elim
    · rw [e] at p
      cases ra; cases rb
      exact ⟨i, j, rfl, rfl, RP.here S p _ (hg i j F ρ)⟩
theorem op2_sub : Op2 tb K fSub (rI0 fun i j => .int (i - j)) := op2_I0 (g' := fun i j => .int (i - j)) (fun a b M => by
  cases a <;> try exact .inl rfl
  cases b <;> first | exact .inl rfl | exact .inr ⟨_, _, rfl, rfl, rfl⟩) fun i j F ρ => .int _
theorem op2_lt : Op2 tb K fLt (rI0 fun i j => .bl (decide (i < j))) := op2_I0 (g' := fun i j => .bl (decide (i < j))) (fun a b M => by
  cases a <;> try exact .inl rfl
  cases b <;> first | exact .inl rfl | exact .inr ⟨_, _, rfl, rfl, rfl⟩) fun i j F ρ => .bl _
theorem op2_le : Op2 tb K fLe (rI0 fun i j => .bl (decide (i ≤ j))) := op2_I0 (g' := fun i j => .bl (decide (i ≤ j))) (fun a b M => by
  cases a <;> try exact .inl rfl
  cases b <;> first | exact .inl rfl | exact .inr ⟨_, _, rfl, rfl, rfl⟩) fun i j F ρ => .bl _
theorem op2_gt : Op2 tb K fGt (rI0 fun i j => .bl (decide (j < i))) := op2_I0 (g' := fun i j => .bl (decide (j < i))) (fun a b M => by
  cases a <;> try exact .inl rfl
  cases b <;> first | exact .inl rfl | exact .inr ⟨_, _, rfl, rfl, rfl⟩) fun i j F ρ => .bl _
theorem op2_ge : Op2 tb K fGe (rI0 fun i j => .bl (decide (j ≤ i))) := op2_I0 (g' := fun i j => .bl (decide (j ≤ i))) (fun a b M => by
  cases a <;> try exact .inl rfl
  cases b <;> first | exact .inl rfl | exact .inr ⟨_, _, rfl, rfl, rfl⟩) fun i j F ρ => .bl _
theorem smallI_of {i : Int} (h : smallI i = true) : -(2 ^ 64) < i ∧ i < 2 ^ 64 := by
  unfold smallI at h
  simp only [Bool.and_eq_true, decide_eq_true_eq] at h
  omega
abbrev rMulU : R2 := fun x y H Q => rI CMul (fun i j => .int (i * j)) x y H Q ∨ rRep x y H Q
theorem opr_mul : OpR X (binaryOp .Mult) rMulU := op_mul.or op_rep
theorem rep_flat {F : Hp} {ρ : List Addr} {ts : List T} {vs : List V} (r : RepL K F ρ ts vs) : ∀ n : Nat, RepL K F ρ (List.replicate n ts).flatten (List.replicate n vs).flatten
  | 0 => .nil
  | n + 1 => by
    rw [List.replicate_succ, List.replicate_succ, List.flatten_cons, List.flatten_cons]
    exact r.append (rep_flat r n)
theorem op2_mul : Op2 tb K fMul rMulU := fun E ρ F M H Q a b x y S ra rb p => by
  unfold fMul at p
  split at p
  · split at p
    case isFalse => exact p.elim
    rename_i i j hs
    cases ra; cases rb
    refine .inl ⟨_, _, rfl, rfl, ?_, RP.here S p _ (.int _)⟩
    rw [Bool.or_eq_true] at hs
    exact hs.imp smallI_of smallI_of
  · split at p
    case h_2 => exact p.elim
    rename_i us h1
    split at p
    case isFalse => exact p.elim
    rename_i hl
    simp only [Bool.and_eq_true, decide_eq_true_eq] at hl
    obtain ⟨aa, vs, rfl, hH, rl⟩ := lw_at S ra h1
    cases rb
    exact .inr ⟨aa, _, vs, rfl, rfl, hH, by omega, by omega, by rw [← rl.length, ← lineN_eq]; exact hl.2, fun q hq => new_lst S (rep_flat rl _) p q hq⟩
  · exact p.elim
theorem op2_div : Op2 tb K fDiv (rI CDivN fun i j => .int (i.fdiv j)) := fun E ρ F M H Q a b x y S ra rb p => by
  unfold fDiv at p
  split at p
  case h_2 => exact p.elim
  split at p
  case isFalse => exact p.elim
  rename_i i j hs
  simp only [Bool.and_eq_true, decide_eq_true_eq] at hs
  cases ra; cases rb
  exact ⟨_, _, rfl, rfl, hs, RP.here S p _ (.int _)⟩
theorem op2_mod : Op2 tb K fMod (rI (fun _ j => j ≠ 0) fun i j => .int (i.fmod j)) := fun E ρ F M H Q a b x y S ra rb p => by
  unfold fMod at p
  split at p
  case h_2 => exact p.elim
  split at p
  case isFalse => exact p.elim
  rename_i i j hs
  simp only [decide_eq_true_eq] at hs
  cases ra; cases rb
  exact ⟨_, _, rfl, rfl, hs, RP.here S p _ (.int _)⟩
theorem op2_pow : Op2 tb K fPow (rI CPow fun i j => .int (i ^ j.toNat)) := fun E ρ F M H Q a b x y S ra rb p => by
  unfold fPow at p
  split at p
  case h_2 => exact p.elim
  split at p
  case isFalse => exact p.elim
  rename_i i j hs
  simp only [Bool.and_eq_true, decide_eq_true_eq] at hs
  cases ra; cases rb
  exact ⟨_, _, rfl, rfl, ⟨hs.1.1, hs.1.2, hs.2⟩, RP.here S p _ (.int _)⟩
theorem op1_neg : Op1 tb K fNeg (rU fun i => .int (-i)) := fun E ρ F M H Q a x S ra p => by
  unfold fNeg at p
  split at p
  case h_2 => exact p.elim
  cases ra
  exact ⟨_, rfl, RP.here S p _ (.int _)⟩
theorem rep_non {F : Hp} {ρ : List Addr} {t : T} {v : V} (r : Rep K F ρ t v) : isNon t = decide (v = .non) := by
  cases r <;> simp [isNon]
abbrev rIsU : R2 := fun x y H Q => (y = .non ∧ Q (.bl (decide (x = .non))) H) ∨ rIsB x y H Q
abbrev rNotU : R2 := fun x y H Q => (y = .non ∧ Q (.bl (!decide (x = .non))) H) ∨ rNotB x y H Q
theorem opr_is : OpR X (compareOp .Is) rIsU := op_isN.or op_isBl
theorem opr_isN : OpR X (compareOp .IsNot) rNotU := op_notN.or op_notBl
theorem op2_is : Op2 tb K fIs rIsU := fun E ρ F M H Q a b x y S ra rb p => by
  unfold fIs at p
  split at p
  · cases rb
    refine .inl ⟨rfl, ?_⟩
    have q := RP.here S p _ (.bl _)
    rw [rep_non ra] at q
    exact q
  · cases ra; cases rb
    exact .inr ⟨_, _, rfl, rfl, RP.here S p _ (.bl _)⟩
  · exact p.elim
theorem op2_isN : Op2 tb K fIsN rNotU := fun E ρ F M H Q a b x y S ra rb p => by
  unfold fIsN at p
  split at p
  · cases rb
    refine .inl ⟨rfl, ?_⟩
    have q := RP.here S p _ (.bl _)
    rw [rep_non ra] at q
    exact q
  · cases ra; cases rb
    exact .inr ⟨_, _, rfl, rfl, RP.here S p _ (.bl _)⟩
  · exact p.elim
end
end Mi
namespace Mi
open PySem PySem.Spec PyProof.Rows L2

/-! ### == and in over plain data -/
def b2 : Bool → Int
  | true => 1
  | false => 0
mutual
def teq : T → T → Bool
  | .non, .non => true
  | .bl a, .bl b => decide (a = b)
  | .bl a, .int j => decide (b2 a = j)
  | .int i, .bl b => decide (i = b2 b)
  | .int i, .int j => decide (i = j)
  | .str s, .str t => decide (s = t)
  | .lst a, .lst b => teqL a b
  | .tup a, .tup b => teqL a b
  | _, _ => false
def teqL : List T → List T → Bool
  | [], [] => true
  | x :: xs, y :: ys => teq x y && teqL xs ys
  | _, _ => false
end
/-- plain, no deeper than that -/
def dp : Nat → T → Bool
  | _, .non => true
  | _, .bl _ => true
  | _, .int _ => true
  | _, .str _ => true
  | n + 1, .lst ts => ts.all (dp n)
  | n + 1, .tup ts => ts.all (dp n)
  | _, _ => false
def deR : T → Hs → T
  | .fix ts, _ => .lst ts
  | .ref r, M => match M[r]? with
    | some (.lst ts) => .lst ts
    | _ => .ref r
  | t, _ => t
mutual
def toPy : T → PyData
  | .non => .none
  | .bl b => .bool b
  | .int i => .int i
  | .str s => .str ⟨s.toArray⟩
  | .lst ts => .list (toPyL ts)
  | .tup ts => .tuple (toPyL ts)
  | _ => .none
def toPyL : List T → List PyData
  | [] => []
  | t :: ts => toPy t :: toPyL ts
end
section
variable {tb : Tb} {K : PySem.W.Frag} {F : Hp} {ρ : List Addr} {M : Hs} {H : Hp}
theorem dp_scal : ∀ n t, dp n t = true → (∃ ts, t = .lst ts ∨ t = .tup ts) ∨ (t = .non ∨ (∃ b, t = .bl b) ∨ (∃ i, t = .int i) ∨ ∃ s, t = .str s) := fun n t h => by
  cases t <;> cases n <;> simp_all [dp]
theorem dp_lst {n : Nat} {ts : List T} (h : dp n (.lst ts) = true) : ∃ k, n = k + 1 ∧ ts.all (dp k) = true := by
  cases n with
  | zero => simp [dp] at h
  | succ k => exact ⟨k, rfl, by simpa [dp] using h⟩
theorem dp_tup {n : Nat} {ts : List T} (h : dp n (.tup ts) = true) : ∃ k, n = k + 1 ∧ ts.all (dp k) = true := by
  cases n with
  | zero => simp [dp] at h
  | succ k => exact ⟨k, rfl, by simpa [dp] using h⟩
mutual
theorem dp_Dp (sub : ∀ a o, F a = some o → Hd H a o) : ∀ (t : T) (n : Nat) (v : V), dp n t = true → Rep K F ρ t v → Dp K H v (toPy t) ∧ (toPy t).plain = true ∧ (toPy t).depth ≤ n
  | .un, n, v, h, r => by cases r
  | .non, n, v, h, r => by cases r; exact ⟨by rw [toPy]; exact .non, by simp [toPy, PyData.plain], by simp [toPy, PyData.depth]⟩
  | .bl b, n, v, h, r => by cases r; exact ⟨by rw [toPy]; exact .bl b, by simp [toPy, PyData.plain], by simp [toPy, PyData.depth]⟩
  | .int i, n, v, h, r => by cases r; exact ⟨by rw [toPy]; exact .int i, by simp [toPy, PyData.plain], by simp [toPy, PyData.depth]⟩
  | .str s, n, v, h, r => by cases r; exact ⟨by rw [toPy]; exact .str _, by simp [toPy, PyData.plain], by simp [toPy, PyData.depth]⟩
  | .lst ts, n, v, h, r => by
    obtain ⟨k, rfl, h⟩ := dp_lst h
    cases r with
    | lst _ vs a hF rl =>
      obtain ⟨h1, h2, h3⟩ := dp_DpL sub ts k vs h rl
      exact ⟨by rw [toPy]; exact .lst (.inl (.inl (hd_lst sub hF))) h1, by simp [toPy, PyData.plain, h2], by simp [toPy, PyData.depth]; omega⟩
  | .tup ts, n, v, h, r => by
    obtain ⟨k, rfl, h⟩ := dp_tup h
    cases r with
    | tup _ vs a hF rl =>
      obtain ⟨h1, h2, h3⟩ := dp_DpL sub ts k vs h rl
      exact ⟨by rw [toPy]; exact .tup (hd_sqT sub hF) h1, by simp [toPy, PyData.plain, h2], by simp [toPy, PyData.depth]; omega⟩
  | .fix ts, n, v, h, r => by cases n <;> simp [dp] at h
  | .dct kvs, n, v, h, r => by cases n <;> simp [dp] at h
  | .ref i, n, v, h, r => by cases n <;> simp [dp] at h
theorem dp_DpL (sub : ∀ a o, F a = some o → Hd H a o) : ∀ (ts : List T) (n : Nat) (vs : List V), ts.all (dp n) = true → RepL K F ρ ts vs → DpAll K H vs (toPyL ts) ∧ PyData.plainAll (toPyL ts) = true ∧ PyData.depthAll (toPyL ts) ≤ n
  | [], n, vs, h, r => by cases r; exact ⟨by rw [toPyL]; exact .nil, by simp [toPyL, PyData.plainAll], by simp [toPyL, PyData.depthAll]⟩
  | t :: ts, n, vs, h, r => by
    rw [List.all_cons, Bool.and_eq_true] at h
    cases r with
    | cons _ _ v vs r1 r2 =>
      obtain ⟨h1, h2, h3⟩ := dp_Dp sub t n v h.1 r1
      obtain ⟨g1, g2, g3⟩ := dp_DpL sub ts n vs h.2 r2
      exact ⟨by rw [toPyL]; exact .cons h1 g1, by simp [toPyL, PyData.plainAll, h2, g2], by simp [toPyL, PyData.depthAll]; omega⟩
end
theorem dec_beq {α : Type} [BEq α] [LawfulBEq α] [DecidableEq α] (a b : α) : decide (a = b) = (a == b) := by
  by_cases h : a = b
  · subst h; simp
  · rw [decide_eq_false h]; exact (beq_eq_false_iff_ne.mpr h).symm
mutual
theorem teq_py : ∀ (a b : T) (n m : Nat), dp n a = true → dp m b = true → teq a b = PyData.eqv (toPy a) (toPy b) := fun a b n m ha hb => by
  cases a with
  | un => cases n <;> simp [dp] at ha
  | fix => cases n <;> simp [dp] at ha
  | dct => cases n <;> simp [dp] at ha
  | ref => cases n <;> simp [dp] at ha
  | lst as =>
    obtain ⟨k, rfl, ha⟩ := dp_lst ha
    cases b with
    | lst bs =>
      obtain ⟨l, rfl, hb⟩ := dp_lst hb
      simp only [teq, toPy, PyData.eqv]
      exact teq_pyL as bs k l ha hb
    | _ => first | rfl | (cases m <;> simp [dp] at hb)
  | tup as =>
    obtain ⟨k, rfl, ha⟩ := dp_tup ha
    cases b with
    | tup bs =>
      obtain ⟨l, rfl, hb⟩ := dp_tup hb
      simp only [teq, toPy, PyData.eqv]
      exact teq_pyL as bs k l ha hb
    | _ => first | rfl | (cases m <;> simp [dp] at hb)
  | non => cases b <;> first | rfl | (cases m <;> simp [dp] at hb)
  | bl x =>
    cases b with
    | bl y => simp only [teq, toPy, PyData.eqv]; exact dec_beq x y
    | int y => simp only [teq, toPy, PyData.eqv]; cases x <;> exact dec_beq _ _
    | _ => first | rfl | (cases m <;> simp [dp] at hb)
  | int x =>
    cases b with
    | bl y => simp only [teq, toPy, PyData.eqv]; cases y <;> exact dec_beq _ _
    | int y => simp only [teq, toPy, PyData.eqv]; exact dec_beq x y
    | _ => first | rfl | (cases m <;> simp [dp] at hb)
  | str x =>
    cases b with
    | str y =>
      simp only [teq, toPy, PyData.eqv]
      rw [← dec_beq]
      simp
    | _ => first | rfl | (cases m <;> simp [dp] at hb)
theorem teq_pyL : ∀ (as bs : List T) (n m : Nat), as.all (dp n) = true → bs.all (dp m) = true → teqL as bs = PyData.eqvAll (toPyL as) (toPyL bs)
  | [], [], _, _, _, _ => by simp [teqL, toPyL, PyData.eqvAll]
  | [], _ :: _, _, _, _, _ => by simp [teqL, toPyL, PyData.eqvAll]
  | _ :: _, [], _, _, _, _ => by simp [teqL, toPyL, PyData.eqvAll]
  | a :: as, b :: bs, n, m, ha, hb => by
    rw [List.all_cons, Bool.and_eq_true] at ha hb
    simp only [teqL, toPyL, PyData.eqvAll]
    rw [teq_py a b n m ha.1 hb.1, teq_pyL as bs n m ha.2 hb.2]
end

theorem deR_at {t : T} {n : Nat} {v : V} (S : Sim tb K ρ F M H) (r : Rep K F ρ t v) (h : dp n (deR t M) = true) : Dp K H v (toPy (deR t M)) ∧ (toPy (deR t M)).plain = true ∧ (toPy (deR t M)).depth ≤ n := by
  have stay : deR t M = t → Dp K H v (toPy (deR t M)) ∧ (toPy (deR t M)).plain = true ∧ (toPy (deR t M)).depth ≤ n := fun e => by rw [e] at h ⊢; exact dp_Dp S.sub t n v h r
  cases t with
  | fix ts =>
    have e : deR (.fix ts) M = .lst ts := rfl
    rw [e] at h ⊢
    obtain ⟨k, rfl, h⟩ := dp_lst h
    cases r with
    | fix _ vs a hF rl =>
      obtain ⟨h1, h2, h3⟩ := dp_DpL S.sub ts k vs h rl
      exact ⟨by rw [toPy]; exact .lst (hd_sqL S.sub hF) h1, by simp [toPy, PyData.plain, h2], by simp [toPy, PyData.depth]; omega⟩
  | ref i =>
    cases hm : M[i]? with
    | none => exact stay (by simp [deR, hm])
    | some ob =>
      cases ob with
      | ins c fs => exact stay (by simp [deR, hm])
      | dct c => exact stay (by simp [deR, hm])
      | lkd c => exact stay (by simp [deR, hm])
      | lst ts =>
        have e : deR (.ref i) M = .lst ts := by simp [deR, hm]
        rw [e] at h ⊢
        obtain ⟨k, rfl, h⟩ := dp_lst h
        cases r with
        | ref _ a hρ =>
          obtain ⟨vs, hH, rl⟩ := S.ob i _ a hm hρ
          obtain ⟨h1, h2, h3⟩ := dp_DpL S.sub ts k vs h rl
          exact ⟨by rw [toPy]; exact .lst (.inl (.inl hH)) h1, by simp [toPy, PyData.plain, h2], by simp [toPy, PyData.depth]; omega⟩
  | _ => exact stay rfl
end

def fEqP (neg : Bool) : T → T → Hs → Res T := fun x y M => if dp 60 (deR x M) && dp 60 (deR y M) then .ok (.bl (xor neg (teq (deR x M) (deR y M)))) M else .bad
section
variable {X : Cx} {tb : Tb} {K : PySem.W.Frag}
def rEqP (K : PySem.W.Frag) (neg : Bool) : R2 := fun x y H Q => ∃ d e, Dp K H x d ∧ Dp K H y e ∧ d.plain = true ∧ e.plain = true ∧ d.depth ≤ 60 ∧ Q (.bl (xor neg (PyData.eqv d e))) H
theorem opr_eqP (hu : X.A.units + 64 < cLine) : OpR X (compareOp .Eq) (rEqP X.K false) := fun pins s σ H x y v u Q I rx ry h => by
  obtain ⟨d, e, hd, he, sd, se, hz, q⟩ := h
  obtain ⟨as, r1⟩ := Dp.reads I d x v hd rx
  obtain ⟨bs, r2⟩ := Dp.reads I e y u he ry
  exact SeqAt.eq_plain r1 r2 sd se (by have := Nat.min_le_left d.depth e.depth; omega) ⟨.bl _, H, I, rfl, by simpa using q⟩
theorem opr_neP (hu : X.A.units + 64 < cLine) : OpR X (compareOp .NotEq) (rEqP X.K true) := fun pins s σ H x y v u Q I rx ry h => by
  obtain ⟨d, e, hd, he, sd, se, hz, q⟩ := h
  obtain ⟨as, r1⟩ := Dp.reads I d x v hd rx
  obtain ⟨bs, r2⟩ := Dp.reads I e y u he ry
  exact SeqAt.ne_plain r1 r2 sd se (by have := Nat.min_le_left d.depth e.depth; omega) ⟨.bl _, H, I, rfl, by simpa using q⟩
theorem op2_eqP {neg : Bool} : Op2 tb K (fEqP neg) (rEqP K neg) := fun E ρ F M H Q a b x y S ra rb p => by
  unfold fEqP at p
  split at p
  case isFalse => exact p.elim
  rename_i h
  rw [Bool.and_eq_true] at h
  obtain ⟨h1, h2, h3⟩ := deR_at S ra h.1
  obtain ⟨g1, g2, g3⟩ := deR_at S rb h.2
  refine ⟨_, _, h1, g1, h2, g2, h3, ?_⟩
  rw [← teq_py _ _ 60 60 h.1 h.2]
  exact RP.here S p _ (.bl _)

/-! ### in -/
def occurs (s t : List Nat) : Bool := !(Builtin.Str.occurrences ⟨t.toArray⟩ ⟨s.toArray⟩ 0 t.length 1).isEmpty
def fInG (neg : Bool) : T → T → Hs → Res T := fun x y M => match y with
  | .str t => match x with
    | .str s => .ok (.bl (xor neg (occurs s t))) M
    | _ => .bad
  | _ => match dcOf y M with
    | some kvs => if isKey x then .ok (.bl (xor neg (dHas kvs x))) M else .bad
    | none => match deR y M with
      | .lst ts => if ts.all (dp 60) && dp 60 x then .ok (.bl (xor neg (ts.any fun t => teq t x))) M else .bad
      | .tup ts => if ts.all (dp 60) && dp 60 x then .ok (.bl (xor neg (ts.any fun t => teq t x))) M else .bad
      | _ => .bad
def rInG (K : PySem.W.Frag) (neg : Bool) : R2 := fun x y H Q => (∃ i j, x = .str i ∧ y = .str j ∧ Q (.bl (xor neg (!(Builtin.Str.occurrences j i 0 j.length 1).isEmpty))) H) ∨
  (∃ a o, y = .ref a ∧ DGet H a x o ∧ Q (.bl (xor neg o.isSome)) H) ∨
  ∃ d ds, (Dp K H y (.list ds) ∨ Dp K H y (.tuple ds)) ∧ Dp K H x d ∧ PyData.plainAll ds = true ∧ d.plain = true ∧ d.depth ≤ 60 ∧ Q (.bl (xor neg (ds.any fun t => PyData.eqv t d))) H
theorem opr_in (hu : X.A.units + 64 < cLine) : OpR X (compareOp .In) (rInG X.K false) := fun pins s σ H x y v u Q I rx ry h => by
  rcases h with h | ⟨a, o, rfl, g, q⟩ | ⟨d, ds, hy, hx, sd, se, hz, q⟩
  · exact op_in_str pins s σ H x y v u Q I rx ry (by simpa using h)
  · cases ry
    exact d_in (by omega) I g rx fun s' I' => ⟨.bl _, H, I', rfl, by simpa using q⟩
  · obtain ⟨as, r1⟩ := Dp.reads I d x v hx rx
    rcases hy with hy | hy
    · obtain ⟨bs, r2⟩ := Dp.reads I _ y u hy ry
      exact SeqAt.in_list_data r2 r1 sd se (by have := Nat.min_le_right (PyData.depthAll ds) d.depth; omega) ⟨.bl _, H, I, rfl, by simpa using q⟩
    · obtain ⟨bs, r2⟩ := Dp.reads I _ y u hy ry
      exact SeqAt.in_tuple_data r2 r1 sd se (by have := Nat.min_le_right (PyData.depthAll ds) d.depth; omega) ⟨.bl _, H, I, rfl, by simpa using q⟩
theorem opr_notIn (hu : X.A.units + 64 < cLine) : OpR X (compareOp .NotIn) (rInG X.K true) := fun pins s σ H x y v u Q I rx ry h => by
  rcases h with h | ⟨a, o, rfl, g, q⟩ | ⟨d, ds, hy, hx, sd, se, hz, q⟩
  · exact op_notin_str pins s σ H x y v u Q I rx ry (by simpa using h)
  · cases ry
    exact d_notIn (by omega) I g rx fun s' I' => ⟨.bl _, H, I', rfl, by simpa using q⟩
  · obtain ⟨as, r1⟩ := Dp.reads I d x v hx rx
    rcases hy with hy | hy
    · obtain ⟨bs, r2⟩ := Dp.reads I _ y u hy ry
      exact SeqAt.notIn_list_data r2 r1 sd se (by have := Nat.min_le_right (PyData.depthAll ds) d.depth; omega) ⟨.bl _, H, I, rfl, by simpa using q⟩
    · obtain ⟨bs, r2⟩ := Dp.reads I _ y u hy ry
      exact SeqAt.notIn_tuple_data r2 r1 sd se (by have := Nat.min_le_right (PyData.depthAll ds) d.depth; omega) ⟨.bl _, H, I, rfl, by simpa using q⟩
theorem dget_at {F H : Hp} {ρ : List Addr} {M : Hs} {x y : T} {v u : V} {kvs : List (T × T)} (S : Sim tb K ρ F M H) (ry : Rep K F ρ y v) (rx : Rep K F ρ x u) (h : dcOf y M = some kvs) (hk : isKey x = true) :
    ∃ a vs q, v = .ref a ∧ u = kV q ∧ keyT x = some q ∧ RepD K F ρ kvs vs ∧ DGet H a u (valV vs q) := by
  obtain ⟨a, vs, rfl, hH, rd⟩ := dc_at S ry h
  obtain ⟨q, hq⟩ := isKey_iff.mp hk
  have e := key_rep hq rx
  subst e
  exact ⟨a, vs, q, rfl, rfl, hq, rd, .inl ⟨vs, q, hH, rfl, rfl⟩⟩
theorem any_py {x : T} (hx : dp 60 x = true) : ∀ ts : List T, ts.all (dp 60) = true → (ts.any fun t => teq t x) = (toPyL ts).any fun t => PyData.eqv t (toPy x)
  | [], _ => by simp [toPyL]
  | t :: ts, h => by
    rw [List.all_cons, Bool.and_eq_true] at h
    rw [toPyL, List.any_cons, List.any_cons, any_py hx ts h.2, teq_py t x 60 60 h.1 hx]
theorem op2_inG {neg : Bool} : Op2 tb K (fInG neg) (rInG K neg) := fun E ρ F M H Q a b x y S ra rb p => by
  unfold fInG at p
  split at p
  · split at p
    case h_2 => exact p.elim
    cases ra; cases rb
    exact .inl ⟨_, _, rfl, rfl, by rw [str_len]; exact RP.here S p _ (.bl _)⟩
  · split at p
    · rename_i kvs hd
      split at p
      case isFalse => exact p.elim
      rename_i hk
      obtain ⟨aa, vs, q, rfl, rfl, hq, rd, g⟩ := dget_at S rb ra hd hk
      refine .inr (.inl ⟨aa, _, rfl, g, ?_⟩)
      rw [← RepD.hasV hq rd]
      exact RP.here S p _ (.bl _)
    · split at p
      case h_3 => exact p.elim
      all_goals
        rename_i ts hde
        split at p
        case isFalse => exact p.elim
        rename_i h
        rw [Bool.and_eq_true] at h
        have hb : dp 61 (deR b M) = true := by rw [hde]; simp only [dp]; exact h.1
        obtain ⟨g1, g2, g3⟩ := deR_at S rb hb
        obtain ⟨h1, h2, h3⟩ := dp_Dp S.sub a 60 x h.2 ra
        rw [hde, toPy] at g1 g2
        simp only [PyData.plain] at g2
        refine .inr (.inr ⟨_, _, ?_, h1, g2, h2, h3, ?_⟩)
        · first
            | exact .inl g1
            | exact .inr g1
        · rw [← any_py h.2 ts h.1]
          exact RP.here S p _ (.bl _)

/-! ### items: o[i] -/
def fIx : T → T → Hs → Res T := fun x y M => match x, y with
  | .str s, .int i => match atI s i with
    | some c => if s.length ≤ lineN then .ok (.str [c]) M else .bad
    | none => .bad
  | .tup ts, .int i => match atI ts i with
    | some t => okT t M
    | none => .bad
  | x, k => match dcOf x M with
    | some kvs => if isKey k then (match dGet kvs k with
      | some t => okT t M
      | none => .bad) else .bad
    | none => match lsOf x M, k with
      | some ts, .int i => match atI ts i with
        | some t => okT t M
        | none => .bad
      | _, _ => .bad
def rIxU (K : PySem.W.Frag) : R2 := fun x y H Q => rIx K x y H Q ∨ ∃ a v, x = .ref a ∧ DGet H a y (some v) ∧ Q v H
theorem ix_all (hu : X.A.units + 64 < cLine) : IxR X (rIxU X.K) := ix_seq.or fun value slice pins s σ H x y v u Q I rx ry h hs => by
  obtain ⟨a, w, rfl, g, q⟩ := h
  cases rx
  have hT := dict_typeIs I g
  have tail : wpAny (model X.prog X.w) X.A (subscripted slice false (.ref a) u) (fun r s₃ => wpAny (model X.prog X.w) X.A (letTemporaryGo value (.ref a) r >>= fun _ => pure r) (EP X pins σ Q) X.xe s₃) X.xe s := by
    rw [hs]
    exact wpAny_operating (d_getItem (by omega) I g ry fun w' s' I' rw' => wpAny_bind (wpAny_letTemporaryGo (wpAny_pure ⟨w, H, I', rw', q⟩)))
  unfold subscriptTail
  refine wpAny_bind ?_
  rw [getitemInPython_of_ne hT.not_modules]
  refine wpAny_bind (wpAny_specialOf hT PySem.F.slot_dict_getitem.lookup ?_)
  first
    | exact wpAny_pure (wpAny_bind tail)
    | exact wpAny_bind (wpAny_pure (wpAny_bind tail))
    | exact wpAny_bind tail
theorem atI_rep {F : Hp} {ρ : List Addr} {ts : List T} {vs : List V} {i : Int} {t : T} (r : RepL K F ρ ts vs) (h : atI ts i = some t) : ∃ v, atI vs i = some v ∧ Rep K F ρ t v := by
  unfold atI at h ⊢
  rw [r.length] at h
  cases e : ixN vs.length i with
  | none => rw [e] at h; cases h
  | some j =>
    rw [e] at h
    exact r.get h
theorem rep_un {F : Hp} {ρ : List Addr} {t : T} {v : V} (r : Rep K F ρ t v) : t ≠ .un := fun e => by subst e; cases r
theorem op2_ix : Op2 tb K fIx (rIxU K) := fun E ρ F M H Q a b x y S ra rb p => by
  unfold fIx at p
  split at p
  · split at p
    case h_2 => exact p.elim
    split at p
    case isFalse => exact p.elim
    rename_i c hc hl
    cases ra; cases rb
    exact .inl (.inr (.inr ⟨_, _, c, rfl, rfl, by rw [str_len, ← lineN_eq]; exact hl, by simpa using hc, RP.here S p _ (.str _)⟩))
  · split at p
    case h_2 => exact p.elim
    rename_i t ht
    cases rb
    cases ra with
    | tup _ vs aa hF rl =>
      obtain ⟨v, hv, rv⟩ := atI_rep rl ht
      rw [okT_of (rep_un rv)] at p
      exact .inl (.inr (.inl ⟨aa, vs, _, v, rfl, rfl, hd_sqT S.sub hF, hv, RP.here S p v rv⟩))
  · split at p
    · rename_i kvs hd
      split at p
      case isFalse => exact p.elim
      rename_i hk
      obtain ⟨aa, vs, q, rfl, rfl, hq, rd, g⟩ := dget_at S ra rb hd hk
      split at p
      case h_2 => exact p.elim
      rename_i t ht
      rcases RepD.get hq rd with ⟨e, _⟩ | ⟨t', v, e1, e2, rv⟩
      · rw [ht] at e; cases e
      · rw [ht] at e1; cases e1
        rw [okT_of (rep_un rv)] at p
        rw [e2] at g
        exact .inr ⟨aa, v, rfl, g, RP.here S p v rv⟩
    · split at p
      case h_2 => exact p.elim
      rename_i ts i hls _ _
      split at p
      case h_2 => exact p.elim
      rename_i t ht
      obtain ⟨aa, vs, rfl, hH, rl⟩ := ls_at S ra hls
      cases rb
      obtain ⟨v, hv, rv⟩ := atI_rep rl ht
      rw [okT_of (rep_un rv)] at p
      exact .inl (.inl ⟨aa, vs, _, v, rfl, rfl, hH, hv, RP.here S p v rv⟩)
theorem mE_ix {W : WX} {a b : Expr} {pos : Pos} {ma mb : EM} (hu : X.A.units + 64 < cLine) (ha : PE X a (tM tb X.K W ma)) (hb : PE X b (tM tb X.K W mb)) (hs : PlainIx b := by intro _ _; rfl) : PE X (.Subscript a b pos) (tM tb X.K W (mOp2 fIx ma mb)) :=
  pe_imp (pe_ix (ix_all hu) ha hb hs) fun _ _ _ h => two op2_ix h
end
end Mi
namespace Mi
open PySem PySem.Spec PyProof.Rows L2

/-! ### fields are stored -/
theorem keys_put (f : Str) (v : V) : ∀ l : List (Str × V), (putF f v l).map (·.1) = if f ∈ l.map (·.1) then l.map (·.1) else l.map (·.1) ++ [f]
  | [] => by simp [putF]
  | (g, x) :: r => by
    unfold putF
    by_cases e : g = f
    · rw [if_pos e]
      simp [e]
    · rw [if_neg e, List.map_cons, List.map_cons, keys_put f v r]
      by_cases m : f ∈ r.map (·.1)
      · rw [if_pos m, if_pos (List.mem_cons_of_mem _ m)]
      · rw [if_neg m, if_neg (fun z => (List.mem_cons.mp z).elim (fun q => e q.symm) m)]
        rfl
theorem nodup_sub_len {α : Type} [DecidableEq α] : ∀ (l m : List α), l.Nodup → (∀ x ∈ l, x ∈ m) → l.length ≤ m.length
  | [], m, _, _ => Nat.zero_le _
  | a :: l, m, hn, hs => by
    rw [List.nodup_cons] at hn
    have ha : a ∈ m := hs a List.mem_cons_self
    have := nodup_sub_len l (m.erase a) hn.2 fun x hx => (List.mem_erase_of_ne (fun e : x = a => hn.1 (by rw [← e]; exact hx))).mpr (hs x (List.mem_cons_of_mem _ hx))
    rw [List.length_erase_of_mem ha] at this
    have hp := List.length_pos_of_mem ha
    rw [List.length_cons]
    omega
section
variable {K : PySem.W.Frag} {F : Hp} {ρ : List Addr}
theorem FsRep.put {ns : List Str} {fs : List T} {fsV : List (Str × V)} {j : Nat} {f : Str} {t : T} {v : V} (fr : FsRep K F ρ ns fs fsV) (hnd : ns.Nodup) (hj : ns[j]? = some f) (r : Rep K F ρ t v) : FsRep K F ρ ns (fs.set j t) (putF f v fsV) := by
  refine ⟨by rw [List.length_set]; exact fr.len, fun i n u h1 h2 => ?_, fun n hn => ?_, ?_, fun n hn => ?_⟩
  · rw [lookup_putF]
    by_cases e : j = i
    · subst e
      rw [hj] at h1; cases h1
      rw [if_pos rfl]
      have hl : j < fs.length := by
        have := (List.getElem?_eq_some_iff.mp h2).1
        simpa using this
      rw [List.getElem?_set_self hl] at h2
      cases h2
      exact .inr ⟨v, r, rfl⟩
    · rw [List.getElem?_set_ne e] at h2
      have : n ≠ f := fun z => by
        subst z
        obtain ⟨q1, e1⟩ := List.getElem?_eq_some_iff.mp hj
        obtain ⟨q2, e2⟩ := List.getElem?_eq_some_iff.mp h1
        exact e ((List.getElem_inj hnd).mp (e1.trans e2.symm))
      rw [if_neg this]
      exact fr.at_ i n u h1 h2
  · rw [lookup_putF, if_neg (fun z => hn (by rw [z]; exact List.mem_of_getElem? hj))]
    exact fr.out n hn
  · rw [keys_put]
    split
    · exact fr.keys.1
    · rename_i hf
      rw [List.nodup_append]
      exact ⟨fr.keys.1, by simp, fun a ha b hb e => by
        rw [List.mem_singleton] at hb
        subst hb; subst e
        exact hf ha⟩
  · rw [keys_put] at hn
    split at hn
    · exact fr.keys.2 n hn
    · rcases List.mem_append.mp hn with z | z
      · exact fr.keys.2 n z
      · rw [List.mem_singleton] at z
        subst z
        exact List.mem_of_getElem? hj
theorem FsRep.few {ns : List Str} {fs : List T} {fsV : List (Str × V)} (fr : FsRep K F ρ ns fs fsV) (h : ns.length ≤ 100) : fsV.length < 1000 := by
  have := nodup_sub_len _ _ fr.keys.1 fr.keys.2
  rw [List.length_map] at this
  omega
end
def putFld (tab : List (Nat × Nat)) (o t : T) (M : Hs) : Option Hs := match o with
  | .ref i => match M[i]? with
    | some (.ins c fs) => match tab.lookup c with
      | some j => some (M.set i (.ins c (fs.set j t)))
      | none => none
    | _ => none
  | _ => none
/-- the field as it stands: its class, its place, its value -/
def rdFld (tab : List (Nat × Nat)) (o : T) (M : Hs) : Option (Nat × Nat × T) := match o with
  | .ref i => match M[i]? with
    | some (.ins c fs) => match tab.lookup c with
      | some j => match fs.getD j .un with
        | .un => none
        | t => some (c, j, t)
      | none => none
    | _ => none
  | _ => none
def Res.putTo {α : Type} (k : α → SRes) : Option α → SRes
  | some a => k a
  | none => .bad
def mSetFld (tab : List (Nat × Nat)) (mo mv : EM) : SM := fun τ M => (mv τ M).st fun t M1 => (mo τ M1).st fun o M2 => Res.putTo (fun M3 => .nx τ M3) (putFld tab o t M2)
def mAugFld (tab : List (Nat × Nat)) (f : T → T → Hs → Res T) (mo mv : EM) : SM := fun τ M => (mo τ M).st fun o M1 => match rdFld tab o M1 with
  | some (c, j, x) => (mv τ M1).st fun y M2 => (f x y M2).st fun z M3 => Res.putTo (fun M4 => .nx τ M4) (putFld [(c, j)] o z M3)
  | none => .bad
def mAugVar (i : Nat) (f : T → T → Hs → Res T) (mv : EM) : SM := fun τ M => (mVar i τ M).st fun x _ => (mv τ M).st fun y M1 => (f x y M1).st fun z M2 => .nx (τ.set i z) M2

section
variable {X : Cx} {tb : Tb} {W : WX} {σ : L2.St} {H : Hp} {K : PySem.W.Frag} {ρ : List Addr} {F : Hp} {M : Hs}
theorem put_at {tab : List (Nat × Nat)} {f : Str} {o t : T} {v w : V} {M' : Hs} (ht : FTab K tb f tab) (S : Sim tb K ρ F M H) (ro : Rep K F ρ o v) (rt : Rep K F ρ t w) (h : putFld tab o t M = some M') :
    ∃ a C dx fsV, v = .ref a ∧ H a = some (.ins C dx fsV) ∧ Cls K C ∧ NoAttr K C f ∧ fsV.length < 1000 ∧ Sim tb K ρ F M' (upd H a (.ins C dx (putF f w fsV))) ∧ Ext ρ F H ρ F (upd H a (.ins C dx (putF f w fsV))) := by
  unfold putFld at h
  split at h
  case h_2 => cases h
  rename_i i
  split at h
  case h_2 => cases h
  rename_i c fs hm
  split at h
  case h_2 => cases h
  rename_i j hl
  cases h
  obtain ⟨h1, cf, h3⟩ := ht c j (mem_of_lk hl)
  obtain ⟨a, dx, fsV, rfl, hρ, ha, fr⟩ := ins_at S ro hm
  exact ⟨a, _, dx, fsV, rfl, ha, cf.cls, h3, fr.few cf.few, S.put hρ ⟨dx, _, upd_same, fr.put cf.nd h1 rt⟩, Ext.put (List.mem_of_getElem? hρ)⟩
theorem mS_fld {o e : Expr} {f : Str} {pos pos' : Pos} {tab : List (Nat × Nat)} {mo mv : EM} (ht : FTab X.K tb f tab) (ho : PE X o (tM tb X.K W mo)) (hv : PE X e (tM tb X.K W mv))
    (hs : swapsWith e (some (.Attribute o f pos')) pos.line X.env = pure false := by rfl) : PS X (.Assign [.Attribute o f pos'] e pos) (tSM tb X.K W (mSetFld tab mo mv)) := by
  refine ps_imp (ps_fld ho hv hs) fun D σ H h => ?_
  obtain ⟨ρ, F, M, τ, S, L, p⟩ := h
  refine ⟨ρ, F, M, τ, S, L, (SP1.st p).imp fun t ρ1 F1 H1 e1 q w rw' => ?_⟩
  obtain ⟨M1, _, S1, p1⟩ := q
  refine ⟨ρ1, F1, M1, τ, S1, L.mono e1, (SP1.st p1).imp fun o ρ2 F2 H2 e2 q v rv => ?_⟩
  obtain ⟨M2, _, S2, p2⟩ := q
  cases hp : putFld tab o t M2 with
  | none => rw [hp] at p2; exact p2.elim
  | some M3 =>
    rw [hp] at p2
    obtain ⟨a, C, dx, fsV, rfl, hH, hC, hN, hl, S3, e3⟩ := put_at ht S2 rv (rw'.mono e2) hp
    exact ⟨a, C, dx, fsV, rfl, hH, hC, hN, hl, p2 ρ2 F2 _ σ e3 S3 ((L.mono (e1.trans e2)).mono e3)⟩
theorem mS_augfld {o e : Expr} {f : Str} {pos pos' : Pos} {op : Operator} {tab : List (Nat × Nat)} {mo mv : EM} {g : T → T → Hs → Res T} {r : R2} (ht : FTab X.K tb f tab) (hop : OpR X (inplaceOp op) r) (hf : Op2 tb X.K g r) (ho : PE X o (tM tb X.K W mo)) (hv : PE X e (tM tb X.K W mv)) :
    PS X (.AugAssign (.Attribute o f pos') op e pos) (tSM tb X.K W (mAugFld tab g mo mv)) := by
  refine ps_imp (ps_fldaug (rd := r) ho hv fun pins s σ H x y u v Q I rx ry h => hop pins s σ H x y u v Q I rx ry h) fun D σ H h => ?_
  obtain ⟨ρ, F, M, τ, S, L, p⟩ := h
  refine ⟨ρ, F, M, τ, S, L, (SP1.st p).imp fun o ρ1 F1 H1 e1 q v rv => ?_⟩
  obtain ⟨M1, -, S1, p1⟩ := q
  have L1 := L.mono e1
  cases hrd : rdFld tab o M1 with
  | none => rw [hrd] at p1; exact p1.elim
  | some cjx =>
    obtain ⟨c, j, x⟩ := cjx
    rw [hrd] at p1
    dsimp only at p1
    unfold rdFld at hrd
    split at hrd
    case h_2 => cases hrd
    rename_i i
    split at hrd
    case h_2 => cases hrd
    rename_i c' fs hm
    split at hrd
    case h_2 => cases hrd
    rename_i j' hl
    obtain ⟨h1, cf, h3⟩ := ht c' j' (mem_of_lk hl)
    obtain ⟨a, dx, fsV, rfl, hρ, ha, fr⟩ := ins_at S1 rv hm
    have hj : j' < fs.length := by rw [fr.len]; exact (List.getElem?_eq_some_iff.mp h1).1
    rw [List.getD_eq_getElem?_getD, List.getElem?_eq_getElem hj, show Option.getD (some fs[j']) T.un = fs[j'] from rfl] at hrd
    rcases fr.at_ j' f fs[j'] h1 (List.getElem?_eq_getElem hj) with ⟨z, _⟩ | ⟨w, rw', lk⟩
    · rw [z] at hrd; cases hrd
    · have hx : (c', j', fs[j']) = (c, j, x) := by
        split at hrd
        · cases hrd
        · exact Option.some.inj hrd
      cases hx
      refine ⟨a, _, dx, fsV, w, rfl, ha, cf.cls, h3, lk, ρ1, F1, M1, τ, S1, L1, (SP1.st (σ := σ) p1).imp fun y ρ2 F2 H2 e2 q yv ry => ?_⟩
      obtain ⟨M2, _, S2, p2⟩ := q
      refine hf _ ρ2 F2 M2 H2 _ _ _ w yv S2 (rw'.mono e2) ry ((SP1.st (σ := σ) p2).imp fun z ρ3 F3 H3 e3 q zv rz => ?_)
      obtain ⟨M3, _, S3, p4⟩ := q
      cases hp : putFld [(c, j)] (.ref i) z M3 with
      | none => rw [hp] at p4; exact p4.elim
      | some M4 =>
        rw [hp] at p4
        have hp' := hp
        unfold putFld at hp'
        dsimp only at hp'
        split at hp'
        case h_2 => cases hp'
        rename_i c2 fs2 hm2
        have rv3 := rv.mono (e2.trans e3)
        obtain ⟨a', C', dx', fsV', ea, hH, hC, hN, hl', S4, e4⟩ := put_at (.one h1 cf h3) S3 rv3 rz hp
        cases ea
        obtain ⟨a2, dx2, fsV2, ea2, _, hH2, _⟩ := ins_at S3 rv3 hm2
        cases ea2
        have hc2 : c2 = c := by
          by_cases q : c2 = c
          · exact q
          · have : List.lookup c2 [(c, j)] = none := by
              rw [List.lookup_cons, beq_eq_false_iff_ne.mpr q]
              rfl
            rw [this] at hp'
            cases hp'
        subst hc2
        have hce : (HO.ins C' dx' fsV') = .ins (tb.c c2) dx2 fsV2 := Option.some.inj (hH.symm.trans hH2)
        cases hce
        exact ⟨dx', fsV', hH, hl', p4 ρ3 F3 _ σ e4 S4 ((L1.mono (e2.trans e3)).mono e4)⟩
theorem mS_augvar (i : Nat) {x : Str} {e : Expr} {pos pos' : Pos} {op : Operator} {mv : EM} {g : T → T → Hs → Res T} {r : R2} (hop : OpR X (inplaceOp op) r) (hf : Op2 tb X.K g r) (hv : PE X e (tM tb X.K W mv)) (hN : X.N.Nodup) (hi : X.N[i]? = some x := by rfl)
    (hx : L2.Loc X.env.scope x := by first | exact Or.inl rfl | exact Or.inr rfl) (hfn : X.fn x = true ∨ X.env.scope.names.lookup x = some .local := by first | exact .inl rfl | exact .inr rfl) :
    PS X (.AugAssign (.Name x pos') op e pos) (tSM tb X.K W (mAugVar i g mv)) := by
  refine ps_imp (ps_aug (ti := r) hN hi hx hv (fun pins s σ H x y u v Q I rx ry h => hop pins s σ H x y u v Q I rx ry h) hfn) fun D σ H h => ?_
  obtain ⟨ρ, F, M, τ, S, L, p⟩ := h
  unfold mAugVar mVar at p
  cases e : τ[i]? with
  | none =>
    rw [List.getD_eq_getElem?_getD, e] at p
    exact p.elim
  | some t =>
    rw [List.getD_eq_getElem?_getD, e, show Option.getD (some t) T.un = t from rfl] at p
    rcases L.at_ i t e with rfl | ⟨v, h1, h2⟩
    · exact p.elim
    · rw [okT_of (rep_un h2)] at p
      replace p : SP1 tb X.K W ρ F H D ((mv τ M).st fun y M1 => (g t y M1).st fun z M2 => .nx (τ.set i z) M2) := p
      refine ⟨v, h1, ρ, F, M, τ, S, L, (SP1.st (σ := σ) p).imp fun y ρ2 F2 H2 e2 q yv ry => ?_⟩
      obtain ⟨M2, _, S2, p2⟩ := q
      refine hf _ ρ2 F2 M2 H2 _ _ _ v yv S2 (h2.mono e2) ry ((SP1.st (σ := σ) p2).imp fun z ρ3 F3 H3 e3 q zv rz => ?_)
      obtain ⟨M3, _, S3, p4⟩ := q
      exact p4 ρ3 F3 H3 _ .refl S3 ((L.mono (e2.trans e3)).set rz i)
def fIAdd : T → T → Hs → Res T
  | .int i, .int j, M => .ok (.int (i + j)) M
  | .str s, .str t, M => if s.length + t.length ≤ lineN then .ok (.str (s ++ t)) M else .bad
  | _, _, _ => .bad
abbrev rIAdd : R2 := fun x y H Q => rI0 (fun i j => .int (i + j)) x y H Q ∨ (∃ i j, x = .str i ∧ y = .str j ∧ i.length + j.length ≤ sizeLine ∧ Q (.str (i ++ j)) H)
theorem opr_iadd : OpR X (inplaceOp .Add) rIAdd := iop_add.or iop_add_str
theorem op2_iadd : Op2 tb K fIAdd rIAdd := fun E ρ F M H Q a b x y S ra rb p => by
  unfold fIAdd at p
  split at p
  · cases ra; cases rb
    exact .inl ⟨_, _, rfl, rfl, RP.here S p _ (.int _)⟩
  · split at p
    case isFalse => exact p.elim
    rename_i s t hl
    cases ra; cases rb
    refine .inr ⟨_, _, rfl, rfl, by rw [str_len, str_len, ← lineN_eq]; exact hl, ?_⟩
    rw [str_app]
    exact RP.here S p _ (.str _)
  · exact p.elim

/-! ### o[i] = v -/
def fPut (o i v : T) (M : Hs) : Option Hs := match o with
  | .ref r => match M[r]? with
    | some (.lst ts) => match i with
      | .int k => match ixN ts.length k with
        | some j => some (M.set r (.lst (ts.set j v)))
        | none => none
      | _ => none
    | some (.dct kvs) => if isKey i && decide (kvs.length < lineN) then some (M.set r (.dct (dPut kvs i v))) else none
    | _ => none
  | _ => none
def mSetSub (mo mi mv : EM) : SM := fun τ M => (mv τ M).st fun t M1 => (mo τ M1).st fun o M2 => (mi τ M2).st fun i M3 => Res.putTo (fun M4 => .nx τ M4) (fPut o i t M3)
def rPutU : TSet := fun o i v H Q => rSetL o i v H Q ∨ rSetD o i v H Q
theorem set_all (hu : X.A.units + 64 < cLine) : PSet X rPutU := fun pins s σ H o i v ov iv u Q I ro ri rv h => by
  rcases h with h | h
  · exact set_list pins s σ H o i v ov iv u Q I ro ri rv h
  · exact set_dict (by omega) pins s σ H o i v ov iv u Q I ro ri rv h
theorem fput_at {o i t : T} {vo vi vt : V} {M' : Hs} {Q : Hp → Prop} (S : Sim tb K ρ F M H) (ro : Rep K F ρ o vo) (ri : Rep K F ρ i vi) (rt : Rep K F ρ t vt) (h : fPut o i t M = some M')
    (k : ∀ H', Ext ρ F H ρ F H' → Sim tb K ρ F M' H' → Q H') : rPutU vo vi vt H Q := by
  unfold fPut at h
  split at h
  case h_2 => cases h
  rename_i r
  split at h
  · rename_i ts hm
    split at h
    case h_2 => cases h
    split at h
    case h_2 => cases h
    rename_i k' j hj
    cases h
    cases ro with
    | ref _ a hρ =>
    cases ri
    obtain ⟨vs, hH, rl⟩ := S.ob r _ a hm hρ
    exact .inl ⟨a, vs, _, j, rfl, rfl, hH, by rw [← rl.length]; exact hj, k _ (Ext.put (List.mem_of_getElem? hρ)) (S.put hρ ⟨_, upd_same, rl.set rt j⟩)⟩
  · rename_i kvs hm
    split at h
    case isFalse => cases h
    rename_i hk
    rw [Bool.and_eq_true, decide_eq_true_eq] at hk
    cases h
    cases ro with
    | ref _ a hρ =>
    obtain ⟨q, hq⟩ := isKey_iff.mp hk.1
    have e := key_rep hq ri
    subst e
    obtain ⟨vs, hH, rd⟩ := S.ob r _ a hm hρ
    exact .inr ⟨a, _, rfl, .k hH (by rw [← rd.length, ← lineN_eq]; exact hk.2), k _ (Ext.put (List.mem_of_getElem? hρ)) (S.put hρ ⟨_, upd_same, rd.put hq rt⟩)⟩
  · cases h
theorem mS_sub {o i e : Expr} {pos pos' : Pos} {mo mi mv : EM} (hu : X.A.units + 64 < cLine) (ho : PE X o (tM tb X.K W mo)) (hi : PE X i (tM tb X.K W mi)) (hv : PE X e (tM tb X.K W mv))
    (ha : ∀ v, assign (.Subscript o i pos') X.env v = (do
      let ov ← holding [v] (eval o X.env)
      let iv ← holding [v, ov] (eval i X.env)
      standAt pos'
      holding [v, ov, iv] (setItem ov iv v)
      release [v, ov, iv] []) := by intro _; rfl)
    (hs : swapsWithSole [.Subscript o i pos'] e pos.line X.env = pure false := by rfl) (hw : swappedStores [.Subscript o i pos'] e X.env = pure none := by rfl) (h1 : (assignEach [.Subscript o i pos'] X.env).map (·.2) = [assign (.Subscript o i pos') X.env] := by rfl) :
    PS X (.Assign [.Subscript o i pos'] e pos) (tSM tb X.K W (mSetSub mo mi mv)) := by
  refine ps_imp (ps_asg hv (pg_sub ho hi (set_all hu) ha) hs hw h1) fun D σ H h => ?_
  obtain ⟨ρ, F, M, τ, S, L, p⟩ := h
  refine ⟨ρ, F, M, τ, S, L, (SP1.st p).imp fun t ρ1 F1 H1 e1 q w rt => ?_⟩
  obtain ⟨M1, _, S1, p1⟩ := q
  refine ⟨ρ1, F1, M1, τ, S1, L.mono e1, (SP1.st p1).imp fun o ρ2 F2 H2 e2 q v ro => ?_⟩
  obtain ⟨M2, _, S2, p2⟩ := q
  refine ⟨ρ2, F2, M2, τ, S2, (L.mono e1).mono e2, (SP1.st p2).imp fun i ρ3 F3 H3 e3 q u ri => ?_⟩
  obtain ⟨M3, _, S3, p3⟩ := q
  cases hp : fPut o i t M3 with
  | none => rw [hp] at p3; exact p3.elim
  | some M4 =>
    rw [hp] at p3
    exact fput_at S3 (ro.mono e3) ri (rt.mono (e2.trans e3)) hp fun H4 e4 S4 => p3 ρ3 F3 H4 σ e4 S4 (((L.mono e1).mono (e2.trans e3)).mono e4)

/-! ### slices -/
def cutL {α : Type} (xs : List α) (lo hi : Option Int) : List α := (xs.drop (HT.sIx xs.length 0 lo)).take (HT.sIx xs.length xs.length hi - HT.sIx xs.length 0 lo)
abbrev OM := Mi.Loc → Hs → Res (Option Int)
def mNoP : OM := fun _ M => .ok none M
def mPt (e : EM) : OM := fun τ M => (e τ M).bind fun t M1 => match t with
  | .int i => .ok (some i) M1
  | _ => .bad
def fSl : T → Option Int → Option Int → Hs → Res T
  | .str s, lo, hi, M => if s.length ≤ lineN then .ok (.str (cutL s lo hi)) M else .bad
  | .tup ts, lo, hi, M => .ok (.tup (cutL ts lo hi)) M
  | x, lo, hi, M => match lsOf x M with
    | some ts => .ok (.lst (cutL ts lo hi)) M
    | none => .bad
def mSl (e : EM) (lo hi : OM) : EM := fun τ M => (e τ M).bind fun x M1 => (lo τ M1).bind fun l M2 => (hi τ M2).bind fun h M3 => fSl x l h M3
def tOM (tb : Tb) (K : PySem.W.Frag) (W : WX) (m : OM) : TO := fun σ H Q => ∃ ρ F M τ, Sim tb K ρ F M H ∧ LocR K F ρ τ σ ∧ RP tb K ρ F H (WE1 tb W σ) (fun o _ _ H' => Q o H') (m τ M)
theorem po_imp {e : Option Expr} {t t' : TO} (h : PO X e t) (g : ∀ σ H Q, t' σ H Q → t σ H Q) : PO X e t' := ⟨fun pins s σ H Q I q => h.run pins s σ H Q I (g σ H Q q)⟩
theorem mO_none : PO X none (tOM tb X.K W mNoP) := po_imp po_none fun σ H Q ⟨ρ, F, M, τ, S, L, p⟩ => RP.here S p
theorem mO_some {e : Expr} {m : EM} (h : PE X e (tM tb X.K W m)) : PO X (some e) (tOM tb X.K W (mPt m)) := by
  refine po_imp (po_some h) fun σ H Q h => ?_
  obtain ⟨ρ, F, M, τ, S, L, p⟩ := h
  refine ⟨ρ, F, M, τ, S, L, (RP.bind p).imp fun t ρ1 F1 H1 e1 q v r => ?_⟩
  obtain ⟨M1, _, S1, p1⟩ := q
  cases r with
  | int i => exact ⟨i, rfl, RP.here S1 p1⟩
  | _ => exact p1.elim
theorem cut_rep {ts : List T} {vs : List V} (r : RepL K F ρ ts vs) (lo hi : Option Int) : RepL K F ρ (cutL ts lo hi) (cutV vs lo hi) := by
  unfold cutL cutV
  rw [r.length]
  exact rep_take (rep_drop r _) _
where
  rep_drop {ts : List T} {vs : List V} (r : RepL K F ρ ts vs) : ∀ n : Nat, RepL K F ρ (ts.drop n) (vs.drop n) := fun n => by
    induction n generalizing ts vs with
    | zero => exact r
    | succ n ih =>
      cases r with
      | nil => exact .nil
      | cons t ts v vs h r => exact ih r
  rep_take {ts : List T} {vs : List V} (r : RepL K F ρ ts vs) : ∀ n : Nat, RepL K F ρ (ts.take n) (vs.take n) := fun n => by
    induction n generalizing ts vs with
    | zero => exact .nil
    | succ n ih =>
      cases r with
      | nil => exact .nil
      | cons t ts v vs h r => exact .cons _ _ _ _ h (ih r)
def rSlU (K : PySem.W.Frag) : V → Option Int → Option Int → Hp → VK → Prop := fun x lo hi H Q => rSlL K x lo hi H Q ∨ rSlA K x lo hi H Q ∨ rSlS x lo hi H Q
theorem sl_all : SlR X (rSlU X.K) := sl_list.or (sl_tupA.or sl_str)
theorem cut_whole {α : Type} (xs : List α) (lo hi : Option Int) (h : HT.sIx xs.length 0 lo = 0 ∧ HT.sIx xs.length xs.length hi = xs.length) : cutL xs lo hi = xs := by
  unfold cutL
  rw [h.1, h.2]
  simp
theorem fsl_at {E : Nat → Hp → Prop} {Q : VK} {x : T} {v : V} {lo hi : Option Int} (S : Sim tb K ρ F M H) (r : Rep K F ρ x v) (p : RP tb K ρ F H E (GM K Q) (fSl x lo hi M)) : rSlU K v lo hi H Q := by
  unfold fSl at p
  split at p
  · split at p
    case isFalse => exact p.elim
    rename_i s hl
    cases r
    refine .inr (.inr ⟨_, rfl, by rw [str_len, ← lineN_eq]; exact hl, ?_⟩)
    have e : cutS (⟨s.toArray⟩ : Str) lo hi = ⟨(cutL s lo hi).toArray⟩ := by
      unfold cutS cutL
      rw [str_len]
    rw [e]
    exact RP.here S p _ (.str _)
  · rename_i ts
    cases r with
    | tup _ vs a hF rl =>
    refine .inr (.inl ⟨a, vs, rfl, hd_sqT S.sub hF, fun hw => ?_, fun _ q hq => new_tup S (cut_rep rl lo hi) p q hq⟩)
    rw [← rl.length] at hw
    rw [cut_whole ts lo hi hw] at p
    exact RP.here S p _ (.tup ts vs a hF rl)
  · split at p
    case h_2 => exact p.elim
    rename_i ts hls
    obtain ⟨a, vs, rfl, hH, rl⟩ := ls_at S r hls
    exact .inl ⟨a, vs, rfl, hH, fun q hq => new_lst S (cut_rep rl lo hi) p q hq⟩
theorem mE_sl {e : Expr} {lo hi : Option Expr} {pos p2 : Pos} {m : EM} {ml mh : OM} (he : PE X e (tM tb X.K W m)) (hl : PO X lo (tOM tb X.K W ml)) (hh : PO X hi (tOM tb X.K W mh)) : PE X (.Subscript e (.Slice lo hi none p2) pos) (tM tb X.K W (mSl m ml mh)) := by
  refine pe_imp (pe_slice sl_all he hl hh) fun σ H Q h => ?_
  obtain ⟨ρ, F, M, τ, S, L, p⟩ := h
  refine ⟨ρ, F, M, τ, S, L, (RP.bind p).imp fun x ρ1 F1 H1 e1 q v rx => ?_⟩
  obtain ⟨M1, _, S1, p1⟩ := q
  refine ⟨ρ1, F1, M1, τ, S1, L.mono e1, (RP.bind p1).imp fun l ρ2 F2 H2 e2 q => ?_⟩
  obtain ⟨M2, _, S2, p2⟩ := q
  refine ⟨ρ2, F2, M2, τ, S2, (L.mono e1).mono e2, (RP.bind p2).imp fun h ρ3 F3 H3 e3 q => ?_⟩
  obtain ⟨M3, _, S3, p3⟩ := q
  exact fsl_at S3 (rx.mono (e2.trans e3)) p3
end
end Mi
namespace Mi
open PySem PySem.Spec PyProof.Rows L2

/-! ### dict displays: the new dict is told when its pairs are there -/
abbrev dictO : Obj := { cls := .type "dict", data := .dict #[] }
section
variable {X : Cx}
def tDispP (trs : List (TE × TE)) : TE := fun σ H Q => tPairs trs σ H fun ps H2 => ∃ kvs : List (Key × V), ps = kvs.map (fun kv => (kV kv.1, kv.2)) ∧ kvs.length ≤ 15 ∧ ∀ p, H2 p = none → Q (.ref p) (upd H2 p (.dK (mergeK [] kvs)))
theorem laid_late {pins : List (Addr × Obj)} {σ : L2.St} {H : Hp} {s : Shared} {p : Addr} {ob : HO} {h' : Heap} {t' : Nat} (I : Inv X pins σ H s) (hf : FpOk X pins H p) (hs : Heap.SameBut p s.heap h') (hp : ∃ o, h'.get? p = some o) (new : ObjOk X.prog X.w (upd H p ob) h' p ob) :
    Inv X pins σ (upd H p ob) { s with heap := h', toks := t' } := by
  obtain ⟨f0, f1, f2, f3, f4, f5⟩ := hf
  have sm : ∀ b u, H b = some u → b ≠ p := fun b u e => ne_of_none e f0
  refine I.step (g' := s.gens) (d' := s.drawn) (ch := [p]) (fun b hb => ?_) (fun b o _ _ hc e _ => ?_) (fun b o _ _ hc e _ => ⟨o.slots, ?_⟩) (fun b o hc e n => ?_) (fun b o hc e => ⟨o, ?_⟩) (fun b xs e => ?_) (fun b o u e => ?_) (fun b ps e => ⟨#[], ?_⟩) (fun m hm => ?_) (fun b u e => ?_) I.bare
  · rw [List.mem_singleton] at hb
    subst hb
    exact ⟨f3, f1, f4, f5⟩
  · exact (hs.2 b (fun z => hc (by simp [z]))).trans e
  · exact (hs.2 b (fun z => hc (by simp [z]))).trans e
  · rw [upd_ne (fun z => hc (by simp [z]))]; exact n
  · exact (hs.2 b (fun z => hc (by simp [z]))).trans e
  · rw [upd_ne (sm b _ e)]; exact e
  · rw [upd_ne (sm b _ e)]; exact e
  · rw [upd_ne (sm b _ e), e]; simp
  · obtain ⟨o, es, ep, ho, r⟩ := hm
    exact ⟨o, es, ep, (hs.2 _ (Ne.symm f1)).trans ho, r⟩
  · by_cases hb : b = p
    · subst hb
      rw [upd_same] at e
      cases e
      exact new
    · rw [upd_ne hb] at e
      refine (I.hok b u e).stay (fun c v hc q => (hs.2 c ?_).trans q) (fun c q => by rw [upd_ne (sm c _ q)]; exact q) fun c xs q => by rw [upd_ne (sm c _ q)]; exact q
      rcases hc with z | z
      · rw [z]; exact hb
      · exact sm c _ z
theorem pe_dispP {pos : Pos} {keys : List (Option Expr)} {values : List Expr} {trs : List (TE × TE)} (h : PPs X pos keys values trs) (hall : keys.all (·.isSome) = true) (hl : keys.length = values.length) (h0 : keys ≠ []) (h15 : keys.length ≤ 15) :
    PE X (.Dict keys values pos) (tDispP trs) := by
  refine ⟨fun pins s σ H Q I q => ?_⟩
  have hn : H s.heap.objs.size = none := I.hok.fresh (Nat.le_refl _)
  have hf := I.fpOk (H' := H) (Nat.le_refl _) hn
  have I0 : Inv X pins σ H { s with heap := s.heap.push dictO } := I.kept (t' := s.toks) fun _ _ e => Heap.get?_push_of_some _ e
  have hg : (s.heap.push dictO).get? s.heap.objs.size = some dictO := Heap.get?_push_size _ rfl
  have I1 : Inv X (pins ++ [(s.heap.objs.size, dictO)]) σ H { s with heap := s.heap.push dictO } := I0.pins_of fun z hz => by
    rcases List.mem_append.mp hz with m | m
    · exact I0.pin z (List.mem_append_right _ m)
    · rw [List.mem_singleton] at m
      subst m
      exact ⟨hg, hn, hf.2.1, hf.2.2.1, fun v e => by cases e⟩
  refine wpAny_Dict_walk (knd := mixKind X.prog X.w) hall hl h0 h15 (thn (h.run _ _ σ H _ I1 q) fun ws s2 hh => ?_)
  obtain ⟨ps, H2, I2, rel, kvs, ep, lk, q2⟩ := hh
  subst ep
  obtain ⟨rs, c, rk⟩ := carries_of (P := X.prog) (w := X.w) rel
  obtain ⟨pg, pn, pl, pf, _⟩ := I2.pin (s.heap.objs.size, dictO) (List.mem_append_right _ (List.mem_append_right _ (List.mem_singleton.mpr rfl)))
  have base : ObjOk X.prog X.w (fun _ => none) (s.heap.push dictO) s.heap.objs.size (.dK []) := dk_empty s.heap I.big
  have here : ObjOk X.prog X.w (fun _ => none) s2.heap s.heap.objs.size (.dK []) := base.stay (H' := fun _ => none) (fun b u hb e => by
    rcases hb with z | z
    · rw [z, hg] at e; cases e; rw [z]; exact pg
    · cases z) (fun _ z => by cases z) fun _ _ z => by cases z
  obtain ⟨z, hd, vs0, r0, dd⟩ := here
  cases r0
  refine ⟨rs, c, dd, fun h' dd' hs => ⟨.ref s.heap.objs.size, upd H2 s.heap.objs.size (.dK (mergeK [] kvs)), ?_, rfl, q2 _ pn⟩⟩
  have hz : (mergeK [] kvs).length ≤ sizeLine := by
    have h1 := length_mergeK kvs []
    rw [List.length_nil] at h1
    rw [sizeLine_eq]; omega
  have he : ∃ o, h'.get? s.heap.objs.size = some o := let ⟨o, _, _, e, _⟩ := dd'; ⟨o, e⟩
  exact laid_late (t' := s2.toks + ws.length) I2.unpinned ⟨pn, hf.2⟩ hs he (dk_new hz hd (rk.merge .nil) dd')
end

inductive RepP (K : PySem.W.Frag) (F : Hp) (ρ : List Addr) : List (T × T) → List (V × V) → Prop
  | nil : RepP K F ρ [] []
  | cons (k t : T) (r : List (T × T)) (x v : V) (s : List (V × V)) (a : Rep K F ρ k x) (b : Rep K F ρ t v) (c : RepP K F ρ r s) : RepP K F ρ ((k, t) :: r) ((x, v) :: s)
def mPairs : List (EM × EM) → Mi.Loc → Hs → Res (List (T × T))
  | [], _, M => .ok [] M
  | (k, v) :: r, τ, M => (k τ M).bind fun a M1 => (v τ M1).bind fun b M2 => (mPairs r τ M2).bind fun l M3 => .ok ((a, b) :: l) M3
def okD (kvs : List (T × T)) : Bool := decide (kvs.length ≤ 15) && kvs.all fun p => isKey p.1
def mDct (ps : List (EM × EM)) : EM := fun τ M => (mPairs ps τ M).bind fun kvs M1 => if okD kvs then .ok (.dct (dMerge [] kvs)) M1 else .bad
/-- a dict that may change -/
def mDctR (ps : List (EM × EM)) : EM := fun τ M => (mPairs ps τ M).bind fun kvs M1 => if okD kvs then .ok (.ref M1.length) (M1 ++ [.dct (dMerge [] kvs)]) else .bad
section
variable {X : Cx} {tb : Tb} {W : WX} {σ : L2.St} {H : Hp} {K : PySem.W.Frag} {ρ : List Addr} {F : Hp} {M : Hs}
theorem RepP.mono {ρ' : List Addr} {F' H' : Hp} (e : Ext ρ F H ρ' F' H') : ∀ {kvs : List (T × T)} {vs : List (V × V)}, RepP K F ρ kvs vs → RepP K F' ρ' kvs vs
  | _, _, .nil => .nil
  | _, _, .cons k t r x v s a b c => .cons k t _ x v _ (a.mono e) (b.mono e) (RepP.mono e c)
theorem RepP.keys : ∀ {kvs : List (T × T)} {vs : List (V × V)}, RepP K F ρ kvs vs → (kvs.all fun p => isKey p.1) = true → ∃ ks : List (Key × V), vs = ks.map (fun kv => (kV kv.1, kv.2)) ∧ RepD K F ρ kvs ks
  | _, _, .nil, _ => ⟨[], rfl, .nil⟩
  | _, _, .cons k t r x v s a b c, h => by
    rw [List.all_cons, Bool.and_eq_true] at h
    obtain ⟨q, hq⟩ := isKey_iff.mp h.1
    have e := key_rep hq a
    subst e
    obtain ⟨ks, e1, e2⟩ := RepP.keys c h.2
    subst e1
    exact ⟨(q, v) :: ks, rfl, .cons _ _ _ _ _ _ hq b e2⟩
theorem pairs_of {τ : Mi.Loc} : ∀ (ps : List (EM × EM)) {Q : List (V × V) → Hp → Prop} {ρ : List Addr} {F : Hp} {M : Hs} {H : Hp}, Sim tb K ρ F M H → LocR K F ρ τ σ → RP tb K ρ F H (WE1 tb W σ) (fun kvs ρ' F' H' => ∀ vs, RepP K F' ρ' kvs vs → Q vs H') (mPairs ps τ M) →
    tPairs (ps.map fun p => (tM tb K W p.1, tM tb K W p.2)) σ H Q
  | [], Q, ρ, F, M, H, S, L, p => RP.here S p [] .nil
  | (k, v) :: r, Q, ρ, F, M, H, S, L, p => by
    refine ⟨ρ, F, M, τ, S, L, (RP.bind p).imp fun a ρ1 F1 H1 e1 q x rx => ?_⟩
    obtain ⟨M1, _, S1, p1⟩ := q
    refine ⟨ρ1, F1, M1, τ, S1, L.mono e1, (RP.bind p1).imp fun b ρ2 F2 H2 e2 q y ry => ?_⟩
    obtain ⟨M2, _, S2, p2⟩ := q
    refine pairs_of r S2 ((L.mono e1).mono e2) ((RP.bind p2).imp fun l ρ3 F3 H3 e3 q vs rl => ?_)
    obtain ⟨M3, _, S3, p3⟩ := q
    exact RP.here S3 p3 _ (.cons _ _ _ _ _ _ (rx.mono (e2.trans e3)) (ry.mono e3) rl)
theorem new_dct {E : Nat → Hp → Prop} {Q : VK} {kvs : List (T × T)} {vs : List (Key × V)} (S : Sim tb K ρ F M H) (r : RepD K F ρ kvs vs) (p : RP tb K ρ F H E (GM K Q) (.ok (.dct kvs) M)) (q : Addr) (hq : H q = none) : Q (.ref q) (upd H q (.dK vs)) := by
  obtain ⟨S', e⟩ := S.lay hq (.dK vs)
  exact p ρ _ _ e S' _ (.dct kvs vs q upd_same (r.mono e))
theorem new_dctR {E : Nat → Hp → Prop} {Q : VK} {kvs : List (T × T)} {vs : List (Key × V)} (S : Sim tb K ρ F M H) (r : RepD K F ρ kvs vs) (p : RP tb K ρ F H E (GM K Q) (.ok (.ref M.length) (M ++ [.dct kvs]))) (q : Addr) (hq : H q = none) : Q (.ref q) (upd H q (.dK vs)) := by
  have kp : ∀ a o, H a = some o → upd H q (.dK vs) a = some o := fun a o e => by rw [upd_ne (ne_of_none e hq)]; exact e
  have ex : Ext ρ F H (ρ ++ [q]) F (upd H q (.dK vs)) := .grow hq kp
  obtain ⟨S', e⟩ := S.add (H' := upd H q (.dK vs)) (ob := .dct kvs) hq kp ⟨vs, upd_same, r.mono ex⟩
  exact p _ _ _ e S' _ (.ref _ q (by rw [← S.len, List.getElem?_append_right (Nat.le_refl _), Nat.sub_self]; rfl))
theorem mP_nil {pos : Pos} : PPs X pos [] [] (([] : List (EM × EM)).map fun p => (tM tb X.K W p.1, tM tb X.K W p.2)) := pps_nil
theorem mP_cons {pos : Pos} {k v : Expr} {ks : List (Option Expr)} {vs : List Expr} {mk mv : EM} {r : List (EM × EM)} (hk : PE X k (tM tb X.K W mk)) (hv : PE X v (tM tb X.K W mv)) (hr : PPs X pos ks vs (r.map fun p => (tM tb X.K W p.1, tM tb X.K W p.2))) :
    PPs X pos (some k :: ks) (v :: vs) (((mk, mv) :: r).map fun p => (tM tb X.K W p.1, tM tb X.K W p.2)) := pps_cons hk hv hr
theorem okD_of {kvs : List (T × T)} (h : okD kvs = true) : kvs.length ≤ 15 ∧ (kvs.all fun p => isKey p.1) = true := by
  unfold okD at h
  rw [Bool.and_eq_true, decide_eq_true_eq] at h
  exact h
theorem mE_dct {pos : Pos} {keys : List (Option Expr)} {values : List Expr} {ps : List (EM × EM)} (h : PPs X pos keys values (ps.map fun p => (tM tb X.K W p.1, tM tb X.K W p.2))) (hall : keys.all (·.isSome) = true := by rfl) (hl : keys.length = values.length := by rfl)
    (h0 : keys ≠ [] := by intro z; cases z) (h15 : keys.length ≤ 15 := by decide) : PE X (.Dict keys values pos) (tM tb X.K W (mDct ps)) := by
  refine pe_imp (pe_dispP h hall hl h0 h15) fun σ H Q h => ?_
  obtain ⟨ρ, F, M, τ, S, L, p⟩ := h
  refine pairs_of ps S L ((RP.bind p).imp fun kvs ρ1 F1 H1 e1 q vs rv => ?_)
  obtain ⟨M1, _, S1, p1⟩ := q
  split at p1
  case isFalse => exact p1.elim
  rename_i hk
  obtain ⟨k1, k2⟩ := okD_of hk
  obtain ⟨ks, e, rd⟩ := RepP.keys rv k2
  exact ⟨ks, e, by rw [← rd.length]; exact k1, fun q hq => new_dct S1 (RepD.merge rd .nil) p1 q hq⟩
theorem mE_dctR {pos : Pos} {keys : List (Option Expr)} {values : List Expr} {ps : List (EM × EM)} (h : PPs X pos keys values (ps.map fun p => (tM tb X.K W p.1, tM tb X.K W p.2))) (hall : keys.all (·.isSome) = true := by rfl) (hl : keys.length = values.length := by rfl)
    (h0 : keys ≠ [] := by intro z; cases z) (h15 : keys.length ≤ 15 := by decide) : PE X (.Dict keys values pos) (tM tb X.K W (mDctR ps)) := by
  refine pe_imp (pe_dispP h hall hl h0 h15) fun σ H Q h => ?_
  obtain ⟨ρ, F, M, τ, S, L, p⟩ := h
  refine pairs_of ps S L ((RP.bind p).imp fun kvs ρ1 F1 H1 e1 q vs rv => ?_)
  obtain ⟨M1, _, S1, p1⟩ := q
  split at p1
  case isFalse => exact p1.elim
  rename_i hk
  obtain ⟨k1, k2⟩ := okD_of hk
  obtain ⟨ks, e, rd⟩ := RepP.keys rv k2
  exact ⟨ks, e, by rw [← rd.length]; exact k1, fun q hq => new_dctR S1 (RepD.merge rd .nil) p1 q hq⟩
theorem mE_dct0 {pos : Pos} : PE X (.Dict [] [] pos) (tM tb X.K W (mC (.dct []))) := by
  refine pe_imp pe_dnewK fun σ H Q h => ?_
  obtain ⟨ρ, F, M, τ, S, L, p⟩ := h
  exact fun q hq => new_dct S .nil p q hq
def mDctR0 : EM := fun _ M => .ok (.ref M.length) (M ++ [.dct []])
theorem mE_dctR0 {pos : Pos} : PE X (.Dict [] [] pos) (tM tb X.K W mDctR0) := by
  refine pe_imp pe_dnewK fun σ H Q h => ?_
  obtain ⟨ρ, F, M, τ, S, L, p⟩ := h
  exact fun q hq => new_dctR S .nil p q hq

/-! ### calls of built-ins -/
theorem mE_callB {x : Str} {p pos : Pos} {e : Expr} {es : List Expr} {id : String} {r : List V → Hp → VK → Prop} {f : List T → Hs → Res T} {ma : AM} (hc : CallR X (.builtin id) r) (hf : OpN tb X.K f r) (hm : X.mg x = none) (ha : PA X (e :: es) (tAM tb X.K W ma))
    (hv : bootBuiltins x = some (.builtin id) := by decide +kernel) (hg : Gl X x := by rfl) (hn : x ≠ "__name__" := by decide) (hdb : (x == ("__debug__" : Str)) = false := by decide)
    (he : starEach (e :: es) X.env = (false, eval e X.env) :: starEach es X.env := by rfl) (hpl : (backTo pos (starEach es X.env)).any (·.1) = false := by rfl) : PE X (.Call (.Name x p) (e :: es) [] pos) (tM tb X.K W (mApp f ma)) :=
  pe_imp (pe_callB hc hg hm hv ha hn hdb he hpl) fun _ _ _ h => many hf h
theorem mE_callTy {x : Str} {p pos : Pos} {e : Expr} {es : List Expr} {id : String} {r : List V → Hp → VK → Prop} {f : List T → Hs → Res T} {ma : AM} (hc : CallR X (.type id) r) (hf : OpN tb X.K f r) (hm : X.mg x = none) (ha : PA X (e :: es) (tAM tb X.K W ma))
    (hv : bootBuiltins x = some (.type id) := by decide +kernel) (hg : Gl X x := by rfl) (hn : x ≠ "__name__" := by decide) (hdb : (x == ("__debug__" : Str)) = false := by decide)
    (he : starEach (e :: es) X.env = (false, eval e X.env) :: starEach es X.env := by rfl) (hpl : (backTo pos (starEach es X.env)).any (·.1) = false := by rfl) : PE X (.Call (.Name x p) (e :: es) [] pos) (tM tb X.K W (mApp f ma)) :=
  pe_imp (pe_callTy hc hg hm hv ha hn hdb he hpl) fun _ _ _ h => many hf h
def fAbs : List T → Hs → Res T
  | [.int i], M => .ok (.int (if i < 0 then -i else i)) M
  | _, _ => .bad
theorem opn_abs : OpN tb K fAbs (fun xs H Q => ∃ i, xs = [.int i] ∧ Q (.int (if i < 0 then -i else i)) H) := fun E ρ F M H Q a x S r p => by
  unfold fAbs at p
  split at p
  case h_2 => exact p.elim
  cases r with
  | cons _ _ _ _ r1 r2 =>
  cases r1; cases r2
  exact ⟨_, rfl, RP.here S p _ (.int _)⟩
def fMax2 : List T → Hs → Res T
  | [.int i, .int j], M => .ok (.int (if j > i then j else i)) M
  | _, _ => .bad
def fMin2 : List T → Hs → Res T
  | [.int i, .int j], M => .ok (.int (if j < i then j else i)) M
  | _, _ => .bad
theorem opn_max2 : OpN tb K fMax2 (fun xs H Q => ∃ i j, xs = [.int i, .int j] ∧ Q (.int (if j > i then j else i)) H) := fun E ρ F M H Q a x S r p => by
  unfold fMax2 at p
  split at p
  case h_2 => exact p.elim
  cases r with
  | cons _ _ _ _ r1 r2 =>
  cases r2 with
  | cons _ _ _ _ r2 r3 =>
  cases r1; cases r2; cases r3
  exact ⟨_, _, rfl, RP.here S p _ (.int _)⟩
theorem opn_min2 : OpN tb K fMin2 (fun xs H Q => ∃ i j, xs = [.int i, .int j] ∧ Q (.int (if j < i then j else i)) H) := fun E ρ F M H Q a x S r p => by
  unfold fMin2 at p
  split at p
  case h_2 => exact p.elim
  cases r with
  | cons _ _ _ _ r1 r2 =>
  cases r2 with
  | cons _ _ _ _ r2 r3 =>
  cases r1; cases r2; cases r3
  exact ⟨_, _, rfl, RP.here S p _ (.int _)⟩
def fInt : List T → Hs → Res T
  | [.int i], M => .ok (.int i) M
  | [.bl b], M => .ok (.int (b2 b)) M
  | _, _ => .bad
theorem opn_int : OpN tb K fInt (fun xs H Q => (∃ i, xs = [.int i] ∧ Q (.int i) H) ∨ ∃ k, xs = [.bl k] ∧ Q (.int (if k then 1 else 0)) H) := fun E ρ F M H Q a x S r p => by
  unfold fInt at p
  split at p
  case h_3 => exact p.elim
  · cases r with
    | cons _ _ _ _ r1 r2 =>
    cases r1; cases r2
    exact .inl ⟨_, rfl, RP.here S p _ (.int _)⟩
  · rename_i b
    cases r with
    | cons _ _ _ _ r1 r2 =>
    cases r1; cases r2
    refine .inr ⟨b, rfl, ?_⟩
    have q := RP.here S p _ (.int _)
    cases b <;> exact q
def fLen : List T → Hs → Res T
  | [.str s], M => if s.length ≤ lineN then .ok (.int s.length) M else .bad
  | [.tup ts], M => .ok (.int ts.length) M
  | [x], M => match dcOf x M with
    | some kvs => .ok (.int kvs.length) M
    | none => match lsOf x M with
      | some ts => .ok (.int ts.length) M
      | none => .bad
  | _, _ => .bad
def rLenU (K : PySem.W.Frag) : List V → Hp → VK → Prop := fun xs H Q => (∃ x n, xs = [x] ∧ LenV K x H n ∧ Q (.int n) H) ∨ ∃ a kvs, xs = [.ref a] ∧ Rd H a (.dK kvs) ∧ Q (.int (kvs.length : Nat)) H
theorem cr_len : CallR X (.builtin "len") (rLenU X.K) := call_len.or fun pins s σ H xs us Q I r h => by
  obtain ⟨a, kvs, rfl, hr, q⟩ := h
  rw [Vals.ref1 r]
  exact d_len I hr fun t s' I' => ⟨.int _, H, I', ⟨t, rfl⟩, q⟩
theorem opn_len : OpN tb K fLen (rLenU K) := fun E ρ F M H Q a x S r p => by
  unfold fLen at p
  split at p
  case h_4 => exact p.elim
  · split at p
    case isFalse => exact p.elim
    rename_i s hl
    cases r with
    | cons _ _ _ _ r1 r2 =>
    cases r1; cases r2
    exact .inl ⟨_, s.length, rfl, ⟨by rw [str_len, ← lineN_eq]; exact hl, (str_len s).symm⟩, RP.here S p _ (.int _)⟩
  · rename_i ts
    cases r with
    | cons _ _ _ _ r1 r2 =>
    cases r2
    cases r1 with
    | tup _ vs a hF rl => exact .inl ⟨_, ts.length, rfl, .inr ⟨vs, hd_sqT S.sub hF, rl.length⟩, RP.here S p _ (.int _)⟩
  · cases r with
    | cons _ _ _ _ r1 r2 =>
    cases r2
    split at p
    · rename_i kvs hd
      obtain ⟨a, vs, rfl, hH, rd⟩ := dc_at S r1 hd
      exact .inr ⟨a, vs, rfl, hH, by rw [← rd.length]; exact RP.here S p _ (.int _)⟩
    · split at p
      case h_2 => exact p.elim
      rename_i ts hls
      obtain ⟨a, vs, rfl, hH, rl⟩ := ls_at S r1 hls
      exact .inl ⟨_, ts.length, rfl, .inl ⟨vs, hH, rl.length⟩, RP.here S p _ (.int _)⟩
/-- list(..) of a list, a tuple -/
def fList : List T → Hs → Res T
  | [.tup ts], M => .ok (.lst ts) M
  | [x], M => match lsOf x M with
    | some ts => .ok (.lst ts) M
    | none => .bad
  | _, _ => .bad
theorem opn_list : OpN tb K fList (fun xs H Q => ∃ p ys, xs = [.ref p] ∧ (SqL K H p ys ∨ SqT K H p ys) ∧ ∀ l, H l = none → Q (.ref l) (upd H l (.lst ys))) := fun E ρ F M H Q a x S r p => by
  unfold fList at p
  split at p
  case h_3 => exact p.elim
  · cases r with
    | cons _ _ _ _ r1 r2 =>
    cases r2
    cases r1 with
    | tup _ vs a hF rl => exact ⟨a, vs, rfl, .inr (hd_sqT S.sub hF), fun q hq => new_lst S rl p q hq⟩
  · cases r with
    | cons _ _ _ _ r1 r2 =>
    cases r2
    split at p
    case h_2 => exact p.elim
    rename_i ts hls
    obtain ⟨a, vs, rfl, hH, rl⟩ := ls_at S r1 hls
    exact ⟨a, vs, rfl, .inl hH, fun q hq => new_lst S rl p q hq⟩
def fTuple : List T → Hs → Res T
  | [.tup ts], M => .ok (.tup ts) M
  | [x], M => match lsOf x M with
    | some ts => .ok (.tup ts) M
    | none => .bad
  | _, _ => .bad
theorem opn_tuple : OpN tb K fTuple (fun xs H Q => ∃ p ys, xs = [.ref p] ∧ ((SqL K H p ys ∧ ∀ l, H l = none → Q (.ref l) (upd H l (.tup ys))) ∨ (SqT K H p ys ∧ Q (.ref p) H))) := fun E ρ F M H Q a x S r p => by
  unfold fTuple at p
  split at p
  case h_3 => exact p.elim
  · cases r with
    | cons _ _ _ _ r1 r2 =>
    cases r2
    cases r1 with
    | tup _ vs a hF rl => exact ⟨a, vs, rfl, .inr ⟨hd_sqT S.sub hF, RP.here S p _ (.tup _ vs a hF rl)⟩⟩
  · cases r with
    | cons _ _ _ _ r1 r2 =>
    cases r2
    split at p
    case h_2 => exact p.elim
    rename_i ts hls
    obtain ⟨a, vs, rfl, hH, rl⟩ := ls_at S r1 hls
    exact ⟨a, vs, rfl, .inl ⟨hH, fun q hq => new_tup S rl p q hq⟩⟩
/-- a list of whole numbers, of bools -/
def intsT : List T → Option (List Int)
  | [] => some []
  | .int i :: r => (intsT r).map (i :: ·)
  | _ => none
def bools? : List T → Option (List Bool)
  | [] => some []
  | .bl i :: r => (bools? r).map (i :: ·)
  | _ => none
theorem ints_rep : ∀ {ts : List T} {ns : List Int} {vs : List V}, intsT ts = some ns → RepL K F ρ ts vs → vs = ns.map V.int
  | [], _, _, h, r => by cases h; cases r; rfl
  | t :: ts, ns, vs, h, r => by
    cases t <;> simp only [intsT, reduceCtorEq] at h
    cases e : intsT ts with
    | none => rw [e] at h; cases h
    | some ms =>
      rw [e] at h
      cases h
      cases r with
      | cons _ _ _ _ r1 r2 => cases r1; rw [ints_rep e r2]; rfl
theorem bools_rep : ∀ {ts : List T} {ns : List Bool} {vs : List V}, bools? ts = some ns → RepL K F ρ ts vs → vs = ns.map V.bl
  | [], _, _, h, r => by cases h; cases r; rfl
  | t :: ts, ns, vs, h, r => by
    cases t <;> simp only [bools?, reduceCtorEq] at h
    cases e : bools? ts with
    | none => rw [e] at h; cases h
    | some ms =>
      rw [e] at h
      cases h
      cases r with
      | cons _ _ _ _ r1 r2 => cases r1; rw [bools_rep e r2]; rfl
theorem rep_ints : ∀ (ns : List Int), RepL K F ρ (ns.map T.int) (ns.map V.int)
  | [] => .nil
  | n :: ns => .cons _ _ _ _ (.int n) (rep_ints ns)
def lsI (x : T) (M : Hs) : Option (List Int) := (lsOf x M).bind intsT
theorem lsI_at {x : T} {v : V} {ns : List Int} (S : Sim tb K ρ F M H) (r : Rep K F ρ x v) (h : lsI x M = some ns) : ∃ a, v = .ref a ∧ SqL K H a (ns.map V.int) := by
  unfold lsI at h
  cases e : lsOf x M with
  | none => rw [e] at h; cases h
  | some ts =>
    rw [e] at h
    obtain ⟨a, vs, rfl, hH, rl⟩ := ls_at S r e
    exact ⟨a, rfl, by rw [← ints_rep h rl]; exact hH⟩
def fAll : List T → Hs → Res T
  | [x], M => match (lsOf x M).bind bools? with
    | some bs => .ok (.bl (bs.all id)) M
    | none => .bad
  | _, _ => .bad
def fAny : List T → Hs → Res T
  | [x], M => match (lsOf x M).bind bools? with
    | some bs => .ok (.bl (bs.any id)) M
    | none => .bad
  | _, _ => .bad
theorem lsB_at {x : T} {v : V} {ns : List Bool} (S : Sim tb K ρ F M H) (r : Rep K F ρ x v) (h : (lsOf x M).bind bools? = some ns) : ∃ a, v = .ref a ∧ SqL K H a (ns.map V.bl) := by
  cases e : lsOf x M with
  | none => rw [e] at h; cases h
  | some ts =>
    rw [e] at h
    obtain ⟨a, vs, rfl, hH, rl⟩ := ls_at S r e
    exact ⟨a, rfl, by rw [← bools_rep h rl]; exact hH⟩
theorem opn_all : OpN tb K fAll (rAll K) := fun E ρ F M H Q a x S r p => by
  unfold fAll at p
  split at p
  case h_2 => exact p.elim
  cases r with
  | cons _ _ _ _ r1 r2 =>
  cases r2
  split at p
  case h_2 => exact p.elim
  rename_i bs hb
  obtain ⟨a, rfl, hH⟩ := lsB_at S r1 hb
  exact ⟨a, bs, rfl, hH, RP.here S p _ (.bl _)⟩
theorem opn_any : OpN tb K fAny (rAny K) := fun E ρ F M H Q a x S r p => by
  unfold fAny at p
  split at p
  case h_2 => exact p.elim
  cases r with
  | cons _ _ _ _ r1 r2 =>
  cases r2
  split at p
  case h_2 => exact p.elim
  rename_i bs hb
  obtain ⟨a, rfl, hH⟩ := lsB_at S r1 hb
  exact ⟨a, bs, rfl, hH, RP.here S p _ (.bl _)⟩
def fSum : List T → Hs → Res T
  | [x], M => match lsI x M with
    | some ns => .ok (.int ns.sum) M
    | none => .bad
  | _, _ => .bad
theorem opn_sum : OpN tb K fSum (rSum K) := fun E ρ F M H Q a x S r p => by
  unfold fSum at p
  split at p
  case h_2 => exact p.elim
  cases r with
  | cons _ _ _ _ r1 r2 =>
  cases r2
  split at p
  case h_2 => exact p.elim
  rename_i bs hb
  obtain ⟨a, rfl, hH⟩ := lsI_at S r1 hb
  exact ⟨a, bs, rfl, hH, RP.here S p _ (.int _)⟩
def imax : List Int → Int
  | [] => 0
  | a :: r => r.foldl (fun x y => if y > x then y else x) a
def imin : List Int → Int
  | [] => 0
  | a :: r => r.foldl (fun x y => if y < x then y else x) a
theorem imax_go : ∀ (r : List Int) (a m : Int), (m = a ∨ m ∈ r) → a ≤ m → (∀ y ∈ r, y ≤ m) → r.foldl (fun x y => if y > x then y else x) a = m
  | [], a, m, h, _, _ => by rcases h with h | h; exact h.symm; cases h
  | b :: r, a, m, h, ha, hr => by
    rw [List.foldl_cons]
    have hb := hr b List.mem_cons_self
    refine imax_go r _ m ?_ (by split <;> omega) fun y hy => hr y (List.mem_cons_of_mem _ hy)
    rcases h with h | h
    · subst h
      left
      split <;> omega
    · rcases List.mem_cons.mp h with z | z
      · subst z
        left
        split <;> omega
      · exact .inr z
theorem imin_go : ∀ (r : List Int) (a m : Int), (m = a ∨ m ∈ r) → m ≤ a → (∀ y ∈ r, m ≤ y) → r.foldl (fun x y => if y < x then y else x) a = m
  | [], a, m, h, _, _ => by rcases h with h | h; exact h.symm; cases h
  | b :: r, a, m, h, ha, hr => by
    rw [List.foldl_cons]
    have hb := hr b List.mem_cons_self
    refine imin_go r _ m ?_ (by split <;> omega) fun y hy => hr y (List.mem_cons_of_mem _ hy)
    rcases h with h | h
    · subst h
      left
      split <;> omega
    · rcases List.mem_cons.mp h with z | z
      · subst z
        left
        split <;> omega
      · exact .inr z
theorem imax_is {l : List Int} {m : Int} (h : m ∈ l) (hm : ∀ y ∈ l, y ≤ m) : imax l = m := by
  cases l with
  | nil => cases h
  | cons a r => exact imax_go r a m (List.mem_cons.mp h) (hm a List.mem_cons_self) fun y hy => hm y (List.mem_cons_of_mem _ hy)
theorem imin_is {l : List Int} {m : Int} (h : m ∈ l) (hm : ∀ y ∈ l, m ≤ y) : imin l = m := by
  cases l with
  | nil => cases h
  | cons a r => exact imin_go r a m (List.mem_cons.mp h) (hm a List.mem_cons_self) fun y hy => hm y (List.mem_cons_of_mem _ hy)
def fMaxL : List T → Hs → Res T
  | [x], M => match lsI x M with
    | some (n :: ns) => .ok (.int (imax (n :: ns))) M
    | _ => .bad
  | _, _ => .bad
def fMinL : List T → Hs → Res T
  | [x], M => match lsI x M with
    | some (n :: ns) => .ok (.int (imin (n :: ns))) M
    | _ => .bad
  | _, _ => .bad
theorem opn_maxL : OpN tb K fMaxL (rMax K) := fun E ρ F M H Q a x S r p => by
  unfold fMaxL at p
  split at p
  case h_2 => exact p.elim
  cases r with
  | cons _ _ _ _ r1 r2 =>
  cases r2
  split at p
  case h_2 => exact p.elim
  rename_i n ns hb
  obtain ⟨a, rfl, hH⟩ := lsI_at S r1 hb
  refine ⟨a, _, rfl, hH, Nat.succ_pos _, fun m h1 h2 => ?_⟩
  rw [← imax_is h1 h2]
  exact RP.here S p _ (.int _)
theorem opn_minL : OpN tb K fMinL (rMin K) := fun E ρ F M H Q a x S r p => by
  unfold fMinL at p
  split at p
  case h_2 => exact p.elim
  cases r with
  | cons _ _ _ _ r1 r2 =>
  cases r2
  split at p
  case h_2 => exact p.elim
  rename_i n ns hb
  obtain ⟨a, rfl, hH⟩ := lsI_at S r1 hb
  refine ⟨a, _, rfl, hH, Nat.succ_pos _, fun m h1 h2 => ?_⟩
  rw [← imin_is h1 h2]
  exact RP.here S p _ (.int _)
end
end Mi
namespace Mi
open PySem PySem.Spec PyProof.Rows L2

/-! ### lambdas -/
/-- the function object of a lambda -/
def LamO (f : Addr) (o : Obj) : HO := .ext fun h => h.get? f = some o
theorem among_appN {pos p' : Pos} {c cv : Value} (l : List Value) (h : TriplesOk l) (hc : codeAmong p' (l ++ [rawInt pos.line, rawInt pos.col, c]) = some cv) : codeAmong p' l = some cv ∨ (cv = c ∧ p'.line = pos.line ∧ p'.col = pos.col) := by
  fun_induction TriplesOk l with
  | case1 =>
    simp only [List.nil_append, rawInt, codeAmong] at hc
    split at hc
    · rename_i q
      simp only [Bool.and_eq_true, beq_iff_eq] at q
      exact .inr ⟨(Option.some.inj hc).symm, by omega, by omega⟩
    · cases hc
  | case2 a t b u x rest ih =>
    simp only [List.cons_append, codeAmong] at hc ⊢
    split at hc
    · rename_i q
      rw [if_pos q]
      exact .inl hc
    · rename_i q
      rw [if_neg q]
      exact ih h hc
  | case3 l h1 h2 => exact h.elim
/-- a lambda: its text -/
structure LamD where
  ps : Arguments
  body : Expr
  sc : Scope
def lamObj (X : Cx) (l : LamD) (pm : Value) (c' : Addr) (ctv : Value) : Obj := PySem.W.kla_obj "<lambda>" (X.env.qual ++ "<lambda>") l.ps l.body l.sc (cloFrom X.env.cells l.sc.names []) pm c' ctv
/-- at f stands the lambda l that X made -/
def LamAt (X : Cx) (H : Hp) (f : Addr) (l : LamD) : Prop := ∃ (c' : Addr) (pm ctv : Value), H f = some (LamO f (lamObj X l pm c' ctv)) ∧ H c' = some (LamX.CodeO c' (X.env.qual ++ "<lambda>"))
theorem LamAt.ext {X : Cx} {H H' : Hp} {f : Addr} {l : LamD} (h : LamAt X H f l) (e : LamX.ExtN H H') : LamAt X H' f l := by
  obtain ⟨c', pm, ctv, h1, h2⟩ := h
  exact ⟨c', pm, ctv, e _ _ h1 (fun _ z => by unfold LamO at z; cases z), e _ _ h2 (fun _ z => by unfold LamX.CodeO at z; cases z)⟩
/-- what is asked of the text of a lambda in X -/
structure LamOk (X : Cx) (l : LamD) : Prop where
  L : LamX.LamS X.env.scope l.sc
  def' : defaultsOf l.ps X.env = ([], [])
  bind : ∀ (q : Str) (cl : List (Str × Addr)) (pm cv ctv : Value), bindArgs (PySem.W.kla_fn "<lambda>" q l.ps l.body l.sc cl pm cv ctv) ⟨[], []⟩ = pure []
/-- the tables of X's code object -/
structure TabX (X : Cx) (T : List (Addr × (Nat → Nat → Str))) (c P : Addr) (nm : Nat → Nat → Str) : Prop where
  b : LamX.TabB X.base X.mg c P
  code : X.env.code = .ref c
  m : (P, nm) ∈ T
  u : ∀ p ∈ T, p.1 = P → p.2 = nm
section
variable {X : Cx} {tb : Tb} {W : WX} {pins : List (Addr × Obj)} {σ : L2.St} {H : Hp} {s : Shared}
theorem lam_makeT {T : List (Addr × (Nat → Nat → Str))} {c P : Addr} {nm : Nat → Nat → Str} {l : LamD} {pos : Pos} {E : Value → Shared → Prop} {Q : Value → Shared → Prop} (I : Inv X pins σ H s) (TX : TabX X T c P nm) (lo : LamOk X l) (hnm : nm pos.line pos.col = X.env.qual ++ "<lambda>") (hT : TabsN T H)
    (h : ∀ (f : Addr) (H1 : Hp) (s' : Shared), Inv X pins σ H1 s' → LamX.ExtN H H1 → TabsN T H1 → LamAt X H1 f l → Q (.ref f) s') :
    wpAny (model X.prog X.w) X.A (eval (.Lambda l.ps l.body l.sc pos) X.env) Q E s := by
  obtain ⟨ps, hP, ht, ha⟩ := hT _ TX.m
  refine PySem.W.kla_eval lo.def' ?_
  have hfree := lo.L.has I.ok
  have bP : s.heap.BuiltinsAt X.mg P := TX.b.bm.keeps I.bk
  have hP' : s.heap.get? P = some { cls := .none, data := .fields ps } := I.hok P _ hP
  cases hc : codeAmong pos ps.toList with
  | none =>
    refine PySem.W.kla_makeFunction (mg := X.mg) (c := c) (P := P) (ps := ps) (closure_ok hfree) I.ok.glob (I.mod.glob.keeps I.bk) TX.code (TX.b.code.keeps I.bk) hP' ht hc TX.b.gP bP fun c' ctv h' tk hx hge hlt hrec htb => ?_
    obtain ⟨c2, oc, vs, t, e2, hoc, hd, hv⟩ := hrec
    cases e2
    have nC : H c' = none := I.hok.fresh hge
    have I1 := LamX.inv_table (t' := tk) (more := #[rawInt pos.line, rawInt pos.col, .ref c']) (h' := h') I hP hx htb hge ⟨oc, vs, t, hoc, hd, hv⟩
    have nf := I1.hok.fresh (show h'.objs.size ≤ h'.objs.size from Nat.le_refl _)
    have I2 := I1.laid (a := h'.objs.size) (o := LamO h'.objs.size (lamObj X l ((X.mg "__name__").getD .none) c' ctv)) (h' := h'.push (lamObj X l ((X.mg "__name__").getD .none) c' ctv)) (t' := tk) (fun b u e => Heap.get?_push_of_some _ e) (Nat.le_refl _)
      ⟨Heap.get?_push_size _ rfl, ⟨_, Heap.get?_push_size _ rfl⟩, fun h1 h2 p st => st _ p⟩
    have hE1 : LamX.ExtN H (upd (upd H P (.tbl (ps ++ #[rawInt pos.line, rawInt pos.col, .ref c']))) c' (LamX.CodeO c' (X.env.qual ++ "<lambda>"))) := fun b o e n => by
      rw [upd_ne (ne_of_none e nC), upd_ne (fun z => n ps (Option.some.inj (e.symm.trans (by rw [z]; exact hP))))]
      exact e
    have up : ∀ {H : Hp} {f : Addr} {v : HO}, H f = none → ∀ b o, H b = some o → upd H f v b = some o := fun n b o e => by rw [upd_ne (ne_of_none e n)]; exact e
    have eL : (ps ++ #[rawInt pos.line, rawInt pos.col, .ref c']).toList = ps.toList ++ [rawInt pos.line, rawInt pos.col, .ref c'] := by simp
    have T1 : TabsN T (upd (upd H P (.tbl (ps ++ #[rawInt pos.line, rawInt pos.col, .ref c']))) c' (LamX.CodeO c' (X.env.qual ++ "<lambda>"))) := fun p hp => by
      by_cases hb : p.1 = P
      · rw [TX.u p hp hb, hb]
        refine ⟨_, by rw [upd_ne (ne_of_none hP nC), upd_same], by rw [eL]; exact PySem.TriplesOk_snoc _ _ _ _ ht, fun p' cv hcv => ?_⟩
        rw [eL] at hcv
        rcases among_appN _ ht hcv with z | ⟨z, z1, z2⟩
        · obtain ⟨c0, e1, e2⟩ := ha p' cv z
          exact ⟨c0, e1, hE1 _ _ e2 LamX.codeO_ne⟩
        · refine ⟨c', z, ?_⟩
          rw [z1, z2, hnm]
          exact upd_same
      · obtain ⟨ps', a1, a2, a3⟩ := hT p hp
        refine ⟨ps', by rw [upd_ne (ne_of_none a1 nC), upd_ne hb]; exact a1, a2, fun p' cv hcv => ?_⟩
        obtain ⟨c0, e1, e2⟩ := a3 p' cv hcv
        exact ⟨c0, e1, hE1 _ _ e2 LamX.codeO_ne⟩
    refine h h'.objs.size _ _ I2 (hE1.trans (LamX.ExtN.of (up nf))) (T1.ext (up nf)) ⟨c', _, ctv, upd_same, up nf _ _ upd_same⟩
  | some cv =>
    obtain ⟨c', e, hco⟩ := ha pos cv hc
    subst e
    refine PySem.W.kla_makeFunctionHit (mg := X.mg) (c := c) (P := P) (ps := ps) (closure_ok hfree) I.ok.glob (I.mod.glob.keeps I.bk) TX.code (TX.b.code.keeps I.bk) hP' ht hc bP fun ctv h' tk hx hsz => ?_
    have I1 : Inv X pins σ H { s with heap := h', toks := tk } := I.kept fun b o e => hx b o e
    have nf : H h'.objs.size = none := I1.hok.fresh (Nat.le_refl _)
    have I2 := I1.laid (a := h'.objs.size) (o := LamO h'.objs.size (lamObj X l ((X.mg "__name__").getD .none) c' ctv)) (h' := h'.push (lamObj X l ((X.mg "__name__").getD .none) c' ctv)) (t' := tk) (fun b u e => Heap.get?_push_of_some _ e) (Nat.le_refl _)
      ⟨Heap.get?_push_size _ rfl, ⟨_, Heap.get?_push_size _ rfl⟩, fun h1 h2 p st => st _ p⟩
    have up : ∀ {H : Hp} {f : Addr} {v : HO}, H f = none → ∀ b o, H b = some o → upd H f v b = some o := fun n b o e => by rw [upd_ne (ne_of_none e n)]; exact e
    have hco : H c' = some (LamX.CodeO c' (nm pos.line pos.col)) := hco
    rw [hnm] at hco
    exact h h'.objs.size _ _ I2 (LamX.ExtN.of (up nf)) (hT.ext (up nf)) ⟨c', _, ctv, upd_same, up nf _ _ hco⟩
/-- the lambda as a value -/
def tLamV (X : Cx) (T : List (Addr × (Nat → Nat → Str))) (l : LamD) : TE := fun σ H Q => TabsN T H ∧ ∀ f H1, LamX.ExtN H H1 → TabsN T H1 → LamAt X H1 f l → Q (.ref f) H1
theorem pe_lamv {T : List (Addr × (Nat → Nat → Str))} {c P : Addr} {nm : Nat → Nat → Str} {ps : Arguments} {body : Expr} {sc : Scope} {pos : Pos} (TX : TabX X T c P nm) (lo : LamOk X ⟨ps, body, sc⟩) (hnm : nm pos.line pos.col = X.env.qual ++ "<lambda>" := by rfl) : PE X (.Lambda ps body sc pos) (tLamV X T ⟨ps, body, sc⟩) :=
  ⟨fun pins s σ H Q I h => lam_makeT (l := ⟨ps, body, sc⟩) I TX lo hnm h.1 fun f H1 s' I1 e t a => ⟨.ref f, H1, I1, rfl, h.2 f H1 e t a⟩⟩
/-- x(), in the def that got the lambda -/
theorem pe_actT {CXg : CXT} {Eg : XK} {Ng : List Str} {qg : Str} {sg : Scope} {g f c' : Addr} {cdg pm ctv : Value} {l : LamD} {k i : Nat} {a : Str} {pn : List (Addr × Obj)} {xe : Value → Shared → Prop} {W : WX} {E : XK} {t : TE} {p1 p2 : Pos}
    (I : Inv X pins σ H s) (lo : LamOk X l)
    (tk : Takes ((cxOf CXg X.prog X.w X.K X.mg X.base Ng qg sg g cdg X.A X.stack s H Eg).tr pn xe) W) (hW : ∀ cls d σ' H', E cls d H' → W cls d σ' H') (hr : Room (k + 1) (X.A.deeper (envOfC qg sg s.heap.objs.size g cdg)))
    (hbody : ∀ (A : Around) (outer : List Env) (s : Shared) (H : Hp), Room k (A.deeper (LamX.lamEnv X l.sc s.heap.objs.size f c')) → PE (LamX.lamCx X A outer s H E l.sc f c') l.body t)
    (hN : Ng[i]? = some a) (hv : Vis sg a) (hd : (a == ("__debug__" : Str)) = false) (hcd : (a == ("__classdict__" : Str)) = false) :
    PE ((cxOf CXg X.prog X.w X.K X.mg X.base Ng qg sg g cdg X.A X.stack s H Eg).tr pn xe) (.Call (.Name a p1) [] [] p2)
      (fun σZ HZ Q => σZ[i]? = some (some (.ref f)) ∧ HZ c' = some (LamX.CodeO c' (X.env.qual ++ "<lambda>")) ∧ HZ f = some (LamO f (lamObj X l pm c' ctv)) ∧ t σ HZ Q) := by
  refine ⟨fun pinsZ sZ σZ HZ Q IZ h => ?_⟩
  obtain ⟨hs, hc, hf, ht⟩ := h
  refine wpAny_Call_Name_kw (thn ((pe_var (pos := p1) (i := i) hN hv hd hcd).run pinsZ sZ σZ HZ (fun v H1 => v = .ref f ∧ H1 = HZ) IZ ⟨.ref f, hs, rfl, rfl⟩) fun u s1 ⟨v, H1, I1, r1, q1⟩ => ?_)
  obtain ⟨ev, eH⟩ := q1
  subst ev
  rw [eH] at I1
  obtain rfl : u = Value.ref f := r1
  have of1 : s1.heap.get? f = some (PySem.W.kla_obj "<lambda>" (X.env.qual ++ "<lambda>") l.ps l.body l.sc (cloFrom X.env.cells l.sc.names []) pm c' ctv) := (I1.hok f _ hf).1
  refine PySem.W.callWith_F0 ⟨_, _, _, _, of1⟩ ?_
  have un : Un (frs X.stack) [] H HZ s.heap s1.heap := I1.base
  obtain ⟨⟨oc, vs, t', hoc, hdc, hvc⟩, _, _⟩ := I1.hok c' _ hc
  have rc : codeAny (model X.prog X.w) (X.A.deeper (envOfC qg sg s.heap.objs.size g cdg)) (.call (.ref f) ⟨[], []⟩) (CR (L2.CX X.prog X.w) (envOfC qg sg s.heap.objs.size g cdg :: X.stack) X.prog X.w HZ s1 Q E) s1 := by
    refine PySem.W.kla_callFunE hr.depth of1 rfl lo.L.co lo.L.gen rfl ⟨c', oc, vs, t', rfl, hoc, hdc, hvc⟩ ?_
    rw [lo.bind]
    refine wpAny_pure (wpAny_newFunctionEnv (fun y hy => (lo.L.own y hy).2) (fun y hy => absurd hy (by simp)) (fun h₁ hns hsb => ⟨I1.nolimit.fresh _ hsb, ?_⟩) lo.L.kind)
    show codeAny _ _ (.expr l.body (LamX.lamEnv X l.sc s1.heap.objs.size f c')) _ _
    have kp : ∀ b o, s1.heap.get? b = some o → h₁.get? b = some o := fun b o e => hsb.extBut b o (Nat.ne_of_lt (Heap.lt_size e)) (Heap.get?_push_of_some _ e)
    have J := LamX.lam_start2 (f := f) (c' := c') (E := E) (tk := s1.toks + ([] : List (Str × Value)).length) I lo.L I1.env0 hr.hd un hns kp
    refine PySem.W.kla_codeExpr (wpAny_mono ((hbody _ _ s1 HZ (hr.deeper _)).run [] _ _ HZ Q J ht) (fun v s' hq => ?_) fun e s' hq => hq)
    obtain ⟨w', H', J', rv, q⟩ := hq
    exact ⟨w', H', J'.os, J'.bare, J'.base, J'.hok, rv, q⟩
  have hx : Passes (L2.CX X.prog X.w) ((cxOf CXg X.prog X.w X.K X.mg X.base Ng qg sg g cdg X.A X.stack s H Eg).tr pn xe) E := passes_call tk hW
  refine wpAny_call (codeAny_mono rc fun r s' hq => ?_)
  cases r with
  | error e => exact hx pinsZ σZ HZ s1 e s' I1 hq
  | ok fl =>
    cases fl with
    | ret u => exact I1.after hq
    | next => exact False.elim hq
    | brk => exact False.elim hq
    | cont => exact False.elim hq
end

/-! ### told: a lambda handed to the def that calls it and answers the name of an error -/
def mTold (cs : List Nat) (ret : List Nat) (m : EM) : EM := fun τ M => match m τ M with
  | .ok t M1 => .ok t M1
  | .ex c M1 => if cs.contains c then .ok (.str ret) M1 else .bad
  | .bad => .bad
/-- what is known of that def -/
def ToldD (K : PySem.W.Frag) (mg : Str → Option Value) (tb : Tb) (x : Str) (cs : List Nat) (ret : List Nat) : Prop :=
  ∃ (a e : Str) (g CS : Addr) (j : Nat) (p1 p2 p3 p4 p5 p6 p7 p8 : Pos) (pg : Arguments) (sg : Scope) (dV kV doc pm cdv ct oc : Value) (an od : Option Addr) (osl : Array (Option Value)) (Ng : List Str),
    mg x = some (.ref g) ∧ PySem.W.keepIn K (.ref g) = true ∧
    K.lookup g = some ⟨oc, od, .func (PySem.W.fnOf x x pg [.Try [.Return (some (.Call (.Name a p1) [] [] p2)) p3] [.ExceptHandler (some (.Name e p4)) none [.Return (some (.Constant (.str ⟨ret.toArray⟩) j p5)) p6] p7] [] [] p8] sg dV kV doc pm an cdv ct), osl⟩ ∧
    PySem.W.codeIn K cdv x = true ∧
    L2.Binds K (PySem.W.fnOf x x pg [.Try [.Return (some (.Call (.Name a p1) [] [] p2)) p3] [.ExceptHandler (some (.Name e p4)) none [.Return (some (.Constant (.str ⟨ret.toArray⟩) j p5)) p6] p7] [] [] p8] sg dV kV doc pm an cdv ct) [a] [] ∧
    FnScope Ng [a] sg ∧ Ng[0]? = some a ∧ Vis sg a ∧ sg.names.lookup e = some .globalImplicit ∧ mg e = some (.ref CS) ∧ (e == ("__debug__" : Str)) = false ∧ (∀ f : Addr, (L2.start Ng [V.ref f])[0]? = some (some (V.ref f))) ∧
    (∀ c ∈ cs, PySem.W.exmOne K (.ref (tb.c c)) (.ref CS) = some true) ∧ (a == ("__debug__" : Str)) = false ∧ (a == ("__classdict__" : Str)) = false
section
variable {X : Cx} {tb : Tb} {W : WX}
/-- the body of a lambda that X makes, read -/
def LamB (X : Cx) (tb : Tb) (k : Nat) (l : LamD) (m : EM) : Prop := ∀ (A : Around) (outer : List Env) (s : Shared) (H : Hp) (E : XK) (f c' : Addr), Room k (A.deeper (LamX.lamEnv X l.sc s.heap.objs.size f c')) →
  PE (LamX.lamCx X A outer s H E l.sc f c') l.body (tM tb X.K (fun cls d _ H => E cls d H) m)
theorem told_call {x : Str} {cs ret : List Nat} {k : Nat} (d : ToldD X.K X.mg tb x cs ret) (hr : Room (k + 2) X.A) : ∃ g, X.mg x = some (.ref g) ∧ PySem.W.keepIn X.K (.ref g) = true ∧
    ∀ {pins : List (Addr × Obj)} {σ : L2.St} {H : Hp} {s : Shared} {f : Addr} {l : LamD} {m : EM} {Q : VK} {EE : Nat → Hp → Prop} {ρ : List Addr} {F : Hp} {M : Hs} {τ : Mi.Loc}, Inv X pins σ H s → LamOk X l → LamB X tb k l m → LamAt X H f l → Sim tb X.K ρ F M H → LocR X.K F ρ τ σ →
      RP tb X.K ρ F H EE (GM X.K Q) (mTold cs ret m τ M) → codeAny (model X.prog X.w) X.A (.call (.ref g) ⟨[.ref f], []⟩) (CR C8.CX0 X.stack X.prog X.w H s Q C8.E0) s := by
  obtain ⟨a, e, g, CS, j, p1, p2, p3, p4, p5, p6, p7, p8, pg, sg, dV, kV, doc, pm, cdv, ct, oc, an, od, osl, Ng, d1, d2, d3, d4, d5, d6, d7, d8, d9, d10, d11, d12, d13, d14, d15⟩ := d
  refine ⟨g, d1, d2, fun {pins σ H s f l m Q EE ρ F M τ} I lo hb ha S Lc p => ?_⟩
  obtain ⟨c', pm', ctv, ha1, ha2⟩ := ha
  have hG := LamX.told_gives (X := X) (a := a) (x := x) (g := g) (cdg := cdv) (q := X.env.qual ++ "<lambda>") (ret := ⟨ret.toArray⟩) (j := j) (p1 := p1) (p2 := p2) (p3 := p3) (p4 := p4) (p5 := p5) (p6 := p6) (p7 := p7) (p8 := p8) d9 d10 d11 d12
  refine LamX.run_ofS (N := Ng) (ps := [a]) (us := [.ref f]) (vs := [.ref f]) d3 d4 d6 hr I.env0 (d5 s [.ref f] I.kIn rfl) (.cons rfl .nil) rfl fun hr' => ?_
  obtain ⟨t', ht', hq'⟩ := hG f c' s H Q (fun E H' Q' => H' f = some (LamO f (lamObj X l pm' c' ctv)) ∧ tM tb X.K (fun cls d _ H => E cls d H) m σ H' Q')
    (fun W pn xe E p1 p2 tk hW => pe_imp (pe_actT (i := 0) (l := l) (f := f) (c' := c') (pm := pm') (ctv := ctv) I lo tk hW hr' (fun A outer s H hr2 => hb A outer s H E f c' hr2) d7 d8 d14 d15) fun σZ HZ QZ ⟨h1, h2, h3, h4⟩ => ⟨h1, h2, h3, h4⟩) ha2 (by
      refine ⟨ha1, ρ, F, M, τ, S, Lc, ?_⟩
      unfold mTold at p
      cases em : m τ M with
      | ok t M1 => rw [em] at p; exact p
      | bad => rw [em] at p; exact p
      | ex c M1 =>
        rw [em] at p
        dsimp only at p
        split at p
        case isFalse => exact p.elim
        rename_i hc
        intro ρ2 F2 H2 e2 S2
        exact ⟨true, d13 c (List.contains_iff_mem.mp hc), fun _ => p ρ2 F2 H2 e2 S2 _ (.str ret), fun z => by cases z⟩)
  exact ⟨t', ht'.nox, hq'⟩
theorem mE_told {x : Str} {cs ret : List Nat} {c P : Addr} {nm : Nat → Nat → Str} {k : Nat} {params : Arguments} {body : Expr} {scope : Scope} {m : EM} {p lpos pos : Pos} (d : ToldD X.K X.mg tb x cs ret) (TX : TabX X tb.T c P nm) (hr : Room (k + 2) X.A) (lo : LamOk X ⟨params, body, scope⟩)
    (hbody : LamB X tb k ⟨params, body, scope⟩ m) (hg : Gl X x := by rfl) (hnm : nm lpos.line lpos.col = X.env.qual ++ "<lambda>" := by rfl) (hdb : (x == ("__debug__" : Str)) = false := by decide) :
    PE X (.Call (.Name x p) [.Lambda params body scope lpos] [] pos) (tM tb X.K W (mTold cs ret m)) := by
  refine ⟨fun pins s σ H Q I h => ?_⟩
  obtain ⟨ρ, F, M, τ, S, Lc, q⟩ := h
  obtain ⟨g, d1, d2, dc⟩ := told_call (k := k) d hr
  refine wpAny_Call_Name_kw (ld_glob I hg d1 ?_ hdb)
  refine PySem.W.callWith_K (h₀ := X.base) I.ok.mod.kin d2 ?_ (by rfl) (by rfl)
  show wpAny _ _ (spliced ((false, eval (.Lambda params body scope lpos) X.env) :: backTo pos (starEach [] X.env))) _ _ s
  refine Calls.spliced_cons (lam_makeT (l := ⟨params, body, scope⟩) I TX lo hnm S.tab fun f H1 s' I1 eN T1 ha => ?_)
  refine Calls.spliced_nil ⟨I1.kIn, ?_⟩
  obtain ⟨S1, e1⟩ := S.grow eN T1
  refine wpAny_call (codeAny_mono (dc I1 lo hbody ha S1 (Lc.mono e1) (q.mono e1)) fun r s2 hq => ?_)
  cases r with
  | error e => exact (show False from hq).elim
  | ok fl =>
    cases fl with
    | ret u => exact I1.after hq
    | next => exact False.elim hq
    | brk => exact False.elim hq
    | cont => exact False.elim hq
end
end Mi
namespace Mi
open PySem PySem.Spec PyProof.Rows L2

/-! ### list comprehensions -/
def mYes : TM := fun _ M => .ok true M
def wipeT (τ : Mi.Loc) : List Nat → Mi.Loc
  | [] => τ
  | v :: vs => (wipeT τ vs).set v .un
def lcT (g : TgP) (c : TM) (e : EM) (τ : Mi.Loc) (t : T) (k : Hs → Res (List T)) : Hs → Res (List T) := fun M => match g t τ with
  | none => .bad
  | some τ1 => (c τ1 M).bind fun b M1 => if b then (e τ1 M1).bind fun v M2 => (k M2).bind fun r M3 => .ok (v :: r) M3 else k M1
def lcL (g : TgP) (c : TM) (e : EM) (τ : Mi.Loc) : List T → Hs → Res (List T)
  | [], M => .ok [] M
  | t :: ts, M => lcT g c e τ t (lcL g c e τ ts) M
def lcF (g : TgP) (c : TM) (e : EM) (τ : Mi.Loc) (nx : Nat → Hs → Option (Option T)) : Nat → Nat → Hs → Res (List T)
  | 0, _, _ => .bad
  | n + 1, i, M => match nx i M with
    | none => .bad
    | some none => .ok [] M
    | some (some t) => lcT g c e τ t (lcF g c e τ nx n (i + 1)) M
def lcS (g : TgP) (c : TM) (e : EM) (τ : Mi.Loc) : Src → Hs → Res (List T)
  | .l ts, M => lcL g c e τ ts M
  | .f nx, M => lcF g c e τ nx 1000000 0 M
/-- for what may not raise -/
def lcK {α : Type} (k : List T → Hs → Res α) : Res (List T) → Res α
  | .ok ts M => if ts.length ≤ lineN then k ts M else .bad
  | _ => .bad
def mLC (it : IM) (ws : List Nat) (g : TgP) (c : TM) (e : EM) : EM := fun τ M => (it τ M).bind fun src M1 => lcK (fun ts M2 => .ok (.lst ts) M2) (lcS g c e (wipeT τ ws) src M1)
def mLCR (it : IM) (ws : List Nat) (g : TgP) (c : TM) (e : EM) : EM := fun τ M => (it τ M).bind fun src M1 => lcK (fun ts M2 => .ok (.ref M2.length) (M2 ++ [.lst ts])) (lcS g c e (wipeT τ ws) src M1)

theorem wipe_wipe {σ : L2.St} {ws : List Nat} : ∀ {vs : List Nat}, (∀ v ∈ vs, v ∈ ws) → wipe (wipe σ vs) ws = wipe σ ws
  | [], _ => rfl
  | v :: vs, h => by
    show wipe ((wipe σ vs).set v none) ws = _
    rw [wipe_set (h v List.mem_cons_self), wipe_wipe fun u hu => h u (List.mem_cons_of_mem _ hu)]
abbrev W0 : WX := fun _ _ _ _ => False
section
variable {X : Cx} {tb : Tb} {W : WX} {σ : L2.St} {H H' : Hp} {K : PySem.W.Frag} {ρ ρ' : List Addr} {F F' : Hp} {M : Hs} {τ : Mi.Loc}
theorem LocR.un (L : LocR K F ρ τ σ) (i : Nat) : LocR K F ρ (τ.set i .un) (σ.set i none) := by
  refine ⟨by simp [L.len], fun j u h => ?_⟩
  by_cases hj : i = j
  · subst hj
    have hl : i < τ.length := by simpa using (List.getElem?_eq_some_iff.mp h).1
    rw [List.getElem?_set_self hl] at h
    exact .inl (Option.some.inj h).symm
  · rw [List.getElem?_set_ne hj] at h
    rw [List.getElem?_set_ne hj]
    exact L.at_ j u h
theorem LocR.wipe (L : LocR K F ρ τ σ) : ∀ ws, LocR K F ρ (wipeT τ ws) (L2.wipe σ ws)
  | [] => L
  | v :: vs => (LocR.wipe L vs).un v
/-- a thing that the walk keeps for itself changes -/
theorem Ext.late {D : Addr} {o : HO} (e : Ext ρ F H ρ' F' H') (h : H D = none) (ho : NT o) : Ext ρ F H ρ' F' (upd H' D o) :=
  ⟨e.r, e.n, e.f, fun a u q k m => by rw [upd_ne (ne_of_none q h)]; exact e.h a u q k m, fun a u q k => by rw [upd_ne (ne_of_none q h)]; exact e.t a u q k, e.g⟩
theorem Sim.late {D : Addr} {o : HO} {acc : List V} (S : Sim tb K ρ F M H) (hF : F D = none) (hr : D ∉ ρ) (hH : H D = none ∨ H D = some (.lst acc)) : Sim tb K ρ F M (upd H D o) := by
  refine ⟨fun a u e => (S.sub a u e).keep fun z h => ?_, S.len, S.nd, S.fr, fun i ob a h1 h2 => ?_, S.nt, fun p hp => ?_⟩
  · rw [upd_ne (ne_of_none e hF)]; exact h
  · refine (S.ob i ob a h1 h2).mono (Ext.refl (H := H)) (upd_ne fun z => hr ?_)
    rw [← z]
    exact List.mem_of_getElem? h2
  · obtain ⟨ps, h1, h2, h3⟩ := S.tab p hp
    refine ⟨ps, ?_, h2, fun pos cv hc => ?_⟩
    · rw [upd_ne fun z => ?_]
      · exact h1
      · rw [z] at h1; rcases hH with q | q <;> rw [q] at h1 <;> cases h1
    · obtain ⟨c, e1, e2⟩ := h3 pos cv hc
      refine ⟨c, e1, ?_⟩
      rw [upd_ne fun z => ?_]
      · exact e2
      · rw [z] at e2; rcases hH with q | q <;> rw [q] at e2
        · cases e2
        · unfold LamX.CodeO at e2; cases e2
theorem Sim.none_of (S : Sim tb K ρ F M H) {p : Addr} (hp : H p = none) : F p = none ∧ p ∉ ρ := by
  constructor
  · cases e : F p with
    | none => rfl
    | some u =>
      obtain ⟨z, q⟩ := (S.sub _ _ e).there
      rw [q] at hp; cases hp
  · intro m
    obtain ⟨o, e⟩ := S.mem m
    rw [hp] at e; cases e
/-- what is kept for oneself stays so -/
theorem Ext.keepD {D : Addr} {o : HO} (e : Ext ρ F H ρ' F' H') (k : NT o) (h : H D = some o) (hF : F D = none) (hr : D ∉ ρ) : H' D = some o ∧ F' D = none ∧ D ∉ ρ' := by
  refine ⟨e.h D o h k hr, ?_, fun m => ?_⟩
  · cases q : F' D with
    | none => rfl
    | some u =>
      rcases e.g D u q with z | z
      · rw [hF] at z; cases z
      · exact (z o h k).elim
  · rcases e.n D m with z | z
    · exact hr z
    · exact z o h k
/-- the state of the walk: acc, what stands in the new list -/
structure LcA (tb : Tb) (K : PySem.W.Frag) (ρ : List Addr) (F H : Hp) (D : Addr) (ρ1 : List Addr) (F1 : Hp) (M1 : Hs) (H1 : Hp) (accT : List T) : Prop where
  e : Ext ρ F H ρ1 F1 H1
  S : Sim tb K ρ1 F1 M1 H1
  f : F1 D = none
  r : D ∉ ρ1
  a : ∃ accV, H1 D = some (.lst accV) ∧ RepL K F1 ρ1 accT accV
theorem LcA.step {D : Addr} {ρ1 ρ2 : List Addr} {F1 F2 : Hp} {M1 M2 : Hs} {H1 H2 : Hp} {accT : List T} (A : LcA tb K ρ F H D ρ1 F1 M1 H1 accT) (e : Ext ρ1 F1 H1 ρ2 F2 H2) (S : Sim tb K ρ2 F2 M2 H2) : LcA tb K ρ F H D ρ2 F2 M2 H2 accT := by
  obtain ⟨accV, h1, h2⟩ := A.a
  obtain ⟨k1, k2, k3⟩ := e.keepD (fun _ z => by cases z) h1 A.f A.r
  exact ⟨A.e.trans e, S, k2, k3, accV, k1, h2.mono e⟩
theorem LcA.push {D : Addr} {ρ1 : List Addr} {F1 : Hp} {M1 : Hs} {H1 : Hp} {accT : List T} (hD : H D = none) (A : LcA tb K ρ F H D ρ1 F1 M1 H1 accT) {t : T} {v : V} (r : Rep K F1 ρ1 t v) :
    ∃ acc, H1 D = some (.lst acc) ∧ acc.length = accT.length ∧ LcA tb K ρ F H D ρ1 F1 M1 (upd H1 D (.lst (acc ++ [v]))) (accT ++ [t]) := by
  obtain ⟨accV, h1, h2⟩ := A.a
  exact ⟨accV, h1, h2.length.symm, A.e.late hD (fun _ z => by cases z), A.S.late A.f A.r (.inr h1), A.f, A.r, _, upd_same, h2.append (.cons _ _ _ _ r .nil)⟩
theorem lc_turn {ws : List Nat} {g : TgP} {c : TM} {e : EM} {D : Addr} {ρ1 : List Addr} {F1 F2 : Hp} {M1 Mend : Hs} {H1 H2 : Hp} {accT r : List T} {t : T} {x : V} {k : Hs → Res (List T)} {N : Hp → Prop} (hD : H D = none) (L : LocR K F ρ τ σ) (A : LcA tb K ρ F H D ρ1 F1 M1 H1 accT)
    (e2 : Ext ρ1 F1 H1 ρ1 F2 H2) (S2 : Sim tb K ρ1 F2 M1 H2) (rx : Rep K F2 ρ1 t x) (p : lcT g c e (wipeT τ ws) t k M1 = .ok r Mend) (hl : accT.length + r.length ≤ lineN)
    (fin : ∀ ρ3 F3 M3 H3 accT' r', LcA tb K ρ F H D ρ3 F3 M3 H3 accT' → k M3 = .ok r' Mend → accT' ++ r' = accT ++ r → N H3) :
    tGP K ws g x (wipe σ ws) H2 fun σ2 H2 => wipe σ2 ws = wipe σ ws ∧ tTM tb K W0 c σ2 H2 fun b H3 => if b = true then tM tb K W0 e σ2 H3 fun y H4 => ∃ acc, H4 D = some (.lst acc) ∧ acc.length < sizeLine ∧ N (upd H4 D (.lst (acc ++ [y]))) else N H3 := by
  have A2 := A.step e2 S2
  unfold lcT at p
  cases eg : g t (wipeT τ ws) with
  | none => rw [eg] at p; cases p
  | some τ1 =>
  rw [eg] at p
  dsimp only at p
  refine ⟨ρ1, F2, wipeT τ ws, τ1, t, S2.sub, ((L.wipe ws).mono A2.e), rx, eg, fun σ2 L2' hw => ⟨hw.trans (wipe_wipe fun _ h => h), ρ1, F2, M1, τ1, S2, L2', ?_⟩⟩
  cases ec : c τ1 M1 with
  | bad => rw [ec] at p; cases p
  | ex _ _ => rw [ec] at p; cases p
  | ok b M2 =>
  rw [ec] at p
  simp only [Res.bind] at p
  intro ρ3 F3 H3 e3 S3
  have A3 := A2.step e3 S3
  cases b with
  | false => exact fin ρ3 F3 M2 H3 accT r A3 p rfl
  | true =>
    rw [if_pos rfl] at p
    dsimp only
    rw [if_pos rfl]
    cases ee : e τ1 M2 with
    | bad => rw [ee] at p; cases p
    | ex _ _ => rw [ee] at p; cases p
    | ok v M3 =>
    rw [ee] at p
    simp only [Res.bind] at p
    refine ⟨ρ3, F3, M2, τ1, S3, L2'.mono e3, ?_⟩
    rw [ee]
    intro ρ4 F4 H4 e4 S4 y ry
    have A4 := A3.step e4 S4
    cases ek : k M3 with
    | bad => rw [ek] at p; cases p
    | ex _ _ => rw [ek] at p; cases p
    | ok r' M4 =>
    rw [ek] at p
    cases p
    obtain ⟨acc, h1, h2, A5⟩ := A4.push hD ry
    refine ⟨acc, h1, ?_, fin _ _ _ _ _ r' A5 ek (by simp)⟩
    rw [← lineN_eq, h2]
    rw [List.length_cons] at hl
    omega
theorem lc_loop {ws : List Nat} {g : TgP} {c : TM} {e : EM} {J : It} {src : Src} {D : Addr} {all : List T} {Mend : Hs} {Qd : Hp → Prop} (S : Sim tb K ρ F M H) (L : LocR K F ρ τ σ) (hJ : Its tb K J ρ F H src) (hD : H D = none) (p : lcS g c e (wipeT τ ws) src M = .ok all Mend) (hl : all.length ≤ lineN)
    (fin : ∀ ρ' F' H', LcA tb K ρ F H D ρ' F' Mend H' all → Qd H') :
    ∃ Wv : Nat → Nat → Hp → Prop, (∃ m, Wv 0 m (upd H D (.lst []))) ∧ ∀ i m H, Wv i m H → (J.stop i H ∧ Qd H) ∨ (J.go i H ∧ ∃ Nx : Hp → Prop, (∀ H', Nx H' → ∃ m', m' < m ∧ Wv (i + 1) m' H') ∧ ∀ x H', J.yld i H x H' →
      tGP K ws g x (wipe σ ws) H' fun σ2 H2 => wipe σ2 ws = wipe σ ws ∧ tTM tb K W0 c σ2 H2 fun b H3 => if b = true then tM tb K W0 e σ2 H3 fun y H4 => ∃ acc, H4 D = some (.lst acc) ∧ acc.length < sizeLine ∧ Nx (upd H4 D (.lst (acc ++ [y]))) else Nx H3) := by
  obtain ⟨hF, hr⟩ := S.none_of hD
  have A0 : LcA tb K ρ F H D ρ F M (upd H D (.lst [])) [] := ⟨(Ext.refl).late hD (fun _ z => by cases z), S.late (acc := []) hF hr (.inl hD), hF, hr, [], upd_same, .nil⟩
  cases src with
  | l ts =>
    refine ⟨fun i m H' => ∃ ρ1 F1 M1 accT r, LcA tb K ρ F H D ρ1 F1 M1 H' accT ∧ m + i = ts.length ∧ lcL g c e (wipeT τ ws) (ts.drop i) M1 = .ok r Mend ∧ accT ++ r = all, ⟨ts.length, ρ, F, M, [], all, A0, rfl, by rw [List.drop_zero]; exact p, rfl⟩, ?_⟩
    rintro i m H1 ⟨ρ1, F1, M1, accT, r, A, hm, p1, ha⟩
    obtain ⟨h1, h2⟩ := hJ i ρ1 F1 M1 H1 A.e A.S
    by_cases hi : i < ts.length
    · rw [List.drop_eq_getElem_cons hi] at p1
      obtain ⟨go, yl⟩ := h1 _ (List.getElem?_eq_getElem hi)
      refine .inr ⟨go, fun H' => ∃ ρ1 F1 M1 accT r, LcA tb K ρ F H D ρ1 F1 M1 H' accT ∧ (m - 1) + (i + 1) = ts.length ∧ lcL g c e (wipeT τ ws) (ts.drop (i + 1)) M1 = .ok r Mend ∧ accT ++ r = all, fun H' q => ⟨m - 1, by omega, q⟩, fun x H' y => ?_⟩
      obtain ⟨F2, e2, S2, r2⟩ := yl x H' y
      refine lc_turn (k := lcL g c e (wipeT τ ws) (ts.drop (i + 1))) hD L A e2 S2 r2 p1 (by rw [← List.length_append, ha]; exact hl) fun ρ3 F3 M3 H3 accT' r' A3 k3 a3 => ⟨ρ3, F3, M3, accT', r', A3, by omega, k3, a3.trans ha⟩
    · have hi' : i = ts.length := by omega
      rw [List.drop_eq_nil_of_le (by omega)] at p1
      cases p1
      rw [List.append_nil] at ha
      subst ha
      exact .inl ⟨h2 hi', fin _ _ _ A⟩
  | f nx =>
    refine ⟨fun i m H' => ∃ ρ1 F1 M1 accT r, LcA tb K ρ F H D ρ1 F1 M1 H' accT ∧ lcF g c e (wipeT τ ws) nx m i M1 = .ok r Mend ∧ accT ++ r = all, ⟨1000000, ρ, F, M, [], all, A0, p, rfl⟩, ?_⟩
    rintro i m H1 ⟨ρ1, F1, M1, accT, r, A, p1, ha⟩
    obtain ⟨h1, h2⟩ := hJ i ρ1 F1 M1 H1 A.e A.S
    cases m with
    | zero => cases p1
    | succ m =>
      unfold lcF at p1
      cases en : nx i M1 with
      | none => rw [en] at p1; cases p1
      | some o =>
        rw [en] at p1
        cases o with
        | none =>
          cases p1
          rw [List.append_nil] at ha
          subst ha
          exact .inl ⟨h2 en, fin _ _ _ A⟩
        | some t =>
          obtain ⟨go, yl⟩ := h1 _ en
          refine .inr ⟨go, fun H' => ∃ ρ1 F1 M1 accT r, LcA tb K ρ F H D ρ1 F1 M1 H' accT ∧ lcF g c e (wipeT τ ws) nx m (i + 1) M1 = .ok r Mend ∧ accT ++ r = all, fun H' q => ⟨m, Nat.lt_succ_self m, q⟩, fun x H' y => ?_⟩
          obtain ⟨F2, e2, S2, r2⟩ := yl x H' y
          exact lc_turn (k := lcF g c e (wipeT τ ws) nx m (i + 1)) hD L A e2 S2 r2 p1 (by rw [← List.length_append, ha]; exact hl) fun ρ3 F3 M3 H3 accT' r' A3 k3 a3 => ⟨ρ3, F3, M3, accT', r', A3, k3, a3.trans ha⟩
/-- the list is then known as fixed -/
theorem LcA.fix {D : Addr} {ρ1 : List Addr} {F1 : Hp} {M1 : Hs} {H1 : Hp} {all : List T} (hD : H D = none) (A : LcA tb K ρ F H D ρ1 F1 M1 H1 all) : ∃ F2, Ext ρ F H ρ1 F2 H1 ∧ Sim tb K ρ1 F2 M1 H1 ∧ Rep K F2 ρ1 (.lst all) (.ref D) := by
  obtain ⟨accV, h1, h2⟩ := A.a
  have f0 := A.f
  have fk : ∀ a o, F1 a = some o → upd F1 D (.lst accV) a = some o := fun a o e => by rw [upd_ne (ne_of_none e f0)]; exact e
  have ex : Ext ρ1 F1 H ρ1 (upd F1 D (.lst accV)) H := ⟨⟨[], (List.append_nil _).symm⟩, fun _ h => .inl h, fk, fun _ _ h _ _ => h, fun a o h k => ⟨o, h, k⟩, fun a o e => by
    by_cases q : a = D
    · subst q; exact .inr fun o z => by rw [hD] at z; cases z
    · rw [upd_ne q] at e; exact .inl e⟩
  refine ⟨upd F1 D (.lst accV), ⟨A.e.r, A.e.n, fun a o e => fk a o (A.e.f a o e), A.e.h, A.e.t, fun a o e => ?_⟩, ⟨fun a o e => ?_, A.S.len, A.S.nd, fun a ha => ?_, fun i ob a q1 q2 => (A.S.ob i ob a q1 q2).mono ex rfl, fun a o e => ?_, A.S.tab⟩, .lst all accV D upd_same (h2.mono ex)⟩
  · by_cases q : a = D
    · subst q; exact .inr fun o z => by rw [hD] at z; cases z
    · rw [upd_ne q] at e; exact A.e.g a o e
  · by_cases q : a = D
    · subst q; rw [upd_same] at e; cases e; exact .inl h1
    · rw [upd_ne q] at e; exact A.S.sub a o e
  · rw [upd_ne fun z => A.r (by rw [← z]; exact ha)]; exact A.S.fr a ha
  · by_cases q : a = D
    · subst q; rw [upd_same] at e; cases e; exact fun _ z => by cases z
    · rw [upd_ne q] at e; exact A.S.nt a o e
theorem LcA.var {D : Addr} {ρ1 : List Addr} {F1 : Hp} {M1 : Hs} {H1 : Hp} {all : List T} (hD : H D = none) (A : LcA tb K ρ F H D ρ1 F1 M1 H1 all) :
    Ext ρ F H (ρ1 ++ [D]) F1 H1 ∧ Sim tb K (ρ1 ++ [D]) F1 (M1 ++ [.lst all]) H1 ∧ Rep K F1 (ρ1 ++ [D]) (.ref M1.length) (.ref D) := by
  obtain ⟨accV, h1, h2⟩ := A.a
  have ex : Ext ρ1 F1 H (ρ1 ++ [D]) F1 H := Ext.grow hD fun _ _ h => h
  have S := A.S
  refine ⟨⟨?_, fun a m => ?_, A.e.f, A.e.h, A.e.t, A.e.g⟩, ⟨S.sub, by simp [S.len], ?_, fun a ha => ?_, fun i o a q1 q2 => ?_, S.nt, S.tab⟩, .ref _ _ (by rw [← S.len, List.getElem?_append_right (Nat.le_refl _), Nat.sub_self]; rfl)⟩
  · obtain ⟨l, hl⟩ := A.e.r
    exact ⟨l ++ [D], by rw [hl, List.append_assoc]⟩
  · rcases List.mem_append.mp m with m | m
    · exact A.e.n a m
    · rw [List.mem_singleton] at m
      subst m
      exact .inr fun o z => by rw [hD] at z; cases z
  · rw [List.nodup_append]
    refine ⟨S.nd, by simp, fun a ha b hb e => ?_⟩
    rw [List.mem_singleton] at hb
    subst hb; subst e
    exact A.r ha
  · rcases List.mem_append.mp ha with q | q
    · exact S.fr a q
    · rw [List.mem_singleton] at q; subst q; exact A.f
  · by_cases hi : i < M1.length
    · rw [List.getElem?_append_left hi] at q1
      rw [List.getElem?_append_left (by rw [S.len]; exact hi)] at q2
      exact (S.ob i o a q1 q2).mono ex rfl
    · have e1 : i = M1.length := by
        have := (List.getElem?_eq_some_iff.mp q1).1
        rw [List.length_append, List.length_singleton] at this
        omega
      subst e1
      rw [List.getElem?_append_right (Nat.le_refl _), Nat.sub_self] at q1
      rw [List.getElem?_append_right (by rw [S.len]; exact Nat.le_refl _), S.len, Nat.sub_self] at q2
      simp only [List.getElem?_cons_zero, Option.some.injEq] at q1 q2
      subst q1; subst q2
      exact ⟨accV, h1, h2.mono ex⟩
theorem lc_of {it : IM} {ws : List Nat} {g : TgP} {c : TM} {e : EM} {Q : VK} (h : tM tb K W (mLC it ws g c e) σ H Q) : tLc (tI tb K W it) (tGP K ws g) (tTM tb K W0 c) (tM tb K W0 e) ws σ H Q := by
  obtain ⟨ρ, F, M, τ, S, L, p⟩ := h
  refine ⟨ρ, F, M, τ, S, L, (RP.bind p).imp fun src ρ1 F1 H1 e1 q J hJ D hD => ?_⟩
  obtain ⟨M1, _, S1, p1⟩ := q
  cases el : lcS g c e (wipeT τ ws) src M1 with
  | bad => rw [el] at p1; exact p1.elim
  | ex _ _ => rw [el] at p1; exact p1.elim
  | ok ts M2 =>
  rw [el] at p1
  simp only [lcK] at p1
  split at p1
  case isFalse => exact p1.elim
  rename_i hl
  refine lc_loop S1 (L.mono e1) hJ hD el hl fun ρ' F' H' A => ?_
  obtain ⟨F2, e2, S2, r2⟩ := A.fix hD
  exact p1 ρ' F2 H' e2 S2 _ r2
theorem lc_ofR {it : IM} {ws : List Nat} {g : TgP} {c : TM} {e : EM} {Q : VK} (h : tM tb K W (mLCR it ws g c e) σ H Q) : tLc (tI tb K W it) (tGP K ws g) (tTM tb K W0 c) (tM tb K W0 e) ws σ H Q := by
  obtain ⟨ρ, F, M, τ, S, L, p⟩ := h
  refine ⟨ρ, F, M, τ, S, L, (RP.bind p).imp fun src ρ1 F1 H1 e1 q J hJ D hD => ?_⟩
  obtain ⟨M1, _, S1, p1⟩ := q
  cases el : lcS g c e (wipeT τ ws) src M1 with
  | bad => rw [el] at p1; exact p1.elim
  | ex _ _ => rw [el] at p1; exact p1.elim
  | ok ts M2 =>
  rw [el] at p1
  simp only [lcK] at p1
  split at p1
  case isFalse => exact p1.elim
  rename_i hl
  refine lc_loop S1 (L.mono e1) hJ hD el hl fun ρ' F' H' A => ?_
  obtain ⟨e2, S2, r2⟩ := A.var hD
  exact p1 _ _ H' e2 S2 _ r2
theorem mT_yes : PTs X [] (tTM tb X.K W mYes) := ⟨fun pins s σ H Q I ⟨ρ, F, M, τ, S, L, p⟩ => pts_nil.run pins s σ H Q I (RP.here S p)⟩
theorem mE_lc {own : List (Str × Nat)} {elt tg iter : Expr} {ifs : List Expr} {scope : Scope} {pos : Pos} {it : IM} {g : TgP} {c : TM} {e : EM} (hN : X.N.Nodup) (hi : PI X tg iter (tI tb X.K W it)) (ok : BlkOk X.N X.env.scope scope own)
    (hg : ∀ (s : Shared) (H : Hp) (C : Addr) (cl : List (Str × Addr)) (fp : List Addr), PG (X.blk s H scope (compEnvC scope cl C X.env) fp) tg (tGP X.K (own.map (·.2)) g))
    (ht : ∀ (s : Shared) (H : Hp) (C : Addr) (cl : List (Str × Addr)) (fp : List Addr), PTs (X.blk s H scope (compEnvC scope cl C X.env) fp) ifs (tTM tb X.K W0 c))
    (he : ∀ (s : Shared) (H : Hp) (C : Addr) (cl : List (Str × Addr)) (fp : List Addr), PE (X.blk s H scope (compEnvC scope cl C X.env) fp) elt (tM tb X.K W0 e)) (hc : X.calm = true := by rfl) (hs : ∀ x, foldedSetIterable iter X.env x = pure x := by intro _; rfl) :
    PE X (.ListComp elt [⟨tg, iter, ifs, 0⟩] scope pos) (tM tb X.K W (mLC it (own.map (·.2)) g c e)) := pe_imp (pe_lc hc hN hi ok hg ht he hs) fun _ _ _ h => lc_of h
theorem mE_lcR {own : List (Str × Nat)} {elt tg iter : Expr} {ifs : List Expr} {scope : Scope} {pos : Pos} {it : IM} {g : TgP} {c : TM} {e : EM} (hN : X.N.Nodup) (hi : PI X tg iter (tI tb X.K W it)) (ok : BlkOk X.N X.env.scope scope own)
    (hg : ∀ (s : Shared) (H : Hp) (C : Addr) (cl : List (Str × Addr)) (fp : List Addr), PG (X.blk s H scope (compEnvC scope cl C X.env) fp) tg (tGP X.K (own.map (·.2)) g))
    (ht : ∀ (s : Shared) (H : Hp) (C : Addr) (cl : List (Str × Addr)) (fp : List Addr), PTs (X.blk s H scope (compEnvC scope cl C X.env) fp) ifs (tTM tb X.K W0 c))
    (he : ∀ (s : Shared) (H : Hp) (C : Addr) (cl : List (Str × Addr)) (fp : List Addr), PE (X.blk s H scope (compEnvC scope cl C X.env) fp) elt (tM tb X.K W0 e)) (hc : X.calm = true := by rfl) (hs : ∀ x, foldedSetIterable iter X.env x = pure x := by intro _; rfl) :
    PE X (.ListComp elt [⟨tg, iter, ifs, 0⟩] scope pos) (tM tb X.K W (mLCR it (own.map (·.2)) g c e)) := pe_imp (pe_lc hc hN hi ok hg ht he hs) fun _ _ _ h => lc_ofR h
/-- name = [..] on one line -/
theorem mS_lc (i : Nat) {own : List (Str × Nat)} {y : Str} {py : Pos} {elt tg iter : Expr} {ifs : List Expr} {scope : Scope} {pos spos : Pos} {it : IM} {g : TgP} {c : TM} {e : EM} (R : Bool) (hN : X.N.Nodup) (hi : PI X tg iter (tI tb X.K W it)) (ok : BlkOk X.N X.env.scope scope own)
    (hg : ∀ (s : Shared) (H : Hp) (C : Addr) (cl : List (Str × Addr)) (fp : List Addr), PG (X.blk s H scope (compEnvC scope cl C X.env) fp) tg (tGP X.K (own.map (·.2)) g))
    (ht : ∀ (s : Shared) (H : Hp) (C : Addr) (cl : List (Str × Addr)) (fp : List Addr), PTs (X.blk s H scope (compEnvC scope cl C X.env) fp) ifs (tTM tb X.K W0 c))
    (he : ∀ (s : Shared) (H : Hp) (C : Addr) (cl : List (Str × Addr)) (fp : List Addr), PE (X.blk s H scope (compEnvC scope cl C X.env) fp) elt (tM tb X.K W0 e))
    (hsw : swapsWith (.ListComp elt [⟨tg, iter, ifs, 0⟩] scope pos) (some (.Name y py)) spos.line X.env = pure true) (hyl : X.env.scope.names.lookup y = some .local := by rfl) (hy : X.N[i]? = some y := by rfl) (hc : X.calm = true := by rfl) (hs : ∀ x, foldedSetIterable iter X.env x = pure x := by intro _; rfl) :
    PS X (.Assign [.Name y py] (.ListComp elt [⟨tg, iter, ifs, 0⟩] scope pos) spos) (tSM tb X.K W (mSet i (if R then mLCR it (own.map (·.2)) g c e else mLC it (own.map (·.2)) g c e))) := by
  refine ps_imp (ps_setLc hc hN hy hyl hsw hi ok hg ht he hs) fun D σ H h => ?_
  have h2 : ∀ m : EM, tSM tb X.K W (mSet i m) D σ H → tM tb X.K W m σ H fun x H1 => gName i x σ H1 D.nx := fun m h => by
    obtain ⟨ρ, F, M, τ, S, L, p⟩ := h
    refine ⟨ρ, F, M, τ, S, L, (SP1.st p).imp fun x ρ1 F1 H1 e1 q v r => ?_⟩
    obtain ⟨M1, _, S1, p1⟩ := q
    exact p1 ρ1 F1 H1 _ .refl S1 ((L.mono e1).set r i)
  cases R with
  | true => exact lc_ofR (h2 _ h)
  | false => exact lc_of (h2 _ h)
end
end Mi
namespace Mi
open PySem PySem.Spec PyProof.Rows L2

/-! ### a list of lambdas, each told -/
section
variable {X : Cx}
/-- a list comprehension whose test never holds: the tests may lean on the state in which the block began -/
def tLcN (wi : TI) (g : TG) (tt : TT) (vs : List Nat) : TE := fun σ H Q => wi σ H fun J H1 => ∀ D, H1 D = none → ∃ W : Nat → Nat → Hp → Prop, (∃ m, W 0 m (upd H1 D (.lst []))) ∧ ∀ i m H, W i m H →
  (J.stop i H ∧ Q (.ref D) H) ∨ (J.go i H ∧ ∃ Nx : Hp → Prop, (∀ H', Nx H' → ∃ m', m' < m ∧ W (i + 1) m' H') ∧ ∀ x H', J.yld i H x H' → g x (wipe σ vs) H' fun σ2 H2 => wipe σ2 vs = wipe σ vs ∧ tt σ2 H2 fun b H3 => b = false ∧ Nx H3)
theorem lc_none {pins : List (Addr × Obj)} {s : Shared} {σ : L2.St} {H : Hp} {Q : VK} {elt tg iter : Expr} {ifs : List Expr} {scope : Scope} {own : List (Str × Nat)} {pos : Pos} {wi : TI} {g : TG} {tt : TT}
    (hc : X.calm = true) (hN : X.N.Nodup) (I : Inv X pins σ H s) (hi : PI X tg iter wi) (ok : BlkOk X.N X.env.scope scope own)
    (hg : ∀ (s : Shared) (H : Hp) (C : Addr) (cl : List (Str × Addr)) (fp : List Addr), PG (X.blk s H scope (compEnvC scope cl C X.env) fp) tg g)
    (ht : ∀ (s : Shared) (H : Hp) (C : Addr) (cl : List (Str × Addr)) (fp : List Addr), (∀ p' σ' H' s', Inv (X.blk s H scope (compEnvC scope cl C X.env) fp) p' σ' H' s' → Inv X pins σ H' s') → PTs (X.blk s H scope (compEnvC scope cl C X.env) fp) ifs tt)
    (hs : ∀ x, foldedSetIterable iter X.env x = pure x) (h : tLcN wi g tt (own.map (·.2)) σ H Q) :
    wpAny (model X.prog X.w) X.A (eval (.ListComp elt [⟨tg, iter, ifs, 0⟩] scope pos) X.env) (EP X pins σ Q) X.xe s := by
  rw [eval_ListComp]
  have hfree : ∀ y ∈ scope.names, y.2 = .free → ∃ c, X.env.cells.lookup y.1 = some c := fun y hy e => (ok.free y hy e).elim (fun k => I.ok.has _ (.inl k)) fun k => I.ok.has _ (.inr k)
  refine wpAny_comprehension_free (use := none) rfl hs (closure_ok hfree) ok.kind (fun y hy e => by rw [ok.uniq y hy, e]) (thn (hi.run pins s σ H _ I h) fun xv s1 hx => thn hx fun itv s2 h2 => ?_)
  obtain ⟨it, fp, tn, J, H2, e, I2, T, st2, f2, q⟩ := h2
  subst e
  refine wpAny_newObj_type (newEnv_comp ?_) (by show 0 ≤ sizeLine; decide)
  have hDn : H2 s2.heap.objs.size = none := I2.hok.fresh (Nat.le_refl _)
  obtain ⟨Wv, ⟨m0, w0⟩, turn⟩ := q _ hDn
  generalize hs3 : ({ s2 with heap := s2.heap.push { cls := .type "list", data := .seq ([] : List Value).toArray } } : Shared) = s3
  have h3 : s3.heap = s2.heap.push { cls := .type "list", data := .seq ([] : List Value).toArray } := by rw [← hs3]
  have I3 : Inv X pins σ (upd H2 s2.heap.objs.size (.lst [])) s3 := by
    rw [← hs3]
    exact I2.laid (t' := s2.toks) (fun b o e => Heap.get?_push_of_some _ e) (Nat.le_refl _) ⟨Nat.zero_le _, [], 0, .nil, Heap.get?_push_size _ rfl⟩
  have f3 : ∀ b ∈ fp, FpOk X pins (upd H2 s2.heap.objs.size (.lst [])) b ∧ b < s3.heap.objs.size := fun b hb => by
    obtain ⟨o, e, _⟩ := T.obj _ _ st2 b hb
    have hlt := Heap.lt_size e
    refine ⟨⟨?_, (f2 b hb).2⟩, by rw [h3, Heap.size_push]; exact Nat.lt_succ_of_lt hlt⟩
    rw [upd_ne (Nat.ne_of_lt hlt)]
    exact (f2 b hb).1
  have st3 : tn 0 s3.heap := T.keep _ _ _ st2 fun b _ o e => by rw [h3]; exact Heap.get?_push_of_some _ e
  have I4 := block_start I3 ok hN f3
  have back : ∀ p' σ' H' s', Inv (X.blk s3 (upd H2 s2.heap.objs.size (.lst [])) scope (compEnvC scope (cellsFrom (s3.heap.objs.size + 1) scope.names (cloFrom X.env.cells scope.names [])) s3.heap.objs.size X.env) fp) p' σ' H' s' → Inv X pins σ H' s' :=
    fun p' σ' H' s' J => I3.call' (ch := fp) J.os J.base J.hok J.bare fun b hb => ⟨(f3 b hb).1.2.2.2.1, (f3 b hb).1.2.1, (f3 b hb).1.2.2.2.2.1, (f3 b hb).1.2.2.2.2.2⟩
  have pg := hg s3 (upd H2 s2.heap.objs.size (.lst [])) s3.heap.objs.size (cellsFrom (s3.heap.objs.size + 1) scope.names (cloFrom X.env.cells scope.names [])) fp
  have pt := ht s3 (upd H2 s2.heap.objs.size (.lst [])) s3.heap.objs.size (cellsFrom (s3.heap.objs.size + 1) scope.names (cloFrom X.env.cells scope.names [])) fp back
  show codeAny _ _ (.compStart (.ListComp elt [⟨tg, iter, ifs, 0⟩] scope pos) 0 (.ref it) (.ref s2.heap.objs.size) (compEnvC scope (cellsFrom (s3.heap.objs.size + 1) scope.names (cloFrom X.env.cells scope.names [])) s3.heap.objs.size X.env)) (compPost (model X.prog X.w) X.A X.xe none (EP X pins σ Q) (.ref s2.heap.objs.size) s3.heap.objs.size) { s3 with heap := pushCells (s3.heap.push { cls := .type "dict", data := .dict #[] }) scope.names }
  have nfp : ∀ b ∈ fp, (upd H2 s2.heap.objs.size (.lst [])) b = none := fun b hb => (f3 b hb).1.1
  generalize hce : compEnvC scope (cellsFrom (s3.heap.objs.size + 1) scope.names (cloFrom X.env.cells scope.names [])) s3.heap.objs.size X.env = ce at I4 pg pt back ⊢
  have cL : ce.locals = s3.heap.objs.size := by subst hce; rfl
  generalize s2.heap.objs.size = D at *
  generalize upd H2 D (.lst []) = H3 at *
  generalize hs4 : ({ s3 with heap := pushCells (s3.heap.push { cls := .type "dict", data := .dict #[] }) scope.names } : Shared) = s4 at I4 ⊢
  have st4 : tn 0 s4.heap := T.keep _ _ _ st3 fun b _ o e => by rw [← hs4]; exact pushCells_keeps _ _ _ _ (Heap.get?_push_of_some _ e)
  have stat : ∀ {σ' : L2.St} {H' : Hp} {s' : Shared}, Inv (X.blk s3 H3 scope ce fp) [] σ' H' s' → (∀ b ∈ fp, H' b = none) → ∀ b ∈ fp, FpOk (X.blk s3 H3 scope ce fp) [] H' b := fun {σ' H' s'} I' hn b hb =>
    ⟨hn b hb, (I'.ok.exf b hb).1, I'.ok.exfs b hb, .inl hb, fun x c e => (I'.ok.exf b hb).2 x c e, fun p hp => absurd (show p ∈ ([] : List (Addr × Obj)) ++ [] from hp) (by simp)⟩
  have loop : codeAny (model X.prog X.w) X.A (.compLoop (.ListComp elt [⟨tg, iter, ifs, 0⟩] scope pos) 0 (.ref it) (.ref D) ce) (compPost (model X.prog X.w) X.A X.xe none (EP X pins σ Q) (.ref D) s3.heap.objs.size) s4 := by
    refine compLoop_any (fun n s' => ∃ i H', Inv (X.blk s3 H3 scope ce fp) [] (wipe σ (own.map (·.2))) H' s' ∧ tn i s'.heap ∧ (∀ b ∈ fp, H' b = none) ∧ Wv i n H') ?_ m0 ⟨0, H3, I4, st4, nfp, w0⟩
    rintro n s5 ⟨i, H5, I5, st5, n5, w5⟩
    rcases turn i n H5 w5 with ⟨stop, qq⟩ | ⟨go, Nx, hNx, step⟩
    · refine thnF (T.done (X.blk s3 H3 scope ce fp) rfl rfl rfl hc i [] s5 _ H5 (fun _ _ => False) I5 (stat I5 n5) st5 stop) fun r s6 ⟨hr, I6⟩ => ?_
      subst hr
      have I7 := back _ _ _ _ I6
      have nC : H5 s3.heap.objs.size = none := by rw [← cL]; exact I6.free
      obtain ⟨m, hn, _⟩ := I6.loc
      have hn : s6.heap.Ns ce.locals m := hn
      rw [cL] at hn
      obtain ⟨f0, f1, f2', f3', f4, f5⟩ := I3.fpOk (H' := H5) (Nat.le_refl _) nC
      exact ⟨m, hn, fun h'' sb => ⟨.ref D, H5, I7.turned (t' := s6.toks) (fun b o hb e => (sb.2 b hb).trans e) f0 f1 f3' f4 f5, rfl, qq⟩⟩
    · refine thnF (T.item (X.blk s3 H3 scope ce fp) rfl rfl rfl hc i [] s5 _ H5 (fun _ _ => False) I5 (stat I5 n5) st5 go) fun r s6 ⟨u, hr, h6⟩ => ?_
      subst hr
      refine thnF h6 fun _ s7 ⟨x, H7, I7, r7, y7, st7, n7⟩ => ?_
      refine thnF (pg.run _ s7 _ H7 x u _ (I7.pinned (stat I7 n7) (T.obj _ _ st7)) r7 (step x H7 y7)) fun _ s8 ⟨σ8, H8, I8, hw8, q8⟩ => ?_
      refine thnF (pt.run _ s8 σ8 H8 _ I8 q8) fun b s9 ⟨H9, I9, eb, nx⟩ => ?_
      subst eb
      simp only [Bool.false_eq_true, if_false]
      obtain ⟨m', hm, w'⟩ := hNx H9 nx
      have pin' : ∀ b ∈ fp, ∀ o, s7.heap.get? b = some o → s9.heap.get? b = some o ∧ H9 b = none := fun b hb o e =>
        let z := I9.pin (b, o) (List.mem_append_right _ (List.mem_append_right _ (mem_pinsAt hb e)))
        ⟨z.1, z.2.1⟩
      have hl : (wipe σ (own.map (·.2))).length = σ8.length := by rw [← hw8, wipe_length]
      refine ⟨m', hm, i + 1, H9, (I9.unpinned (pins := [])).weak hl (fun j v e => ?_), T.keep _ _ _ st7 fun b hb o e => (pin' b hb o e).1, fun b hb => ?_, w'⟩
      · rw [← hw8] at e
        exact (wipe_some e).1
      · obtain ⟨o, e, _⟩ := T.obj _ _ st7 b hb
        exact (pin' b hb o e).2
  exact codeAny_compStart_list loop (T.self X.A 0 _ _ _ st4 loop)
end

inductive LamBs (X : Cx) (tb : Tb) (k : Nat) : List LamD → List EM → Prop
  | nil : LamBs X tb k [] []
  | cons (l : LamD) (m : EM) (ls : List LamD) (ms : List EM) (a : LamOk X l) (b : LamB X tb k l m) (r : LamBs X tb k ls ms) : LamBs X tb k (l :: ls) (m :: ms)
inductive LamAts (X : Cx) (H : Hp) : List Addr → List LamD → Prop
  | nil : LamAts X H [] []
  | cons (f : Addr) (l : LamD) (fs : List Addr) (ls : List LamD) (a : LamAt X H f l) (r : LamAts X H fs ls) : LamAts X H (f :: fs) (l :: ls)
theorem LamBs.append {X : Cx} {tb : Tb} {k : Nat} : ∀ {ls : List LamD} {ms : List EM} {ls' : List LamD} {ms' : List EM}, LamBs X tb k ls ms → LamBs X tb k ls' ms' → LamBs X tb k (ls ++ ls') (ms ++ ms')
  | _, _, _, _, .nil, b => b
  | _, _, _, _, .cons l m ls ms a b r, q => .cons l m _ _ a b (LamBs.append r q)
theorem LamAts.append {X : Cx} {H : Hp} : ∀ {fs : List Addr} {ls : List LamD} {fs' : List Addr} {ls' : List LamD}, LamAts X H fs ls → LamAts X H fs' ls' → LamAts X H (fs ++ fs') (ls ++ ls')
  | _, _, _, _, .nil, b => b
  | _, _, _, _, .cons f l fs ls a r, q => .cons f l _ _ a (LamAts.append r q)
theorem LamAts.ext {X : Cx} {H H' : Hp} (e : LamX.ExtN H H') : ∀ {fs : List Addr} {ls : List LamD}, LamAts X H fs ls → LamAts X H' fs ls
  | _, _, .nil => .nil
  | _, _, .cons f l fs ls a r => .cons f l fs ls (a.ext e) (LamAts.ext e r)
theorem LamAts.length {X : Cx} {H : Hp} : ∀ {fs : List Addr} {ls : List LamD}, LamAts X H fs ls → fs.length = ls.length
  | _, _, .nil => rfl
  | _, _, .cons f l fs ls a r => congrArg (· + 1) (LamAts.length r)
section
variable {X : Cx} {tb : Tb} {K : PySem.W.Frag} {ρ ρ' : List Addr} {F F' H H' : Hp} {M : Hs}
theorem LamAt.mono {f : Addr} {l : LamD} (S : Sim tb K ρ F M H) (e : Ext ρ F H ρ' F' H') (h : LamAt X H f l) : LamAt X H' f l := by
  obtain ⟨c', pm, ctv, h1, h2⟩ := h
  have out : ∀ {a : Addr} {φ : Heap → Prop}, H a = some (.ext φ) → a ∉ ρ := fun {a φ} q m => by
    obtain ⟨o, e1, _, e2⟩ := S.kind m
    rw [q] at e1
    cases e1
    exact e2 _ rfl
  exact ⟨c', pm, ctv, e.h _ _ h1 (fun _ z => by unfold LamO at z; cases z) (out h1), e.h _ _ h2 (fun _ z => by unfold LamX.CodeO at z; cases z) (out h2)⟩
theorem LamAts.mono (S : Sim tb K ρ F M H) (e : Ext ρ F H ρ' F' H') : ∀ {fs : List Addr} {ls : List LamD}, LamAts X H fs ls → LamAts X H' fs ls
  | _, _, .nil => .nil
  | _, _, .cons f l fs ls a r => .cons f l fs ls (a.mono S e) (LamAts.mono S e r)
/-- the arguments of a display of lambdas -/
def tLamL (X : Cx) (T : List (Addr × (Nat → Nat → Str))) (ls : List LamD) : TA := fun σ H Q => TabsN T H ∧ ∀ fs H1, LamX.ExtN H H1 → TabsN T H1 → LamAts X H1 fs ls → Q (fs.map V.ref) H1
theorem pa_lnil {T : List (Addr × (Nat → Nat → Str))} : PA X [] (tLamL X T []) := pa_imp pa_nil fun σ H Q h => h.2 [] H (LamX.ExtN.refl H) h.1 .nil
theorem pa_lcons {T : List (Addr × (Nat → Nat → Str))} {e : Expr} {es : List Expr} {l : LamD} {ls : List LamD} (ha : PE X e (tLamV X T l)) (hb : PA X es (tLamL X T ls)) (hs : starEach (e :: es) X.env = (false, eval e X.env) :: starEach es X.env := by rfl) : PA X (e :: es) (tLamL X T (l :: ls)) := by
  refine pa_imp (pa_cons ha hb hs) fun σ H Q h => ?_
  refine ⟨h.1, fun f H1 e1 t1 a1 => ⟨t1, fun fs H2 e2 t2 a2 => ?_⟩⟩
  exact h.2 (f :: fs) H2 (e1.trans e2) t2 (.cons _ _ _ _ (a1.ext e2) a2)

/-- slot i holds a list of lambdas -/
def BadI (X : Cx) (ρ : List Addr) (i : Nat) (σ : L2.St) (H : Hp) (ls : List LamD) : Prop := ∃ B fs, σ[i]? = some (some (.ref B)) ∧ H B = some (.lst (fs.map V.ref)) ∧ B ∉ ρ ∧ LamAts X H fs ls
theorem BadI.mono {i : Nat} {σ : L2.St} {ls : List LamD} (S : Sim tb K ρ F M H) (e : Ext ρ F H ρ' F' H') (h : BadI X ρ i σ H ls) : BadI X ρ' i σ H' ls := by
  obtain ⟨B, fs, h1, h2, h3, h4⟩ := h
  refine ⟨B, fs, h1, e.h _ _ h2 (fun _ z => by cases z) h3, fun m => ?_, h4.mono S e⟩
  rcases e.n B m with z | z
  · exact h3 z
  · exact z _ h2 fun _ z => by cases z
def tSB (X : Cx) (tb : Tb) (W : WX) (i : Nat) (ls : List LamD) (m : SM) : TS := fun D σ H => ∃ ρ F M τ, Sim tb X.K ρ F M H ∧ LocR X.K F ρ τ σ ∧ BadI X ρ i σ H ls ∧ SP1 tb X.K W ρ F H D (m τ M)
def tMB (X : Cx) (tb : Tb) (W : WX) (i : Nat) (ls : List LamD) (m : EM) : TE := fun σ H Q => ∃ ρ F M τ, Sim tb X.K ρ F M H ∧ LocR X.K F ρ τ σ ∧ BadI X ρ i σ H ls ∧ RP tb X.K ρ F H (WE1 tb W σ) (fun t ρ' F' H' => ∀ v, Rep X.K F' ρ' t v → Q v H') (m τ M)
def tTB (X : Cx) (tb : Tb) (W : WX) (i : Nat) (ls : List LamD) (m : TM) : TT := fun σ H Q => ∃ ρ F M τ, Sim tb X.K ρ F M H ∧ LocR X.K F ρ τ σ ∧ BadI X ρ i σ H ls ∧ RP tb X.K ρ F H (WE1 tb W σ) (fun b _ _ H' => Q b H') (m τ M)
def mUn (i : Nat) (m : SM) : SM := fun τ M => if i < τ.length then m (τ.set i .un) M else .bad
theorem LocR.setUn {τ : Mi.Loc} {σ : L2.St} (L : LocR K F ρ τ σ) (i : Nat) (v : Option V) : LocR K F ρ (τ.set i .un) (σ.set i v) := by
  refine ⟨by simp [L.len], fun j u h => ?_⟩
  by_cases hj : i = j
  · subst hj
    have hl : i < τ.length := by simpa using (List.getElem?_eq_some_iff.mp h).1
    rw [List.getElem?_set_self hl] at h
    exact .inl (Option.some.inj h).symm
  · rw [List.getElem?_set_ne hj] at h
    rw [List.getElem?_set_ne hj]
    exact L.at_ j u h
theorem Sim.own_new {p : Addr} {o : HO} (S : Sim tb K ρ F M H) (hp : H p = none) (ho : NT o) : Sim tb K ρ F M (upd H p o) ∧ Ext ρ F H ρ F (upd H p o) := by
  obtain ⟨hF, hr⟩ := S.none_of hp
  exact ⟨S.late (acc := []) hF hr (.inl hp), (Ext.refl).late hp ho⟩
variable {W : WX}
/-- bad = [lambda ..] -/
theorem mS_bad0 (i : Nat) {x : Str} {es : List Expr} {p0 : Pos} {pos pos' : Pos} {rest : List Stmt} {ls : List LamD} {m : SM} (ha : PA X es (tLamL X tb.T ls)) (hb : PSs X rest (tSB X tb W i ls m)) (hN : X.N.Nodup) (hls : ls.length ≤ lineN := by decide) (hi : X.N[i]? = some x := by rfl) (hx : L2.Loc X.env.scope x := by first | exact Or.inl rfl | exact Or.inr rfl)
    (hs : swapsWith (.List es p0) (some (.Name x pos')) pos.line X.env = pure false := by rfl) (hf : X.fn x = true ∨ X.env.scope.names.lookup x = some .local := by first | exact .inl rfl | exact .inr rfl) :
    PSs X (.Assign [.Name x pos'] (.List es p0) pos :: rest) (tSM tb X.K W (mUn i m)) := by
  refine pss_imp (pss_cons (ps_set hN hi hx (pe_lst ha) hs hf) hb) fun D σ H h => ?_
  obtain ⟨ρ, F, M, τ, S, L, p⟩ := h
  unfold mUn at p
  split at p
  case isFalse => exact p.elim
  rename_i hl
  rw [L.len] at hl
  refine ⟨S.tab, fun fs H1 e1 t1 a1 => ⟨by rw [List.length_map, a1.length, ← lineN_eq]; exact hls, fun q hq => ?_⟩⟩
  obtain ⟨S1, x1⟩ := S.grow e1 t1
  obtain ⟨S2, x2⟩ := S1.own_new (o := .lst (fs.map V.ref)) hq fun _ z => by cases z
  have x3 := x1.trans x2
  exact ⟨ρ, F, M, τ.set i .un, S2, (L.mono x3).setUn i _, ⟨q, fs, List.getElem?_set_self hl, upd_same, (S1.none_of hq).2, a1.mono S1 x2⟩, p.mono x3⟩
/-- bad = bad + [lambda ..] -/
theorem mS_bad1 (i : Nat) {x : Str} {es : List Expr} {p0 p1 p2 : Pos} {pos pos' : Pos} {rest : List Stmt} {ls ls' : List LamD} {m : SM} (ha : PA X es (tLamL X tb.T ls')) (hb : PSs X rest (tSB X tb W i (ls ++ ls') m)) (hN : X.N.Nodup) (hls : ls'.length ≤ 1000 := by decide) (hls2 : ls.length ≤ 1000 := by decide) (hi : X.N[i]? = some x := by rfl) (hx : L2.Loc X.env.scope x := by first | exact Or.inl rfl | exact Or.inr rfl)
    (hs : swapsWith (.BinOp (.Name x p1) .Add (.List es p0) p2) (some (.Name x pos')) pos.line X.env = pure false := by rfl) (hf : X.fn x = true ∨ X.env.scope.names.lookup x = some .local := by first | exact .inl rfl | exact .inr rfl)
    (hd : (x == ("__debug__" : Str)) = false := by decide) (hcd : (x == ("__classdict__" : Str)) = false := by decide) :
    PSs X (.Assign [.Name x pos'] (.BinOp (.Name x p1) .Add (.List es p0) p2) pos :: rest) (tSB X tb W i ls (mUn i m)) := by
  refine pss_imp (pss_cons (ps_set hN hi hx (pe_op op_cat (pe_var hi (hx.elim .inl fun k => .inr (.inl k)) hd hcd) (pe_lst ha)) hs hf) hb) fun D σ H h => ?_
  obtain ⟨ρ, F, M, τ, S, L, B, p⟩ := h
  obtain ⟨b, fs0, b1, b2, b3, b4⟩ := B
  unfold mUn at p
  split at p
  case isFalse => exact p.elim
  rename_i hl
  rw [L.len] at hl
  have lz : (2000 : Nat) ≤ sizeLine := by rw [← lineN_eq]; decide
  refine ⟨.ref b, b1, S.tab, fun fs H1 e1 t1 a1 => ⟨by rw [List.length_map, a1.length]; omega, fun q hq => ?_⟩⟩
  obtain ⟨S1, x1⟩ := S.grow e1 t1
  obtain ⟨S2, x2⟩ := S1.own_new (o := .lst (fs.map V.ref)) hq fun _ z => by cases z
  have hb1 : H1 b = some (.lst (fs0.map V.ref)) := e1 _ _ b2 fun _ z => by cases z
  have nq : b ≠ q := ne_of_none hb1 hq
  refine ⟨b, q, _, _, rfl, rfl, by rw [upd_ne nq]; exact hb1, upd_same, by rw [List.length_map, List.length_map, a1.length, b4.length]; omega, fun r hr => ?_⟩
  obtain ⟨S3, x3⟩ := S2.own_new (o := .lst (fs0.map V.ref ++ fs.map V.ref)) hr fun _ z => by cases z
  have x4 := (x1.trans x2).trans x3
  refine ⟨ρ, F, M, τ.set i .un, S3, (L.mono x4).setUn i _, ⟨r, fs0 ++ fs, List.getElem?_set_self hl, by rw [List.map_append]; exact upd_same, (S2.none_of hr).2, ?_⟩, p.mono x4⟩
  exact ((b4.mono S x4)).append (a1.mono S1 (x2.trans x3))
/-- x(f) within the block, f a lambda that X made -/
theorem pe_toldF {x fN : Str} {cs ret : List Nat} {k j : Nat} {pins : List (Addr × Obj)} {σ : L2.St} {s3 : Shared} {H3 : Hp} {scope : Scope} {ce : Env} {fp : List Addr} {p pf pos : Pos} (d : ToldD X.K X.mg tb x cs ret) (hr : Room (k + 2) X.A)
    (hback : ∀ p' σ' H' s', Inv (X.blk s3 H3 scope ce fp) p' σ' H' s' → Inv X pins σ H' s') (hN : X.N[j]? = some fN) (hv : Vis ce.scope fN) (hg : Gl (X.blk s3 H3 scope ce fp) x) (hdb : (x == ("__debug__" : Str)) = false) (hd : (fN == ("__debug__" : Str)) = false) (hcd : (fN == ("__classdict__" : Str)) = false) :
    PE (X.blk s3 H3 scope ce fp) (.Call (.Name x p) [.Name fN pf] [] pos) (fun σY HY Q => ∃ f l m ρ F M τ, σY[j]? = some (some (.ref f)) ∧ LamOk X l ∧ LamB X tb k l m ∧ LamAt X HY f l ∧ Sim tb X.K ρ F M HY ∧ LocR X.K F ρ τ σ ∧ RP tb X.K ρ F HY (fun _ _ => False) (GM X.K Q) (mTold cs ret m τ M)) := by
  refine ⟨fun pinsY s σY HY Q I h => ?_⟩
  obtain ⟨f, l, m, ρ, F, M, τ, h1, lo, hb, ha, S, Lc, q⟩ := h
  obtain ⟨g, d1, d2, dc⟩ := told_call (k := k) d hr
  refine wpAny_Call_Name_kw (ld_glob I hg d1 ?_ hdb)
  refine PySem.W.callWith_K (h₀ := X.base) I.ok.mod.kin d2 ?_ (by rfl) (by rfl)
  show wpAny _ _ (spliced ((false, eval (.Name fN pf) ce) :: backTo pos (starEach [] ce))) _ _ s
  refine Calls.spliced_cons (thn ((pe_var (X := X.blk s3 H3 scope ce fp) (pos := pf) hN hv hd hcd).run pinsY s σY HY (fun v H1 => v = .ref f ∧ H1 = HY) I ⟨.ref f, h1, rfl, rfl⟩) fun u s1 ⟨v, H1, I1, r1, q1⟩ => ?_)
  obtain ⟨ev, eH⟩ := q1
  subst ev
  rw [eH] at I1
  obtain rfl : u = Value.ref f := r1
  refine Calls.spliced_nil ⟨I1.kIn, ?_⟩
  refine wpAny_call (codeAny_mono (dc (hback _ _ _ _ I1) lo hb ha S Lc q) fun r s2 hq => ?_)
  cases r with
  | error e => exact (show False from hq).elim
  | ok fl =>
    cases fl with
    | ret u => exact I1.after hq
    | next => exact False.elim hq
    | brk => exact False.elim hq
    | cont => exact False.elim hq
def runBad (cs : List Nat) : List EM → Mi.Loc → Hs → Res T
  | [], _, M => .ok (.lst []) M
  | m :: ms, τ, M => match m τ M with
    | .ex c M1 => if cs.contains c then runBad cs ms τ M1 else .bad
    | _ => .bad
theorem runBad_res (cs : List Nat) : ∀ (ms : List EM) (τ : Mi.Loc) (M : Hs), runBad cs ms τ M = .bad ∨ ∃ M', runBad cs ms τ M = .ok (.lst []) M'
  | [], _, M => .inr ⟨M, rfl⟩
  | m :: ms, τ, M => by
    unfold runBad
    cases m τ M with
    | ok _ _ => exact .inl rfl
    | bad => exact .inl rfl
    | ex c M1 =>
      dsimp only
      split
      · exact runBad_res cs ms τ M1
      · exact .inl rfl
theorem LamBs.drop {k : Nat} : ∀ {ls : List LamD} {ms : List EM} {fs : List Addr} (n : Nat), LamBs X tb k ls ms → LamAts X H fs ls → n < fs.length → ∃ l m f, fs[n]? = some f ∧ ms[n]? = some m ∧ LamOk X l ∧ LamB X tb k l m ∧ LamAt X H f l
  | _, _, _, n, .nil, .nil, h => by cases h
  | _, _, _, 0, .cons l m _ _ a b _, .cons f _ _ _ c _, _ => ⟨l, m, f, rfl, rfl, a, b, c⟩
  | _, _, _, n + 1, .cons l m _ _ a b r, .cons f _ _ _ c r2, h => by
    obtain ⟨l, m, f, h1, h2, h3⟩ := LamBs.drop n r r2 (by simpa using h)
    exact ⟨l, m, f, by simpa using h1, by simpa using h2, h3⟩
theorem LamBs.length {k : Nat} : ∀ {ls : List LamD} {ms : List EM}, LamBs X tb k ls ms → ls.length = ms.length
  | _, _, .nil => rfl
  | _, _, .cons l m ls ms a b r => congrArg (· + 1) (LamBs.length r)
/-- [.. for f in bad if x(f) != ret]: none is left -/
theorem mE_bad (i j : Nat) {x fN bN : Str} {cs ret : List Nat} {k j0 : Nat} {ls : List LamD} {ms : List EM} {elt : Expr} {scope : Scope} {p1 p2 px p3 p4 p5 p6 pos : Pos} (d : ToldD X.K X.mg tb x cs ret) (hr : Room (k + 2) X.A) (hb : LamBs X tb k ls ms) (hN : X.N.Nodup) (ok : BlkOk X.N X.env.scope scope [(fN, j)]) (hu : X.A.units + 64 < cLine)
    (hj : X.N[j]? = some fN := by rfl) (hi : X.N[i]? = some bN := by rfl) (hvb : Vis X.env.scope bN := by first | exact Or.inl rfl | exact Or.inr (Or.inl rfl) | exact Or.inr (Or.inr rfl))
    (hx : ∀ (C : Addr) (cl : List (Str × Addr)), (compEnvC scope cl C X.env).scope.names.lookup fN = some .local := by intro _ _; rfl) (hg : ∀ (s : Shared) (H : Hp) (C : Addr) (cl : List (Str × Addr)) (fp : List Addr), Gl (X.blk s H scope (compEnvC scope cl C X.env) fp) x := by intro _ _ _ _ _; rfl)
    (hc : X.calm = true := by rfl) (hs : ∀ x, foldedSetIterable (.Name bN p2) X.env x = pure x := by intro _; rfl) (hdb : (x == ("__debug__" : Str)) = false := by decide) (hd : (fN == ("__debug__" : Str)) = false := by decide) (hcd : (fN == ("__classdict__" : Str)) = false := by decide)
    (hd2 : (bN == ("__debug__" : Str)) = false := by decide) (hcd2 : (bN == ("__classdict__" : Str)) = false := by decide) :
    PE X (.ListComp elt [⟨.Name fN p1, .Name bN p2, [.Compare (.Call (.Name x px) [.Name fN p3] [] p4) [.NotEq] [.Constant (.str ⟨ret.toArray⟩) j0 p5] p6], 0⟩] scope pos) (tMB X tb W i ls (runBad cs ms)) := by
  have hop : ∀ (s : Shared) (H : Hp) (C : Addr) (cl : List (Str × Addr)) (fp : List Addr), OpR (X.blk s H scope (compEnvC scope cl C X.env) fp) (compareOp .NotEq) (rEqP X.K true) := fun s H C cl fp => opr_neP (X := X.blk s H scope (compEnvC scope cl C X.env) fp) hu
  refine ⟨fun pins s σ H Q I h => ?_⟩
  refine lc_none hc hN I (pi_list (pe_var hi hvb hd2 hcd2)) ok (fun s H C cl fp => pg_name hN hj (.inl (hx C cl)) (.inr (hx C cl)))
    (fun s H C cl fp back => pts_one (pt_cmpR (hop s H C cl fp) (pe_toldF d hr back hj (.inl (hx C cl)) (hg s H C cl fp) hdb hd hcd) pe_str (nomark _))) hs ?_
  obtain ⟨ρ, F, M, τ, S, L, ⟨B, fs, b1, b2, b3, b4⟩, p⟩ := h
  obtain ⟨Mend, hM⟩ : ∃ M', runBad cs ms τ M = .ok (.lst []) M' := by
    rcases runBad_res cs ms τ M with e | e
    · rw [e] at p; exact p.elim
    · exact e
  rw [hM] at p
  refine ⟨.ref B, b1, B, rfl, ⟨_, .inl (.inl b2)⟩, fun D hD => ?_⟩
  obtain ⟨hF, hρ⟩ := S.none_of hD
  have A0 : LcA tb X.K ρ F H D ρ F M (upd H D (.lst [])) [] := ⟨(Ext.refl).late hD (fun _ z => by cases z), S.late (acc := []) hF hρ (.inl hD), hF, hρ, [], upd_same, .nil⟩
  have hlen : fs.length = ms.length := b4.length.trans hb.length
  refine ⟨fun n m H' => ∃ ρ1 F1 M1, LcA tb X.K ρ F H D ρ1 F1 M1 H' [] ∧ m + n = ms.length ∧ runBad cs (ms.drop n) τ M1 = .ok (.lst []) Mend, ⟨ms.length, ρ, F, M, A0, rfl, by rw [List.drop_zero]; exact hM⟩, ?_⟩
  rintro n m H1 ⟨ρ1, F1, M1, A, hm, h1⟩
  have hB : H1 B = some (.lst (fs.map V.ref)) := A.e.h _ _ b2 (fun _ z => by cases z) b3
  by_cases hn : n < ms.length
  · obtain ⟨l, mm, f, q1, q2, lo, lb, la⟩ := LamBs.drop n hb (b4.mono S A.e) (by rw [hlen]; exact hn)
    refine .inr ⟨⟨_, .ref f, .inl (.inl hB), by rw [List.getElem?_map, q1]; rfl⟩, fun H' => ∃ ρ1 F1 M1, LcA tb X.K ρ F H D ρ1 F1 M1 H' [] ∧ (m - 1) + (n + 1) = ms.length ∧ runBad cs (ms.drop (n + 1)) τ M1 = .ok (.lst []) Mend, fun H' q => ⟨m - 1, by omega, q⟩, fun v H' y => ?_⟩
    obtain ⟨rfl, y2⟩ := y
    have hv := y2 _ (.inl (.inl hB))
    rw [List.getElem?_map, q1] at hv
    cases hv
    have e0 : ms[n] = mm := by
      have := List.getElem?_eq_getElem hn
      rw [q2] at this
      exact (Option.some.inj this).symm
    rw [List.drop_eq_getElem_cons hn, e0] at h1
    have hjl : j < σ.length := by
      rw [I.len]
      exact (List.getElem?_eq_some_iff.mp hj).1
    refine ⟨?_, ⟨f, l, mm, ρ1, F1, M1, τ, ?_, lo, lb, la, A.S, L.mono A.e, ?_⟩⟩
    · show wipe ((wipe σ [j]).set j _) [j] = _
      rw [wipe_set (by simp), wipe_wipe fun _ h => h]
      rfl
    · show ((wipe σ [j]).set j _)[j]? = _
      rw [List.getElem?_set_self (by rw [wipe_length]; exact hjl)]
    · unfold runBad at h1
      unfold mTold
      cases em : mm τ M1 with
      | ok _ _ => rw [em] at h1; cases h1
      | bad => rw [em] at h1; cases h1
      | ex c M2 =>
        rw [em] at h1
        dsimp only at h1 ⊢
        split at h1
        case isFalse => cases h1
        rename_i hcc
        rw [if_pos hcc]
        intro ρ2 F2 H2 e2 S2 v rv
        cases rv
        refine ⟨.str _, .str _, .str _, .str _, rfl, rfl, by simp [PyData.depth], false, ?_, rfl, ρ2, F2, M2, A.step e2 S2, by omega, h1⟩
        simp [PyData.eqv]
  · have hn' : n = ms.length := by omega
    rw [List.drop_eq_nil_of_le (by omega)] at h1
    cases h1
    obtain ⟨F2, e2, S2, r2⟩ := A.fix hD
    exact .inl ⟨⟨_, .inl (.inl hB), by rw [List.length_map, hlen]; omega⟩, p ρ1 F2 H1 e2 S2 _ r2⟩
end
end Mi
namespace Mi
open PySem PySem.Spec PyProof.Rows L2

section
variable {X : Cx} {tb : Tb} {W : WX} {σ : L2.St} {H : Hp} {K : PySem.W.Frag} {ρ : List Addr} {F : Hp} {M : Hs}
/-! ### the test of the lambdas -/
theorem mT_bad {i : Nat} {ls : List LamD} {m : EM} {a : Expr} {pos lp : Pos} (hu : X.A.units + 64 < cLine) (h : PE X a (tMB X tb W i ls m)) : PT X (.Compare a [.NotEq] [.List [] lp] pos) (tTB X tb W i ls (mBool (mOp2 (fEqP true) m (mC (.lst []))))) := by
  refine pt_imp (pt_cmpR (opr_neP hu) h (pe_lst pa_nil) (nomark _)) fun σ H Q q => ?_
  obtain ⟨ρ, F, M, τ, S, L, B, p⟩ := q
  have p' := RP.bind p
  refine ⟨ρ, F, M, τ, S, L, B, (RP.bind p').imp fun a ρ1 F1 H1 e1 ⟨M1, e2, S1, p1⟩ v r1 => ⟨Nat.zero_le _, fun q hq => ?_⟩⟩
  have p2 : RP tb X.K ρ1 F1 H1 (WE1 tb W σ) _ (fEqP true a (.lst []) M1) := p1
  obtain ⟨S3, x3⟩ := S1.lay hq (.lst [])
  refine op2_eqP (WE1 tb W σ) ρ1 (upd F1 q (.lst [])) M1 (upd H1 q (.lst [])) _ a (.lst []) v (.ref q) S3 (r1.mono x3) (.lst [] [] q upd_same .nil) ?_
  have p3 := p2.mono x3
  refine p3.imp fun b ρ2 F2 H2 x4 ⟨M3, _, S4, p4⟩ w rw' => ?_
  cases rw' with
  | bl k => exact ⟨k, rfl, RP.here S4 p4⟩
  | _ => exact p4.elim
theorem mT_badOr {i : Nat} {ls : List LamD} {a b : Expr} {rest : List Expr} {pos : Pos} {ma mb : TM} (ha : PT X a (tTB X tb W i ls ma)) (hb : PW X (.BoolOp .Or (b :: rest) pos) (tTM tb X.K W mb)) : PW X (.BoolOp .Or (a :: b :: rest) pos) (tTB X tb W i ls (mOr ma mb)) := by
  refine pw_imp (pw_or ha hb) fun σ H Q h => ?_
  obtain ⟨ρ, F, M, τ, S, L, B, p⟩ := h
  refine ⟨ρ, F, M, τ, S, L, B, (RP.bind p).imp fun x ρ1 F1 H1 e1 q => ?_⟩
  obtain ⟨M1, _, S1, p1⟩ := q
  cases x with
  | true => exact RP.here S1 p1
  | false => exact ⟨ρ1, F1, M1, τ, S1, L.mono e1, p1⟩
theorem mS_badIf {i : Nat} {ls : List LamD} {c : Expr} {a b rest : List Stmt} {pos : Pos} {mc : TM} {ma mb mr : SM} (hc : PT X c (tTB X tb W i ls mc)) (ha : PSs X a (tSM tb X.K W ma)) (hb : PSs X b (tSM tb X.K W mb)) (hr : PSs X rest (tSM tb X.K W mr)) :
    PSs X (.If c a b pos :: rest) (tSB X tb W i ls (mSeq (mIf mc ma mb) mr)) := by
  refine pss_imp (pss_cons (ps_if hc ha hb) hr) fun D σ H h => ?_
  obtain ⟨ρ, F, M, τ, S, L, B, p⟩ := h
  have p2 : SP1 tb X.K W ρ F H { D with nx := fun σ' H' => tSM tb X.K W mr D σ' H' } (mIf mc ma mb τ M) := by
    unfold mSeq at p
    cases e : mIf mc ma mb τ M with
    | nx τ' M' => rw [e] at p; exact fun ρ1 F1 H1 σ1 e1 S1 L1 => ⟨ρ1, F1, M', τ', S1, L1, p.mono e1⟩
    | rt t M' => rw [e] at p; exact p
    | bk τ' M' => rw [e] at p; exact p
    | ct τ' M' => rw [e] at p; exact p
    | ex c M' => rw [e] at p; exact p
    | bad => rw [e] at p; exact p
  refine ⟨ρ, F, M, τ, S, L, B, (SP1.st p2).imp fun x ρ1 F1 H1 e1 q => ?_⟩
  obtain ⟨M1, _, S1, p1⟩ := q
  cases x with
  | true => exact ⟨ρ1, F1, M1, τ, S1, L.mono e1, p1⟩
  | false => exact ⟨ρ1, F1, M1, τ, S1, L.mono e1, p1⟩

/-! ### tuples of names -/
def stL : List (Nat) → List T → Mi.Loc → Option Mi.Loc
  | [], [], τ => some τ
  | i :: is, t :: ts, τ => stL is ts (τ.set i t)
  | _, _, _ => none
def mPar (is : List Nat) (a : AM) : SM := fun τ M => (a τ M).st fun ts M1 => match stL is ts τ with
  | some τ' => .nx τ' M1
  | none => .bad
theorem mS_par2 (i j : Nat) {x y : Str} {a b : Expr} {ma : AM} {px py pt pos pt2 : Pos} {kt k2 : Nat} (ha : PA X [a, b] (tAM tb X.K W ma)) (hN : X.N.Nodup) (hi : X.N[i]? = some x := by rfl) (hj : X.N[j]? = some y := by rfl) (hij : i ≠ j := by decide)
    (hx : X.env.scope.names.lookup x = some .local := by rfl) (hy : X.env.scope.names.lookup y = some .local := by rfl) (hc : X.calm = true := by rfl) (hw : swappedStores [.Tuple [.Name x px, .Name y py] kt pt] (.Tuple [a, b] k2 pt2) X.env = pure (some [x, y]) := by rfl)
    (hs : swapsWithSole [.Tuple [.Name x px, .Name y py] kt pt] (.Tuple [a, b] k2 pt2) pos.line X.env = pure false := by rfl) : PS X (.Assign [.Tuple [.Name x px, .Name y py] kt pt] (.Tuple [a, b] k2 pt2) pos) (tSM tb X.K W (mPar [i, j] ma)) := by
  refine ps_imp (ps_par hc hN hi hj hij hx hy ha hw hs) fun D σ H h => ?_
  obtain ⟨ρ, F, M, τ, S, L, p⟩ := h
  refine ⟨ρ, F, M, τ, S, L, (SP1.st p).imp fun ts ρ1 F1 H1 e1 q vs r => ?_⟩
  obtain ⟨M1, _, S1, p1⟩ := q
  cases r with
  | nil => exact p1.elim
  | cons t ts v vs r1 r2 =>
  cases r2 with
  | nil => exact p1.elim
  | cons t2 ts v2 vs r2 r3 =>
  cases r3 with
  | cons => exact p1.elim
  | nil => exact ⟨v, v2, rfl, p1 ρ1 F1 H1 _ .refl S1 (((L.mono e1).set r1 i).set r2 j)⟩
theorem mS_par3 (i j l : Nat) {x y z : Str} {a b c : Expr} {ma : AM} {px py pz pt pos pt2 : Pos} {kt k2 : Nat} (ha : PA X [a, b, c] (tAM tb X.K W ma)) (hN : X.N.Nodup) (hi : X.N[i]? = some x := by rfl) (hj : X.N[j]? = some y := by rfl) (hl : X.N[l]? = some z := by rfl) (hij : i ≠ j := by decide) (hil : i ≠ l := by decide) (hjl : j ≠ l := by decide)
    (hx : X.env.scope.names.lookup x = some .local := by rfl) (hy : X.env.scope.names.lookup y = some .local := by rfl) (hz : X.env.scope.names.lookup z = some .local := by rfl) (hc : X.calm = true := by rfl) (hw : swappedStores [.Tuple [.Name x px, .Name y py, .Name z pz] kt pt] (.Tuple [a, b, c] k2 pt2) X.env = pure (some [x, y, z]) := by rfl)
    (hs : swapsWithSole [.Tuple [.Name x px, .Name y py, .Name z pz] kt pt] (.Tuple [a, b, c] k2 pt2) pos.line X.env = pure false := by rfl) : PS X (.Assign [.Tuple [.Name x px, .Name y py, .Name z pz] kt pt] (.Tuple [a, b, c] k2 pt2) pos) (tSM tb X.K W (mPar [i, j, l] ma)) := by
  refine ps_imp (ps_par3 hc hN hi hj hl hij hil hjl hx hy hz ha hw hs) fun D σ H h => ?_
  obtain ⟨ρ, F, M, τ, S, L, p⟩ := h
  refine ⟨ρ, F, M, τ, S, L, (SP1.st p).imp fun ts ρ1 F1 H1 e1 q vs r => ?_⟩
  obtain ⟨M1, _, S1, p1⟩ := q
  cases r with
  | nil => exact p1.elim
  | cons t ts v vs r1 r2 =>
  cases r2 with
  | nil => exact p1.elim
  | cons t2 ts v2 vs r2 r3 =>
  cases r3 with
  | nil => exact p1.elim
  | cons t3 ts v3 vs r3 r4 =>
  cases r4 with
  | cons => exact p1.elim
  | nil => exact ⟨v, v2, v3, rfl, p1 ρ1 F1 H1 _ .refl S1 ((((L.mono e1).set r1 i).set r2 j).set r3 l)⟩
/-- any target -/
def mAsg (g : TgP) (e : EM) : SM := fun τ M => (e τ M).st fun t M1 => match g t τ with
  | some τ' => .nx τ' M1
  | none => .bad
theorem mS_asg {ws : List Nat} {tg e : Expr} {pos : Pos} {g : TgP} {m : EM} (he : PE X e (tM tb X.K W m)) (hg : PG X tg (tGP X.K ws g)) (hs : swapsWithSole [tg] e pos.line X.env = pure false := by rfl) (hw : swappedStores [tg] e X.env = pure none := by rfl)
    (h1 : (assignEach [tg] X.env).map (·.2) = [assign tg X.env] := by rfl) : PS X (.Assign [tg] e pos) (tSM tb X.K W (mAsg g m)) := by
  refine ps_imp (ps_asg he hg hs hw h1) fun D σ H h => ?_
  obtain ⟨ρ, F, M, τ, S, L, p⟩ := h
  refine ⟨ρ, F, M, τ, S, L, (SP1.st p).imp fun x ρ1 F1 H1 e1 q v r => ?_⟩
  obtain ⟨M1, _, S1, p1⟩ := q
  cases eg : g x τ with
  | none => rw [eg] at p1; exact p1.elim
  | some τ' =>
    rw [eg] at p1
    exact ⟨ρ1, F1, τ, τ', x, S1.sub, L.mono e1, r, eg, fun σ' L' _ => p1 ρ1 F1 H1 σ' .refl S1 L'⟩

/-! ### chains -/
def mChain (f g : T → T → Hs → Res T) (a b c : EM) : EM := fun τ M => (a τ M).bind fun x M1 => (b τ M1).bind fun y M2 => (f x y M2).bind fun z M3 => match z with
  | .bl true => (c τ M3).bind fun w M4 => g y w M4
  | .bl false => .ok (.bl false) M3
  | _ => .bad
theorem chain_of {r r' : R2} {f g : T → T → Hs → Res T} {ma mb mc : EM} {Q : VK} (hf : Op2 tb K f r) (hg : Op2 tb K g r') (h : tM tb K W (mChain f g ma mb mc) σ H Q) : tChain r r' (tM tb K W ma) (tM tb K W mb) (tM tb K W mc) σ H Q := by
  obtain ⟨ρ, F, M, τ, S, L, p⟩ := h
  refine ⟨ρ, F, M, τ, S, L, (RP.bind p).imp fun a ρ1 F1 H1 e1 ⟨M1, _, S1, p1⟩ v r1 => ?_⟩
  refine ⟨ρ1, F1, M1, τ, S1, L.mono e1, (RP.bind p1).imp fun b ρ2 F2 H2 e2 ⟨M2, _, S2, p2⟩ w r2 => ?_⟩
  refine hf (WE1 tb W σ) ρ2 F2 M2 H2 _ a b v w S2 (r1.mono e2) r2 ((RP.bind p2).imp fun z ρ3 F3 H3 e3 ⟨M3, _, S3, p3⟩ u r3 => ?_)
  cases r3 with
  | bl k =>
    refine ⟨k, rfl, ?_⟩
    cases k with
    | false => exact RP.here S3 p3 _ (.bl false)
    | true =>
      rw [if_pos rfl]
      refine ⟨ρ3, F3, M3, τ, S3, (L.mono e1).mono (e2.trans e3), (RP.bind p3).imp fun c ρ4 F4 H4 e4 ⟨M4, _, S4, p4⟩ x r4 => ?_⟩
      exact hg (WE1 tb W σ) ρ4 F4 M4 H4 Q b c w x S4 (r2.mono (e3.trans e4)) r4 p4
  | _ => exact p3.elim
theorem mE_chain {op op' : CmpOp} {a b c : Expr} {pos : Pos} {r r' : R2} {f g : T → T → Hs → Res T} {ma mb mc : EM} (ho : OpR X (compareOp op) r) (ho' : OpR X (compareOp op') r') (hf : Op2 tb X.K f r) (hg : Op2 tb X.K g r') (ha : PE X a (tM tb X.K W ma)) (hb : PE X b (tM tb X.K W mb)) (hc : PE X c (tM tb X.K W mc))
    (hm : lastMarks [op, op'] [b, c] = false := by with_unfolding_all rfl) : PE X (.Compare a [op, op'] [b, c] pos) (tM tb X.K W (mChain f g ma mb mc)) := pe_imp (pe_chain ho ho' ha hb hc hm) fun _ _ _ h => chain_of hf hg h
theorem mT_chain {op op' : CmpOp} {a b c : Expr} {pos : Pos} {r r' : R2} {f g : T → T → Hs → Res T} {ma mb mc : EM} (ho : OpR X (compareOp op) r) (ho' : OpR X (compareOp op') r') (hf : Op2 tb X.K f r) (hg : Op2 tb X.K g r') (ha : PE X a (tM tb X.K W ma)) (hb : PE X b (tM tb X.K W mb)) (hc : PE X c (tM tb X.K W mc))
    (hm : lastMarks [op, op'] [b, c] = false := by with_unfolding_all rfl) : PT X (.Compare a [op, op'] [b, c] pos) (tTM tb X.K W (mBool (mChain f g ma mb mc))) := pt_imp (pt_chain ho ho' ha hb hc hm) fun _ _ _ h => chain_of hf hg (bools h)

/-! ### truth -/
def tru (t : T) (M : Hs) : Option Bool := match t with
  | .non => some false
  | .bl b => some b
  | .int i => some (i != 0)
  | .str s => if s.length ≤ lineN then some (!s.isEmpty) else none
  | .tup ts => some (!ts.isEmpty)
  | .fix ts => some (!ts.isEmpty)
  | .lst ts => some (!ts.isEmpty)
  | .ref r => match M[r]? with
    | some (.lst ts) => some (!ts.isEmpty)
    | some (.dct kvs) => some (!kvs.isEmpty)
    | _ => none
  | _ => none
def mTru (a : EM) : TM := fun τ M => (a τ M).bind fun t M1 => match tru t M1 with
  | some b => .ok b M1
  | none => .bad
theorem RepL.empty : ∀ {ts : List T} {vs : List V}, RepL K F ρ ts vs → ts.isEmpty = vs.isEmpty
  | _, _, .nil => rfl
  | _, _, .cons _ _ _ _ _ _ => rfl
theorem RepD.empty : ∀ {ts : List (T × T)} {vs : List (Key × V)}, RepD K F ρ ts vs → ts.isEmpty = vs.isEmpty
  | _, _, .nil => rfl
  | _, _, .cons _ _ _ _ _ _ _ _ _ => rfl
theorem tru_at {t : T} {v : V} {b : Bool} (S : Sim tb K ρ F M H) (r : Rep K F ρ t v) (h : tru t M = some b) : TruV K v H b := by
  cases r with
  | non => cases h; rfl
  | bl c => cases h; rfl
  | int i => cases h; rfl
  | str s =>
    simp only [tru] at h
    split at h
    case isFalse => cases h
    rename_i hl
    cases h
    refine ⟨by rw [str_len, ← lineN_eq]; exact hl, ?_⟩
    rw [str_len]
    cases s with
    | nil => rfl
    | cons a s =>
      simp only [List.isEmpty_cons, Bool.not_false, List.length_cons]
      symm
      rw [bne_iff_ne]
      omega
  | tup ts vs a hq rl => cases h; exact .inr (.inl ⟨vs, hd_sqT S.sub hq, by rw [rl.empty]⟩)
  | fix ts vs a hq rl => cases h; exact .inl ⟨vs, hd_sqL S.sub hq, by rw [rl.empty]⟩
  | lst ts vs a hq rl => cases h; exact .inl ⟨vs, .inl (.inl (hd_lst S.sub hq)), by rw [rl.empty]⟩
  | dct => cases h
  | ref i a hi =>
    simp only [tru] at h
    split at h
    · rename_i ts hm
      cases h
      obtain ⟨vs, hH, rl⟩ := S.ob i _ a hm hi
      exact .inl ⟨vs, .inl (.inl hH), by rw [rl.empty]⟩
    · rename_i ts hm
      cases h
      obtain ⟨vs, hH, rl⟩ := S.ob i _ a hm hi
      exact .inr (.inr ⟨vs, hH, by rw [rl.empty]⟩)
    · cases h
theorem mT_truth {a : Expr} {m : EM} (h : PE X a (tM tb X.K W m)) (he : ∀ whole, isTrue a X.env whole = (do let v ← whole; standAt a.pos; holding [v] (truthy v)) := by intro _; rfl) : PT X a (tTM tb X.K W (mTru m)) := by
  refine pt_imp (pt_truth h he) fun σ H Q q => ?_
  obtain ⟨ρ, F, M, τ, S, L, p⟩ := q
  refine ⟨ρ, F, M, τ, S, L, (RP.bind p).imp fun t ρ1 F1 H1 e1 ⟨M1, _, S1, p1⟩ v r1 => ?_⟩
  cases et : tru t M1 with
  | none => rw [et] at p1; exact p1.elim
  | some b =>
    rw [et] at p1
    exact ⟨b, tru_at S1 r1 et, RP.here S1 p1⟩
/-- a or b, a and b as values -/
def mOrV (a b : EM) : EM := fun τ M => (a τ M).bind fun t M1 => match tru t M1 with
  | some true => .ok t M1
  | some false => b τ M1
  | none => .bad
def mAndV (a b : EM) : EM := fun τ M => (a τ M).bind fun t M1 => match tru t M1 with
  | some true => b τ M1
  | some false => .ok t M1
  | none => .bad
theorem mE_orV {a b : Expr} {rest : List Expr} {pos : Pos} {ma mb : EM} (ha : PE X a (tM tb X.K W ma)) (hb : PE X (.BoolOp .Or (b :: rest) pos) (tM tb X.K W mb)) : PE X (.BoolOp .Or (a :: b :: rest) pos) (tM tb X.K W (mOrV ma mb)) := by
  refine ⟨fun pins s σ H Q I h => ?_⟩
  have h2 : tM tb X.K W ma σ H fun x H1 => ∃ k, TruV X.K x H1 k ∧ ((k = true → Q x H1) ∧ (k = false → tM tb X.K W mb σ H1 Q)) := by
    obtain ⟨ρ, F, M, τ, S, L, p⟩ := h
    refine ⟨ρ, F, M, τ, S, L, (RP.bind p).imp fun t ρ1 F1 H1 e1 ⟨M1, _, S1, p1⟩ v r1 => ?_⟩
    cases et : tru t M1 with
    | none => rw [et] at p1; exact p1.elim
    | some b =>
      rw [et] at p1
      refine ⟨b, tru_at S1 r1 et, fun e => ?_, fun e => ?_⟩
      · subst e; exact RP.here S1 p1 v r1
      · subst e; exact ⟨ρ1, F1, M1, τ, S1, L.mono e1, p1⟩
  refine BoolOp_or (thn (ha.run pins s σ H _ I h2) fun v s1 ⟨x, H1, I1, r1, k, tk, q1, q2⟩ => ?_)
  refine thn (tru_ok pins s1 σ H1 x v (fun b H2 => b = k ∧ H2 = H1) I1 r1 ⟨k, tk, rfl, rfl⟩) fun b s2 ⟨H2, I2, e1, e2⟩ => ?_
  subst e1; subst e2
  cases b with
  | true => exact ⟨x, H2, I2, r1, q1 rfl⟩
  | false => exact hb.run pins s2 σ H2 Q I2 (q2 rfl)
theorem mE_andV {a b : Expr} {rest : List Expr} {pos : Pos} {ma mb : EM} (ha : PE X a (tM tb X.K W ma)) (hb : PE X (.BoolOp .And (b :: rest) pos) (tM tb X.K W mb)) : PE X (.BoolOp .And (a :: b :: rest) pos) (tM tb X.K W (mAndV ma mb)) := by
  refine ⟨fun pins s σ H Q I h => ?_⟩
  have h2 : tM tb X.K W ma σ H fun x H1 => ∃ k, TruV X.K x H1 k ∧ ((k = false → Q x H1) ∧ (k = true → tM tb X.K W mb σ H1 Q)) := by
    obtain ⟨ρ, F, M, τ, S, L, p⟩ := h
    refine ⟨ρ, F, M, τ, S, L, (RP.bind p).imp fun t ρ1 F1 H1 e1 ⟨M1, _, S1, p1⟩ v r1 => ?_⟩
    cases et : tru t M1 with
    | none => rw [et] at p1; exact p1.elim
    | some b =>
      rw [et] at p1
      refine ⟨b, tru_at S1 r1 et, fun e => ?_, fun e => ?_⟩
      · subst e; exact RP.here S1 p1 v r1
      · subst e; exact ⟨ρ1, F1, M1, τ, S1, L.mono e1, p1⟩
  refine BoolOp_and (thn (ha.run pins s σ H _ I h2) fun v s1 ⟨x, H1, I1, r1, k, tk, q1, q2⟩ => ?_)
  refine thn (tru_ok pins s1 σ H1 x v (fun b H2 => b = k ∧ H2 = H1) I1 r1 ⟨k, tk, rfl, rfl⟩) fun b s2 ⟨H2, I2, e1, e2⟩ => ?_
  subst e1; subst e2
  cases b with
  | false => exact ⟨x, H2, I2, r1, q1 rfl⟩
  | true => exact hb.run pins s2 σ H2 Q I2 (q2 rfl)
theorem mE_one {op : BoolOp} {a : Expr} {pos : Pos} {m : EM} (h : PE X a (tM tb X.K W m)) : PE X (.BoolOp op [a] pos) (tM tb X.K W m) := pe_one h

/-! ### sorted, of ints -/
def insI (a : Int) : List Int → List Int
  | [] => [a]
  | b :: r => if a ≤ b then a :: b :: r else b :: insI a r
def sortI : List Int → List Int
  | [] => []
  | a :: r => insI a (sortI r)
theorem insI_perm (a : Int) : ∀ l, (insI a l).Perm (a :: l)
  | [] => .refl _
  | b :: r => by
    unfold insI
    split
    · exact .refl _
    · exact ((insI_perm a r).cons b).trans (.swap a b r)
theorem sortI_perm : ∀ l, (sortI l).Perm l
  | [] => .refl _
  | a :: r => (insI_perm a _).trans ((sortI_perm r).cons a)
theorem insI_srt (a : Int) : ∀ l : List Int, l.Pairwise (· ≤ ·) → (insI a l).Pairwise (· ≤ ·)
  | [], _ => by simp [insI]
  | b :: r, h => by
    unfold insI
    split
    · rename_i hab
      refine List.Pairwise.cons (fun c hc => ?_) h
      rcases List.mem_cons.mp hc with z | z
      · omega
      · have := (List.pairwise_cons.mp h).1 c z
        omega
    · refine List.Pairwise.cons (fun c hc => ?_) (insI_srt a r (List.pairwise_cons.mp h).2)
      rcases List.mem_cons.mp ((insI_perm a r).mem_iff.mp hc) with z | z
      · omega
      · exact (List.pairwise_cons.mp h).1 c z
theorem sortI_srt : ∀ l, (sortI l).Pairwise (· ≤ ·)
  | [] => .nil
  | a :: r => insI_srt a _ (sortI_srt r)
def fSortedI : List T → Hs → Res T
  | [x], M => match lsI x M with
    | some ns => .ok (.lst ((sortI ns).map T.int)) M
    | none => .bad
  | _, _ => .bad
theorem intsL (l : List Int) : RepL K F ρ (l.map T.int) (l.map V.int) := by
  induction l with
  | nil => exact .nil
  | cons a l ih => exact .cons _ _ _ _ (.int a) ih
theorem opn_sortedI : OpN tb K fSortedI (rSortedI K) := fun E ρ F M H Q a x S r p => by
  unfold fSortedI at p
  split at p
  case h_2 => exact p.elim
  cases r with
  | cons _ _ _ _ r1 r2 =>
  cases r2
  split at p
  case h_2 => exact p.elim
  rename_i bs hb
  obtain ⟨a, rfl, hH⟩ := lsI_at S r1 hb
  refine ⟨a, bs, rfl, hH, fun ns' q h1 h2 hq => ?_⟩
  have e : ns' = sortI bs := List.Perm.eq_of_pairwise (fun a b _ _ h1 h2 => by omega) h2 (sortI_srt bs) (h1.trans (sortI_perm bs).symm)
  subst e
  exact new_lst S (intsL _) p q hq

/-! ### methods of built-in types -/
def mBm (ok : T → Hs → Bool) (f : T → List T → Hs → Res T) (mo : EM) (ma : AM) : EM := fun τ M => (mo τ M).bind fun x M1 => if ok x M1 then (ma τ M1).bind fun xs M2 => f x xs M2 else .bad
def OpM (tb : Tb) (K : PySem.W.Frag) (f : T → List T → Hs → Res T) (r : V → List V → Hp → VK → Prop) : Prop :=
  ∀ (E : Nat → Hp → Prop) (ρ : List Addr) (F : Hp) (M : Hs) (H : Hp) (Q : VK) (t : T) (v : V) (a : List T) (x : List V), Sim tb K ρ F M H → Rep K F ρ t v → RepL K F ρ a x → RP tb K ρ F H E (GM K Q) (f t a M) → r v x H Q
def TyM (tb : Tb) (K : PySem.W.Frag) (ok : T → Hs → Bool) (TN : String) : Prop := ∀ (ρ : List Addr) (F : Hp) (M : Hs) (H : Hp) (t : T) (v : V), Sim tb K ρ F M H → Rep K F ρ t v → ok t M = true → tyV K TN v H
theorem bm_of {TN : String} {ok : T → Hs → Bool} {f : T → List T → Hs → Res T} {r : V → List V → Hp → VK → Prop} {mo : EM} {ma : AM} {Q : VK} (ht : TyM tb K ok TN) (hf : OpM tb K f r) (h : tM tb K W (mBm ok f mo ma) σ H Q) : tBM K TN r (tM tb K W mo) (tAM tb K W ma) σ H Q := by
  obtain ⟨ρ, F, M, τ, S, L, p⟩ := h
  refine ⟨ρ, F, M, τ, S, L, (RP.bind p).imp fun t ρ1 F1 H1 e1 ⟨M1, _, S1, p1⟩ v r1 => ?_⟩
  split at p1
  case isFalse => exact p1.elim
  rename_i hk
  exact ⟨ht _ _ _ _ _ _ S1 r1 hk, ρ1, F1, M1, τ, S1, L.mono e1, (RP.bind p1).imp fun a ρ2 F2 H2 e2 ⟨M2, _, S2, p2⟩ vs r2 => hf _ ρ2 F2 M2 H2 Q t v a vs S2 (r1.mono e2) r2 p2⟩
theorem mE_bm {o e : Expr} {es : List Expr} {name : Str} {apos cpos : Pos} {TN id : String} {r : V → List V → Hp → VK → Prop} {ok : T → Hs → Bool} {f : T → List T → Hs → Res T} {mo : EM} {ma : AM} (pa : PlainAttrs TN) (slot : Slot TN name id) (hty : typeOf (.builtin id) = pure (.type "method_descriptor"))
    (hm : MtR X id r) (ht : TyM tb X.K ok TN) (hf : OpM tb X.K f r) (ho : PE X o (tM tb X.K W mo)) (ha : PA X (e :: es) (tAM tb X.K W ma))
    (hbase : attributeBase o name X.env (eval o X.env) = eval o X.env := by rfl)
    (hfew : ((backTo cpos (starEach (e :: es) X.env)).all (fun x => !x.1) && (backToKw cpos (keywordEach [] X.env)).all (fun x => x.1.isSome)
      && decide ((e :: es).length + ([] : List Keyword).length + (if ([] : List Keyword).isEmpty then 0 else 1) < 30)) = true := by rfl)
    (hline : (apos.endLine == cpos.line) = true := by rfl) (hs : starEach (e :: es) X.env = (false, eval e X.env) :: starEach es X.env := by rfl) (hplain : (backTo cpos (starEach es X.env)).any (·.1) = false := by rfl) :
    PE X (.Call (.Attribute o name apos) (e :: es) [] cpos) (tM tb X.K W (mBm ok f mo ma)) := pe_imp (pe_bm pa slot hty hm ho ha hbase hfew hline hs hplain) fun _ _ _ h => bm_of ht hf h

/-! d.update(d2) -/
def rUpd : V → List V → Hp → VK → Prop := fun x xs H Q => ∃ a b kvs more, x = .ref a ∧ xs = [.ref b] ∧ a ≠ b ∧ H a = some (.dK kvs) ∧ Rd H b (.dK more) ∧ kvs.length + more.length ≤ sizeLine ∧ Q .non (upd H a (.dK (mergeK kvs more)))
theorem mt_update : MtR X "dict.update" rUpd := fun pins s σ H x xs v us Q I rx rs h => by
  obtain ⟨a, b, kvs, more, rfl, rfl, hab, ha, hb, hz, q⟩ := h
  cases rx
  obtain ⟨u, rfl, ru⟩ := rs.one
  cases ru
  obtain ⟨z1, n1, vs1, k1, d1⟩ := dk_of I.hok ha
  obtain ⟨z2, n2, vs2, k2, d2⟩ := dk_rd I.hok hb
  refine call_meetsIn PySem.F.slot_dict_update d1.typeIs PySem.F.entry_dict_update (PySem.F.args_dict_update_2 _ _) (meets_dict_update (mixKind X.prog X.w) a b hab n2) ⟨vs1, vs2, d1, d2, by rw [← k1.length, ← k2.length]; exact hz, fun h' e1 e2 sb => ?_⟩
  have he : ∃ o, h'.get? a = some o := let ⟨o, _, _, e, _⟩ := e1; ⟨o, e⟩
  have hl : (mergeK kvs more).length ≤ sizeLine := Nat.le_trans (length_mergeK more kvs) hz
  exact ⟨.non, _, d_write (t' := s.toks) I (by rw [ha]; trivial) sb he (dk_new hl n1 (k2.merge k1) e1), rfl, q⟩
def isDR (t : T) (M : Hs) : Bool := match t with
  | .ref r => match M[r]? with
    | some (.dct _) => true
    | _ => false
  | _ => false
theorem ty_dict : TyM tb K isDR "dict" := fun ρ F M H t v S r h => by
  unfold isDR at h
  split at h
  case h_2 => cases h
  rename_i i
  split at h
  case h_2 => cases h
  rename_i kvs hm
  cases r with
  | ref _ a hi =>
    obtain ⟨vs, hH, rd⟩ := S.ob i _ a hm hi
    exact .inr (.inr (.inl ⟨rfl, .inl ⟨vs, hH⟩⟩))
def isRef (r : Nat) : T → Bool
  | .ref j => decide (r = j)
  | _ => false
def fUpd : T → List T → Hs → Res T := fun t xs M => match t, xs with
  | .ref r, [y] => match M[r]?, dcOf y M with
    | some (.dct kvs), some more => if isRef r y || decide (1000 < kvs.length + more.length) then .bad else .ok .non (M.set r (.dct (dMerge kvs more)))
    | _, _ => .bad
  | _, _ => .bad
theorem opm_upd : OpM tb K fUpd rUpd := fun E ρ F M H Q t v xs vs S r rs p => by
  unfold fUpd at p
  split at p
  case h_2 => exact p.elim
  rename_i i y
  split at p
  case h_2 => exact p.elim
  rename_i kvs more hm hy
  split at p
  case isTrue => exact p.elim
  rename_i hk
  simp only [Bool.or_eq_true, decide_eq_true_eq, not_or] at hk
  cases rs with
  | cons _ _ w _ ry rn =>
  cases rn
  cases r with
  | ref _ a hi =>
  obtain ⟨ws, hH, rd⟩ := S.ob i _ a hm hi
  obtain ⟨b, ms, rfl, hR, rm⟩ := dc_at S ry hy
  have lz : (1000 : Nat) ≤ sizeLine := by rw [← lineN_eq]; decide
  have ne : a ≠ b := fun e => by
    subst e
    cases ry with
    | ref j _ hj =>
      obtain ⟨q1, e1⟩ := List.getElem?_eq_some_iff.mp hi
      obtain ⟨q2, e2⟩ := List.getElem?_eq_some_iff.mp hj
      exact hk.1 (decide_eq_true ((List.getElem_inj S.nd).mp (e1.trans e2.symm)))
    | dct _ _ _ hF _ => rw [S.fr _ (List.mem_of_getElem? hi)] at hF; cases hF
    | lst _ _ _ hF _ => cases hy
    | tup _ _ _ hF _ => cases hy
    | fix _ _ _ hF _ => cases hy
  refine ⟨a, b, ws, ms, rfl, rfl, ne, hH, hR, by rw [← rd.length, ← rm.length]; omega, ?_⟩
  have e2 : Ext ρ F H ρ F (upd H a (.dK (mergeK ws ms))) := Ext.put (List.mem_of_getElem? hi)
  refine p ρ F _ e2 (S.put hi ⟨_, upd_same, ?_⟩) _ .non
  exact (RepD.merge rm rd)
/-! the place of a text in a fixed tuple -/
def fstIx : List (List Nat) → List Nat → Option Nat
  | [], _ => none
  | y :: ys, z => if y = z then some 0 else (fstIx ys z).map (· + 1)
theorem fstIx_is : ∀ {ys : List (List Nat)} {z : List Nat} {j : Nat}, fstIx ys z = some j → ys[j]? = some z ∧ ∀ m, m < j → ys[m]? ≠ some z
  | [], _, _, h => by cases h
  | y :: ys, z, j, h => by
    unfold fstIx at h
    split at h
    · rename_i e
      cases h
      exact ⟨by simp [e], fun m hm => by omega⟩
    · rename_i e
      cases q : fstIx ys z with
      | none => rw [q] at h; cases h
      | some k =>
        rw [q] at h
        cases h
        obtain ⟨h1, h2⟩ := fstIx_is q
        refine ⟨by simpa using h1, fun m hm => ?_⟩
        cases m with
        | zero => simpa using e
        | succ m =>
          have hm : m + 1 < k + 1 := hm
          simpa using h2 m (by omega)
def fTix (ss : List (List Nat)) : T → Hs → Res T := fun x M => match x with
  | .str z => match fstIx ss z with
    | some j => .ok (.int (j : Nat)) M
    | none => .bad
  | _ => .bad
/-- G.index(x), G a global tuple of texts -/
theorem mE_tupIx {G : Str} {a : Addr} {e : Expr} {apos cpos pg : Pos} {m : EM} {ss : List (List Nat)} (hm : X.mg G = some (.ref a)) (hk : ∃ o, X.K.lookup a = some o ∧ o.cls = .type "tuple" ∧ o.dict = none) (hq : ∀ H : Hp, SqT X.K H a (ss.map fun s => V.str ⟨s.toArray⟩)) (he : PE X e (tM tb X.K W m))
    (hg : Gl X G := by rfl) (hdb : (G == ("__debug__" : Str)) = false := by decide)
    (hbase : attributeBase (.Name G pg) "index" X.env (eval (.Name G pg) X.env) = eval (.Name G pg) X.env := by rfl)
    (hfew : ((backTo cpos (starEach [e] X.env)).all (fun x => !x.1) && (backToKw cpos (keywordEach [] X.env)).all (fun x => x.1.isSome)
      && decide ([e].length + ([] : List Keyword).length + (if ([] : List Keyword).isEmpty then 0 else 1) < 30)) = true := by rfl)
    (hline : (apos.endLine == cpos.line) = true := by rfl) (hs : starEach [e] X.env = (false, eval e X.env) :: starEach [] X.env := by rfl) (hplain : (backTo cpos (starEach [] X.env)).any (·.1) = false := by rfl) :
    PE X (.Call (.Attribute (.Name G pg) "index" apos) [e] [] cpos) (tM tb X.K W (mOp1 (fTix ss) m)) := by
  refine pe_imp (pe_bm PySem.F.plainAttrs_tuple PySem.F.slot_tuple_index PySem.F.type_tuple_index mt_tup_index (pe_glob (v := .ref a) hg hm rfl hdb) (pa_cons he pa_nil hs) hbase hfew hline hs hplain) fun σ H Q h => ?_
  refine ⟨.inr (.inl ⟨rfl, hk⟩), ?_⟩
  obtain ⟨ρ, F, M, τ, S, L, p⟩ := h
  refine ⟨ρ, F, M, τ, S, L, (RP.bind p).imp fun t ρ1 F1 H1 e1 ⟨M1, _, S1, p1⟩ v r1 => ?_⟩
  cases t with
  | str z =>
    cases hj : fstIx ss z with
    | none => simp only [fTix, hj] at p1; exact p1.elim
    | some j =>
    simp only [fTix, hj] at p1
    cases r1
    obtain ⟨h1, h2⟩ := fstIx_is hj
    refine ⟨a, ss.map fun s => ⟨s.toArray⟩, ⟨z.toArray⟩, j, rfl, rfl, by rw [List.map_map]; exact hq H1, by rw [List.getElem?_map, h1]; rfl, fun k hk e => ?_, RP.here S1 p1 _ (.int _)⟩
    rw [List.getElem?_map] at e
    cases q : ss[k]? with
    | none => rw [q] at e; cases e
    | some y =>
      rw [q] at e
      have : y = z := by
        have e' := Option.some.inj e
        have := congrArg (fun s : Str => s.cps.toList) e'
        simpa using this
      exact h2 k hk (by rw [q, this])
  | _ => exact p1.elim
end
end Mi
namespace Mi
open PySem PySem.Spec PyProof.Rows L2

/-- a def whose code object stands at c -/
structure FunC (K : PySem.W.Frag) (x qual : Str) (st : Stmt) (f : Addr) (fd : FuncData) (c : Addr) : Prop where
  ex : ∃ (oc : Value) (od : Option Addr) (kV doc pm : Value) (an : Option Addr) (ct : Value) (osl : Array (Option Value)),
    fd = PySem.W.fnOf x qual (defArgs st) (defBody st) (defScope st) .none kV doc pm an (.ref c) ct ∧ K.lookup f = some ⟨oc, od, .func fd, osl⟩ ∧ PySem.W.codeIn K (.ref c) qual = true
  kp : PySem.W.keepIn K (.ref f) = true
section
variable {P : Program} {w : World} {K : PySem.W.Frag} {mg : Str → Option Value} {base : Heap} {tb : Tb}
theorem FunC.fn {x qual : Str} {st : Stmt} {f c : Addr} {fd : FuncData} (F : FunC K x qual st f fd c) : Fun K x qual st f fd := by
  obtain ⟨⟨oc, od, kV, doc, pm, an, ct, osl, e, lk, hcd⟩, kp⟩ := F
  exact ⟨⟨oc, od, kV, doc, pm, an, _, ct, osl, e, lk, hcd⟩, kp⟩
theorem funC_mk {x qual : Str} {st : Stmt} {f c : Addr} {oc : Value} {od an : Option Addr} {osl : Array (Option Value)} {kV doc pm cdv ct : Value} (l : K.lookup f = some ⟨oc, od, .func (PySem.W.fnOf x qual (defArgs st) (defBody st) (defScope st) .none kV doc pm an cdv ct), osl⟩)
    (c' : PySem.W.codeIn K cdv qual = true) (k : PySem.W.keepIn K (.ref f) = true) (e : cdv = .ref c) : FunC K x qual st f (PySem.W.fnOf x qual (defArgs st) (defBody st) (defScope st) .none kV doc pm an cdv ct) c := by
  subst e
  exact ⟨⟨oc, od, kV, doc, pm, an, ct, osl, rfl, l, c'⟩, k⟩
theorem fn_okC {x qual : Str} {st : Stmt} {f c : Addr} {fd : FuncData} {N ps : List Str} {k n : Nat} {b : SM} (Fu : FunC K x qual st f fd c) (S : FnScope N ps (defScope st)) (hn : n = N.length)
    (hb : ∀ (A : Around) (outer : List Env) (s : Shared) (H : Hp) (E : XK), Room k (A.deeper (envOfC qual (defScope st) s.heap.objs.size f (.ref c))) →
      PSs (cxOf (L2.CX P w) P w K mg base N qual (defScope st) f (.ref c) A outer s H E) (defBody st) (tSM tb K (fun cls d _ H' => E cls d H') b)) :
    FnOk P w K mg base (L2.CX P w) (k + 1) f fd ps (spM tb K ps.length (mBody n b)) := by
  obtain ⟨oc, od, kV, doc, pm, an, ct, osl, rfl, lk, hcd⟩ := Fu.ex
  refine fn_of lk hcd S (fun vs H Q E h => ?_) (fun A outer s H vs Q E hr h => ⟨_, hb A outer s H E hr, ?_⟩)
  · obtain ⟨ρ, F, M, ts, _, r, e, _⟩ := h
    rw [← r.length, e]
  · obtain ⟨ρ, F, M, ts, Sm, r, e, p⟩ := h
    refine ⟨ρ, F, M, _, Sm, loc_start r, ?_⟩
    unfold mBody at p
    rw [hn] at p
    cases hres : b (ts ++ List.replicate (N.length - ts.length) .un) M with
    | nx τ' M' => rw [hres] at p; exact fun ρ' F' H' σ' ex S' _ => p ρ' F' H' ex S' _ .non
    | rt t M' => rw [hres] at p; exact fun ρ' F' H' v ex S' rv => p ρ' F' H' ex S' v rv
    | ex c M' => rw [hres] at p; exact fun ρ' F' H' σ' ex S' => p ρ' F' H' ex S'
    | bk τ' M' => rw [hres] at p; exact p.elim
    | ct τ' M' => rw [hres] at p; exact p.elim
    | bad => rw [hres] at p; exact p.elim
theorem fn_bad {x qual : Str} {st : Stmt} {f : Addr} {fd : FuncData} {N ps : List Str} {k n : Nat} (Fu : Fun K x qual st f fd) (S : FnScope N ps (defScope st)) (b : Binds K fd ps []) (hn : n = ps.length := by rfl) : CallOk P w K mg base tb (k + 1) f n (fun _ _ => .bad) :=
  CallOk.of (Fu.okX (sp := spM tb K n fun _ _ => .bad) S (fun vs H Q E h => by obtain ⟨ρ, F, M, ts, _, r, e, p⟩ := h; exact p.elim) (fun cdv A outer s H vs Q E hr h => by obtain ⟨ρ, F, M, ts, _, r, e, p⟩ := h; exact p.elim)) b hn
end

/-! ### the end -/
/-- what is known of the law's promise, from the mirror's answer -/
theorem law_sp {tb : Tb} {K : PySem.W.Frag} {g : FnM} {H : Hp} {a : Addr} {ns : List Int} (hT : TabsN tb.T H) (hS : SqL K H a (ns.map V.int)) (h : ∃ M, g [.fix (ns.map T.int)] [] = .ok (.bl true) M) :
    spM tb K 1 g [.ref a] H (fun v _ => v = .bl true) fun _ _ _ => False := by
  obtain ⟨M, e⟩ := h
  have hF : SqL K (fun b => if b = a then (match H a with | some (.tbl _) => none | o => o) else none) a (ns.map V.int) := by
    rcases hS with (h | ⟨o, h⟩) | h
    · exact .inl (.inl (by simp [h]))
    · exact .inl (.inr ⟨o, by simp [h]⟩)
    · exact .inr h
  refine ⟨[], _, [], [.fix (ns.map T.int)], ⟨fun b o q => ?_, rfl, List.nodup_nil, fun _ h => (by cases h), fun i ob a h1 h2 => by simp at h1, fun b o q => ?_, hT⟩, .cons _ _ _ _ (.fix _ _ a hF (intsL _)) .nil, rfl, ?_⟩
  · by_cases z : b = a
    · subst z
      simp only [if_true] at q
      split at q
      · cases q
      · exact .inl q
    · simp [z] at q
  · by_cases z : b = a
    · subst z
      simp only [if_true] at q
      split at q
      · cases q
      · rename_i o' hne
        intro ps hz
        subst hz
        exact hne ps q
    · simp [z] at q
  · rw [e]
    intro ρ' F' H' _ _ v r
    cases r
    rfl
/-- an error of the class at S is one that «except CS» names -/
theorem exm_sub {K : PySem.W.Frag} {S CS : Addr} (h1 : PySem.W.subIn K (.ref CS) (.type "BaseException") = some true) (h2 : PySem.W.isClsIn K CS = true) (h3 : PySem.W.typeIn K (.ref CS) = some (.type "type")) (h4 : PySem.W.subIn K (.ref S) (.ref CS) = some true) :
    PySem.W.exmOne K (.ref S) (.ref CS) = some true := by
  have e1 : (PySem.W.subIn K (.ref CS) (.type "BaseException") == some true) = true := by rw [h1] <;> rfl
  have e2 : ((PySem.W.clsIn K CS).isSome && PySem.W.typeIn K (.ref CS) == some (.type "type")) = true := by
    have h2' : (PySem.W.clsIn K CS).isSome = true := h2
    rw [h2', h3] <;> rfl
  show (if (PySem.W.subIn K (.ref CS) (.type "BaseException") == some true) = true then (if ((PySem.W.clsIn K CS).isSome && PySem.W.typeIn K (.ref CS) == some (.type "type")) = true then PySem.W.subIn K (.ref S) (.ref CS) else none) else none) = some true
  rw [if_pos e1, if_pos e2]
  exact h4
theorem told_mk {K : PySem.W.Frag} {mg : Str → Option Value} {tb : Tb} {x a e : Str} {cs ret : List Nat} {st : Stmt} {g CS : Addr} {j : Nat} {p1 p2 p3 p4 p5 p6 p7 p8 : Pos} {oc : Value} {od an : Option Addr} {osl : Array (Option Value)} {kV doc pm cdv ct : Value} {Ng : List Str}
    (hm : mg x = some (.ref g)) (k : PySem.W.keepIn K (.ref g) = true) (l : K.lookup g = some ⟨oc, od, .func (PySem.W.fnOf x x (defArgs st) (defBody st) (defScope st) .none kV doc pm an cdv ct), osl⟩) (c : PySem.W.codeIn K cdv x = true)
    (hb : defBody st = [.Try [.Return (some (.Call (.Name a p1) [] [] p2)) p3] [.ExceptHandler (some (.Name e p4)) none [.Return (some (.Constant (.str ⟨ret.toArray⟩) j p5)) p6] p7] [] [] p8])
    (bd : L2.Binds K (PySem.W.fnOf x x (defArgs st) (defBody st) (defScope st) .none kV doc pm an cdv ct) [a] []) (sc : FnScope Ng [a] (defScope st)) (h0 : Ng = [a]) (hv : (defScope st).names.lookup a = some .local) (he : (defScope st).names.lookup e = some .globalImplicit) (hme : mg e = some (.ref CS))
    (hde : (e == ("__debug__" : Str)) = false) (ex : ∀ c ∈ cs, PySem.W.exmOne K (.ref (tb.c c)) (.ref CS) = some true) (h1 : (a == ("__debug__" : Str)) = false) (h2 : (a == ("__classdict__" : Str)) = false) : ToldD K mg tb x cs ret := by
  subst h0
  rw [hb] at l bd
  exact ⟨a, e, g, CS, j, p1, p2, p3, p4, p5, p6, p7, p8, defArgs st, defScope st, .none, kV, doc, pm, cdv, ct, oc, an, od, osl, [a], hm, k, l, c, bd, sc, rfl, .inl hv, he, hme, hde, fun _ => rfl, ex, h1, h2⟩
end Mi
namespace Mi
open PySem PySem.Spec PyProof.Rows L2
section
variable {X : Cx} {tb : Tb} {W : WX} {σ : L2.St} {H : Hp} {K : PySem.W.Frag} {ρ : List Addr} {F : Hp} {M : Hs}
/-! xs.append(x) -/
def isLR (t : T) (M : Hs) : Bool := match t with
  | .ref r => match M[r]? with
    | some (.lst _) => true
    | _ => false
  | _ => false
theorem ty_list : TyM tb K isLR "list" := fun ρ F M H t v S r h => by
  unfold isLR at h
  split at h
  case h_2 => cases h
  rename_i i
  split at h
  case h_2 => cases h
  rename_i kvs hm
  cases r with
  | ref _ a hi =>
    obtain ⟨vs, hH, rd⟩ := S.ob i _ a hm hi
    exact .inl ⟨rfl, vs, .inl (.inl hH)⟩
def fAppend : T → List T → Hs → Res T := fun t xs M => match t, xs with
  | .ref r, [y] => match M[r]? with
    | some (.lst ts) => if ts.length < lineN then .ok .non (M.set r (.lst (ts ++ [y]))) else .bad
    | _ => .bad
  | _, _ => .bad
theorem opm_append : OpM tb K fAppend rAppend := fun E ρ F M H Q t v xs vs S r rs p => by
  unfold fAppend at p
  split at p
  case h_2 => exact p.elim
  rename_i i y
  split at p
  case h_2 => exact p.elim
  rename_i ts hm
  split at p
  case isFalse => exact p.elim
  rename_i hl
  cases rs with
  | cons _ _ w _ ry rn =>
  cases rn
  cases r with
  | ref _ a hi =>
  obtain ⟨ws, hH, rl⟩ := S.ob i _ a hm hi
  refine ⟨a, ws, w, rfl, rfl, hH, by rw [← rl.length, ← lineN_eq]; exact hl, ?_⟩
  have e2 : Ext ρ F H ρ F (upd H a (.lst (ws ++ [w]))) := Ext.put (List.mem_of_getElem? hi)
  exact p ρ F _ e2 (S.put hi ⟨_, upd_same, rl.append (.cons _ _ _ _ ry .nil)⟩) _ .non

/-! range(i, j, -1) -/
def rngV3 : List T → Hs → Res Src
  | [.int i, .int j, .int c], M => if okI i && okI j && decide (c = -1) then .ok (.l (rngL i (-1) (i - j).toNat)) M else .bad
  | _, _ => .bad
theorem its_rngc {ρ : List Addr} {F : Hp} {lo c : Int} {n : Nat} : Its tb K (Itc lo c n) ρ F H (.l (rngL lo c n)) := fun i ρ1 F1 M1 H1 e1 S1 => by
  refine ⟨fun t ht => ?_, fun hi => ?_⟩
  · unfold rngL at ht
    rw [List.getElem?_map] at ht
    cases e : (List.range n)[i]? with
    | none => rw [e] at ht; cases ht
    | some c =>
      rw [e] at ht; cases ht
      obtain ⟨hl, e⟩ := List.getElem?_eq_some_iff.mp e
      rw [List.getElem_range] at e
      subst e
      rw [List.length_range] at hl
      refine ⟨hl, fun x H' y => ?_⟩
      obtain ⟨rfl, rfl⟩ := y
      exact ⟨F1, .refl, S1, .int _⟩
  · show n ≤ i
    rw [hi]
    simp [rngL]
theorem op_rng3 : OpI tb K rngV3 (fun vs H R => ∃ (i j c : Int) (n : Nat), vs = [.int i, .int j, .int c] ∧ RgC i j c n ∧ R (Itc i c n) H) := fun E ρ F M H R a x S r p => by
  unfold rngV3 at p
  split at p
  case h_2 => exact p.elim
  rename_i i j c
  cases r with
  | cons _ _ _ _ r1 r2 =>
  cases r2 with
  | cons _ _ _ _ r2 r3 =>
  cases r3 with
  | cons _ _ _ _ r3 r4 =>
  cases r1; cases r2; cases r3; cases r4
  split at p
  · rename_i hk
    simp only [Bool.and_eq_true, decide_eq_true_eq] at hk
    obtain ⟨⟨h1, h2⟩, h3⟩ := hk
    subst h3
    obtain ⟨a1, a2⟩ := okI_of h1
    obtain ⟨b1, b2⟩ := okI_of h2
    exact ⟨i, j, -1, _, rfl, RgC.neg a1 a2 b1 b2, RP.here S p _ its_rngc⟩
  · exact p.elim
theorem mI_rng3 {tg a b c : Expr} {m : AM} {p pos : Pos} (hm : X.mg "range" = none) (h : PA X [a, b, c] (tAM tb X.K W m)) (hg : Gl X "range" := by rfl) (hs : starEach [a, b, c] X.env = (false, eval a X.env) :: starEach [b, c] X.env := by rfl)
    (hpl : (backTo pos (starEach [b, c] X.env)).any (·.1) = false := by rfl) : PI X tg (.Call (.Name "range" p) [a, b, c] [] pos) (tI tb X.K W (mIA rngV3 m)) :=
  pi_imp (pi_range3 hg hm h hs hpl) fun σ H R q => manyI op_rng3 q

/-! zip of two lists, of two tuples (fixed ones); enumerate of a list -/
def zipT : List T → List T → List T
  | a :: as, b :: bs => .tup [a, b] :: zipT as bs
  | _, _ => []
theorem zipT_get : ∀ {as bs : List T} {i : Nat} {t : T}, (zipT as bs)[i]? = some t → ∃ a b, as[i]? = some a ∧ bs[i]? = some b ∧ t = .tup [a, b]
  | [], _, _, _, h => by simp [zipT] at h
  | _ :: _, [], _, _, h => by simp [zipT] at h
  | a :: as, b :: bs, 0, t, h => ⟨a, b, rfl, rfl, by simpa [zipT] using h.symm⟩
  | a :: as, b :: bs, i + 1, t, h => by
    obtain ⟨x, y, h1, h2, h3⟩ := zipT_get (as := as) (bs := bs) (i := i) (t := t) (by simpa [zipT] using h)
    exact ⟨x, y, by simpa using h1, by simpa using h2, h3⟩
theorem zipT_len : ∀ {as bs : List T}, as.length ≤ (zipT as bs).length ∨ bs.length ≤ (zipT as bs).length
  | [], _ => .inl (Nat.zero_le _)
  | _ :: _, [] => .inr (Nat.zero_le _)
  | a :: as, b :: bs => by
    rcases zipT_len (as := as) (bs := bs) with h | h
    · exact .inl (Nat.succ_le_succ h)
    · exact .inr (Nat.succ_le_succ h)
theorem its_pair {ρ ρ1 : List Addr} {F1 : Hp} {M1 : Hs} {H1 H' : Hp} {x y : V} {a b : T} {v : V} (S1 : Sim tb K ρ1 F1 M1 H1) (ra : Rep K F1 ρ1 a x) (rb : Rep K F1 ρ1 b y) {Tt : Addr} (hv : v = .ref Tt) (hn : H1 Tt = none) (hH : H' = upd H1 Tt (.tup [x, y])) :
    ∃ F', Ext ρ1 F1 H1 ρ1 F' H' ∧ Sim tb K ρ1 F' M1 H' ∧ Rep K F' ρ1 (.tup [a, b]) v := by
  subst hv hH
  obtain ⟨S2, e2⟩ := S1.lay hn (.tup [x, y])
  exact ⟨_, e2, S2, .tup _ _ Tt (.inl (.inl upd_same)) (.cons _ _ _ _ (ra.mono e2) (.cons _ _ _ _ (rb.mono e2) .nil))⟩
theorem its_zipL {a b : Addr} {ts us : List T} {vs ws : List V} (h1 : SqL K F a vs) (h2 : SqL K F b ws) (r1 : RepL K F ρ ts vs) (r2 : RepL K F ρ us ws) : Its tb K (Itz K a b) ρ F H (.l (zipT ts us)) := fun i ρ1 F1 M1 H1 e1 S1 => by
  have q1 : SqL K H1 a vs := hd_sqL S1.sub (sqL_mono e1.f h1)
  have q2 : SqL K H1 b ws := hd_sqL S1.sub (sqL_mono e1.f h2)
  refine ⟨fun t ht => ?_, fun hi => ⟨vs, ws, q1, q2, ?_⟩⟩
  · obtain ⟨x, y, g1, g2, rfl⟩ := zipT_get ht
    obtain ⟨v1, e3, e4⟩ := r1.get g1
    obtain ⟨v2, e5, e6⟩ := r2.get g2
    refine ⟨⟨vs, ws, v1, v2, q1, q2, e3, e5⟩, fun x H' y => ?_⟩
    obtain ⟨Tt, x1, x2, hv, hn, hH, k1, k2⟩ := y
    have := k1 vs q1
    rw [e3] at this; cases this
    have := k2 ws q2
    rw [e5] at this; cases this
    exact its_pair (ρ := ρ) S1 (e4.mono e1) (e6.mono e1) hv hn hH
  · rw [hi, ← r1.length, ← r2.length]
    exact zipT_len
theorem its_zipA {a b : Addr} {ts us : List T} {vs ws : List V} (h1 : SqT K F a vs) (h2 : SqT K F b ws) (r1 : RepL K F ρ ts vs) (r2 : RepL K F ρ us ws) : Its tb K (RZ.ItzT K a b) ρ F H (.l (zipT ts us)) := fun i ρ1 F1 M1 H1 e1 S1 => by
  have q1 : SqT K H1 a vs := hd_sqT S1.sub (sqT_mono e1.f h1)
  have q2 : SqT K H1 b ws := hd_sqT S1.sub (sqT_mono e1.f h2)
  refine ⟨fun t ht => ?_, fun hi => ⟨vs, ws, q1, q2, ?_⟩⟩
  · obtain ⟨x, y, g1, g2, rfl⟩ := zipT_get ht
    obtain ⟨v1, e3, e4⟩ := r1.get g1
    obtain ⟨v2, e5, e6⟩ := r2.get g2
    refine ⟨⟨vs, ws, v1, v2, q1, q2, e3, e5⟩, fun x H' y => ?_⟩
    obtain ⟨Tt, x1, x2, hv, hn, hH, k1, k2⟩ := y
    have := k1 vs q1
    rw [e3] at this; cases this
    have := k2 ws q2
    rw [e5] at this; cases this
    exact its_pair (ρ := ρ) S1 (e4.mono e1) (e6.mono e1) hv hn hH
  · rw [hi, ← r1.length, ← r2.length]
    exact zipT_len
def zipV : List T → Hs → Res Src
  | [.tup a, .tup b], M => .ok (.l (zipT a b)) M
  | [.lst a, .lst b], M => .ok (.l (zipT a b)) M
  | [.fix a, .lst b], M => .ok (.l (zipT a b)) M
  | _, _ => .bad
theorem op_zip : OpI tb K zipV (fun vs H R => ∃ a b xs ys, vs = [.ref a, .ref b] ∧ ((SqL K H a xs ∧ SqL K H b ys ∧ R (Itz K a b) H) ∨ (SqT K H a xs ∧ SqT K H b ys ∧ R (RZ.ItzT K a b) H))) := fun E ρ F M H R a x S r p => by
  unfold zipV at p
  split at p
  case h_4 => exact p.elim
  case h_1 =>
    cases r with
    | cons _ _ _ _ r1 r2 =>
    cases r2 with
    | cons _ _ _ _ r2 r3 =>
    cases r3
    cases r1 with
    | tup _ vs a hF rl =>
    cases r2 with
    | tup _ ws b hG rm => exact ⟨a, b, vs, ws, rfl, .inr ⟨hd_sqT S.sub hF, hd_sqT S.sub hG, RP.here S p _ (its_zipA hF hG rl rm)⟩⟩
  case h_2 =>
    cases r with
    | cons _ _ _ _ r1 r2 =>
    cases r2 with
    | cons _ _ _ _ r2 r3 =>
    cases r3
    cases r1 with
    | lst _ vs a hF rl =>
    cases r2 with
    | lst _ ws b hG rm => exact ⟨a, b, vs, ws, rfl, .inl ⟨.inl (.inl (hd_lst S.sub hF)), .inl (.inl (hd_lst S.sub hG)), RP.here S p _ (its_zipL (.inl (.inl hF)) (.inl (.inl hG)) rl rm)⟩⟩
  case h_3 =>
    cases r with
    | cons _ _ _ _ r1 r2 =>
    cases r2 with
    | cons _ _ _ _ r2 r3 =>
    cases r3
    cases r1 with
    | fix _ vs a hF rl =>
    cases r2 with
    | lst _ ws b hG rm => exact ⟨a, b, vs, ws, rfl, .inl ⟨hd_sqL S.sub hF, .inl (.inl (hd_lst S.sub hG)), RP.here S p _ (its_zipL hF (.inl (.inl hG)) rl rm)⟩⟩
theorem mI_zip {e e2 : Expr} {m : AM} {p pos tpos : Pos} {elts : List Expr} {kk : Nat} (hm : X.mg "zip" = none) (h : PA X [e, e2] (tAM tb X.K W m)) (hg : Gl X "zip" := by rfl)
    (hs : starEach [e, e2] X.env = (false, eval e X.env) :: starEach [e2] X.env := by rfl) (hpl : (backTo pos (starEach [e2] X.env)).any (·.1) = false := by rfl) :
    PI X (.Tuple elts kk tpos) (.Call (.Name "zip" p) [e, e2] [] pos) (tI tb X.K W (mIA zipV m)) := pi_imp (RZ.pi_zipA hg hm h hs hpl) fun σ H R q => manyI op_zip q
def enumT : Nat → List T → List T
  | _, [] => []
  | i, a :: as => .tup [.int (i : Nat), a] :: enumT (i + 1) as
theorem enumT_get : ∀ {as : List T} {k i : Nat} {t : T}, (enumT k as)[i]? = some t → ∃ a, as[i]? = some a ∧ t = .tup [.int ((k + i : Nat) : Int), a]
  | [], _, _, _, h => by simp [enumT] at h
  | a :: as, k, 0, t, h => ⟨a, rfl, by simpa [enumT] using h.symm⟩
  | a :: as, k, i + 1, t, h => by
    obtain ⟨x, h1, h2⟩ := enumT_get (as := as) (k := k + 1) (i := i) (t := t) (by simpa [enumT] using h)
    exact ⟨x, by simpa using h1, by rw [h2]; congr 4; omega⟩
theorem enumT_len : ∀ (as : List T) (k : Nat), (enumT k as).length = as.length
  | [], _ => rfl
  | a :: as, k => congrArg (· + 1) (enumT_len as (k + 1))
def enumV : List T → Hs → Res Src
  | [.lst a], M => .ok (.l (enumT 0 a)) M
  | [.fix a], M => .ok (.l (enumT 0 a)) M
  | _, _ => .bad
theorem its_enum {a : Addr} {ts : List T} {vs : List V} (h1 : SqL K F a vs) (r1 : RepL K F ρ ts vs) : Its tb K (Ite K a) ρ F H (.l (enumT 0 ts)) := fun i ρ1 F1 M1 H1 e1 S1 => by
  have q1 : SqL K H1 a vs := hd_sqL S1.sub (sqL_mono e1.f h1)
  refine ⟨fun t ht => ?_, fun hi => ⟨vs, q1, by rw [hi, enumT_len, r1.length]; exact Nat.le_refl _⟩⟩
  obtain ⟨x, g1, rfl⟩ := enumT_get ht
  obtain ⟨v1, e3, e4⟩ := r1.get g1
  refine ⟨⟨vs, v1, q1, e3⟩, fun x H' y => ?_⟩
  obtain ⟨Tt, x1, hv, hn, hH, k1⟩ := y
  have := k1 vs q1
  rw [e3] at this; cases this
  rw [Nat.zero_add]
  exact its_pair (ρ := ρ) S1 (.int _) (e4.mono e1) hv hn hH
theorem op_enum : OpI tb K enumV (fun vs H R => ∃ a xs, vs = [.ref a] ∧ SqL K H a xs ∧ R (Ite K a) H) := fun E ρ F M H R a x S r p => by
  unfold enumV at p
  split at p
  case h_3 => exact p.elim
  case h_1 =>
    cases r with
    | cons _ _ _ _ r1 r2 =>
    cases r2
    cases r1 with
    | lst _ vs a hF rl => exact ⟨a, vs, rfl, .inl (.inl (hd_lst S.sub hF)), RP.here S p _ (its_enum (.inl (.inl hF)) rl)⟩
  case h_2 =>
    cases r with
    | cons _ _ _ _ r1 r2 =>
    cases r2
    cases r1 with
    | fix _ vs a hF rl => exact ⟨a, vs, rfl, hd_sqL S.sub hF, RP.here S p _ (its_enum hF rl)⟩
theorem mI_enum {e : Expr} {m : AM} {p pos tpos : Pos} {elts : List Expr} {kk : Nat} (hm : X.mg "enumerate" = none) (h : PA X [e] (tAM tb X.K W m)) (hg : Gl X "enumerate" := by rfl) (hs : starEach [e] X.env = [(false, eval e X.env)] := by rfl) :
    PI X (.Tuple elts kk tpos) (.Call (.Name "enumerate" p) [e] [] pos) (tI tb X.K W (mIA enumV m)) := pi_imp (pi_enum hg hm h hs) fun σ H R q => manyI op_enum q
/-! x *= y -/
def fIMul : T → T → Hs → Res T
  | .int i, .int j, M => if smallI i || smallI j then .ok (.int (i * j)) M else .bad
  | _, _, _ => .bad
theorem op2_imul : Op2 tb K fIMul (rI CMul fun i j => .int (i * j)) := fun E ρ F M H Q a b x y S ra rb p => by
  unfold fIMul at p
  split at p
  case h_2 => exact p.elim
  split at p
  case isFalse => exact p.elim
  rename_i hs
  cases ra; cases rb
  refine ⟨_, _, rfl, rfl, ?_, RP.here S p _ (.int _)⟩
  rw [Bool.or_eq_true] at hs
  exact hs.imp smallI_of smallI_of
end
end Mi
namespace Mi
open PySem PySem.Spec PyProof.Rows L2
section
variable {X : Cx} {tb : Tb} {W : WX} {σ : L2.St} {H : Hp} {K : PySem.W.Frag} {ρ : List Addr} {F : Hp} {M : Hs}
/-! dict(d): a copy -/
def rDictC : List V → Hp → VK → Prop := fun xs H Q => ∃ a kvs, xs = [V.ref a] ∧ Rd H a (.dK kvs) ∧ ∀ p, H p = none → Q (.ref p) (upd H p (.dK kvs))
theorem cr_dictC : CallR X (.type "dict") rDictC := fun pins s σ H xs us Q I r h => by
  obtain ⟨a, kvs, rfl, hR, q⟩ := h
  obtain ⟨u, rfl, ru⟩ := r.one
  cases ru
  exact d_copyOf I hR fun p s' hp I' => ⟨.ref p, _, I', rfl, q p hp⟩
def fDictC : List T → Hs → Res T
  | [x], M => match dcOf x M with
    | some kvs => .ok (.dct kvs) M
    | none => .bad
  | _, _ => .bad
def fDictR : List T → Hs → Res T
  | [x], M => match dcOf x M with
    | some kvs => .ok (.ref M.length) (M ++ [.dct kvs])
    | none => .bad
  | _, _ => .bad
theorem opn_dictC : OpN tb K fDictC rDictC := fun E ρ F M H Q a x S r p => by
  unfold fDictC at p
  split at p
  case h_2 => exact p.elim
  cases r with
  | cons _ _ _ _ r1 r2 =>
  cases r2
  split at p
  case h_2 => exact p.elim
  rename_i kvs hk
  obtain ⟨b, vs, rfl, hR, rd⟩ := dc_at S r1 hk
  exact ⟨b, vs, rfl, hR, fun q hq => new_dct S rd p q hq⟩
theorem opn_dictR : OpN tb K fDictR rDictC := fun E ρ F M H Q a x S r p => by
  unfold fDictR at p
  split at p
  case h_2 => exact p.elim
  cases r with
  | cons _ _ _ _ r1 r2 =>
  cases r2
  split at p
  case h_2 => exact p.elim
  rename_i kvs hk
  obtain ⟨b, vs, rfl, hR, rd⟩ := dc_at S r1 hk
  exact ⟨b, vs, rfl, hR, fun q hq => new_dctR S rd p q hq⟩
/-! d.get -/
def mDGet1 (mo me : EM) : EM := fun τ M => (mo τ M).bind fun x M1 => if (dcOf x M1).isSome then (me τ M1).bind fun y M2 => match dcOf x M2 with
  | some kvs => if isKey y then .ok ((dGet kvs y).getD .non) M2 else .bad
  | none => .bad
  else .bad
def mDGet2 (mo me md : EM) : EM := fun τ M => (mo τ M).bind fun x M1 => if (dcOf x M1).isSome then (me τ M1).bind fun y M2 => (md τ M2).bind fun z M3 => match dcOf x M3 with
  | some kvs => if isKey y then .ok ((dGet kvs y).getD z) M3 else .bad
  | none => .bad
  else .bad
theorem isD_of {x : T} {v : V} (S : Sim tb K ρ F M H) (r : Rep K F ρ x v) (h : (dcOf x M).isSome = true) : ∃ a, v = .ref a ∧ IsD H a := by
  obtain ⟨kvs, e⟩ := Option.isSome_iff_exists.mp h
  obtain ⟨a, vs, rfl, hR, _⟩ := dc_at S r e
  exact ⟨a, rfl, .inl ⟨vs, hR⟩⟩
theorem dget_of {x y z : T} {v u w : V} {kvs : List (T × T)} {E : Nat → Hp → Prop} {Q : VK} (S : Sim tb K ρ F M H) (rx : Rep K F ρ x v) (ry : Rep K F ρ y u) (rz : Rep K F ρ z w) (h : dcOf x M = some kvs) (hk : isKey y = true) (p : RP tb K ρ F H E (GM K Q) (.ok ((dGet kvs y).getD z) M)) :
    ∀ a, v = .ref a → ∃ o, DGet H a u o ∧ Q (o.getD w) H := fun a hv => by
  obtain ⟨b, vs, rfl, hR, rd⟩ := dc_at S rx h
  cases hv
  obtain ⟨q, hq⟩ := isKey_iff.mp hk
  have e := key_rep hq ry
  subst e
  refine ⟨valV vs q, .inl ⟨vs, q, hR, rfl, rfl⟩, ?_⟩
  rcases rd.get hq with ⟨e1, e2⟩ | ⟨t, x', e1, e2, r⟩
  · rw [e1] at p; rw [e2]; exact RP.here S p _ rz
  · rw [e1] at p; rw [e2]; exact RP.here S p _ r
theorem mE_dget1 {o e : Expr} {apos cpos : Pos} {mo me : EM} (hu : X.A.units + 64 < cLine) (ho : PE X o (tM tb X.K W mo)) (he : PE X e (tM tb X.K W me)) (m : M1 X o "get" apos e cpos := by exact ⟨rfl, rfl, rfl, rfl⟩) : PE X (.Call (.Attribute o "get" apos) [e] [] cpos) (tM tb X.K W (mDGet1 mo me)) := by
  refine pe_imp (pe_dget1 (by omega) ho he m) fun σ H Q h => ?_
  obtain ⟨ρ, F, M, τ, S, L, p⟩ := h
  refine ⟨ρ, F, M, τ, S, L, (RP.bind p).imp fun x ρ1 F1 H1 e1 ⟨M1, _, S1, p1⟩ v r1 => ?_⟩
  split at p1
  case isFalse => exact p1.elim
  rename_i hd
  obtain ⟨a, rfl, d⟩ := isD_of S1 r1 hd
  refine ⟨a, rfl, d, ρ1, F1, M1, τ, S1, L.mono e1, (RP.bind p1).imp fun y ρ2 F2 H2 e2 ⟨M2, _, S2, p2⟩ u r2 => ?_⟩
  cases hk : dcOf x M2 with
  | none => rw [hk] at p2; exact p2.elim
  | some kvs =>
    rw [hk] at p2
    dsimp only at p2
    split at p2
    case isFalse => exact p2.elim
    rename_i hy
    exact dget_of S2 (r1.mono e2) r2 .non hk hy p2 a rfl
theorem mE_dget2 {o e f : Expr} {apos cpos : Pos} {mo me md : EM} (hu : X.A.units + 64 < cLine) (ho : PE X o (tM tb X.K W mo)) (he : PE X e (tM tb X.K W me)) (hf : PE X f (tM tb X.K W md)) (m : M2 X o "get" apos e f cpos := by exact ⟨rfl, rfl, rfl, rfl⟩) : PE X (.Call (.Attribute o "get" apos) [e, f] [] cpos) (tM tb X.K W (mDGet2 mo me md)) := by
  refine pe_imp (pe_dget2 (by omega) ho he hf m) fun σ H Q h => ?_
  obtain ⟨ρ, F, M, τ, S, L, p⟩ := h
  refine ⟨ρ, F, M, τ, S, L, (RP.bind p).imp fun x ρ1 F1 H1 e1 ⟨M1, _, S1, p1⟩ v r1 => ?_⟩
  split at p1
  case isFalse => exact p1.elim
  rename_i hd
  obtain ⟨a, rfl, d⟩ := isD_of S1 r1 hd
  refine ⟨a, rfl, d, ρ1, F1, M1, τ, S1, L.mono e1, (RP.bind p1).imp fun y ρ2 F2 H2 e2 ⟨M2, _, S2, p2⟩ u r2 => ?_⟩
  refine ⟨ρ2, F2, M2, τ, S2, (L.mono e1).mono e2, (RP.bind p2).imp fun z ρ3 F3 H3 e3 ⟨M3, _, S3, p3⟩ w r3 => ?_⟩
  cases hk : dcOf x M3 with
  | none => rw [hk] at p3; exact p3.elim
  | some kvs =>
    rw [hk] at p3
    dsimp only at p3
    split at p3
    case isFalse => exact p3.elim
    rename_i hy
    exact dget_of S3 (r1.mono (e2.trans e3)) (r2.mono e3) r3 hk hy p3 a rfl
/-! d.pop -/
def popOf (x y : T) (M : Hs) : Option (Nat × List (T × T)) := match x with
  | .ref r => match M[r]? with
    | some (.dct kvs) => if isKey y then some (r, kvs) else none
    | _ => none
  | _ => none
def mDPop1 (mo me : EM) : EM := fun τ M => (mo τ M).bind fun x M1 => if (dcOf x M1).isSome then (me τ M1).bind fun y M2 => match popOf x y M2 with
  | some (r, kvs) => match dGet kvs y with
    | some t => .ok t (M2.set r (.dct (dDrop kvs y)))
    | none => .bad
  | none => .bad
  else .bad
def mDPop2 (mo me md : EM) : EM := fun τ M => (mo τ M).bind fun x M1 => if (dcOf x M1).isSome then (me τ M1).bind fun y M2 => (md τ M2).bind fun z M3 => match popOf x y M3 with
  | some (r, kvs) => match dGet kvs y with
    | some t => .ok t (M3.set r (.dct (dDrop kvs y)))
    | none => .ok z M3
  | none => .bad
  else .bad
theorem pop_of {x y : T} {v u : V} {r : Nat} {kvs : List (T × T)} (S : Sim tb K ρ F M H) (rx : Rep K F ρ x v) (ry : Rep K F ρ y u) (h : popOf x y M = some (r, kvs)) :
    ∃ a vs q, v = .ref a ∧ ρ[r]? = some a ∧ H a = some (.dK vs) ∧ u = kV q ∧ keyT y = some q ∧ RepD K F ρ kvs vs := by
  unfold popOf at h
  split at h
  case h_2 => cases h
  rename_i i
  split at h
  case h_2 => cases h
  rename_i kv hm
  split at h
  case isFalse => cases h
  rename_i hk
  cases h
  cases rx with
  | ref _ a hi =>
    obtain ⟨vs, hH, rd⟩ := S.ob _ _ a hm hi
    obtain ⟨q, hq⟩ := isKey_iff.mp hk
    exact ⟨a, vs, q, rfl, hi, hH, key_rep hq ry, hq, rd⟩
theorem popped {E : Nat → Hp → Prop} {Q : VK} {y t : T} {r : Nat} {a : Addr} {q : Key} {kvs : List (T × T)} {vs : List (Key × V)} (S : Sim tb K ρ F M H) (hi : ρ[r]? = some a) (hq : keyT y = some q) (rd : RepD K F ρ kvs vs) {w : V} (rt : Rep K F ρ t w)
    (p : RP tb K ρ F H E (GM K Q) (.ok t (M.set r (.dct (dDrop kvs y))))) : Q w (upd H a (.dK (dropK vs q))) := by
  have e2 : Ext ρ F H ρ F (upd H a (.dK (dropK vs q))) := Ext.put (List.mem_of_getElem? hi)
  exact p ρ F _ e2 (S.put hi ⟨_, upd_same, rd.drop hq⟩) _ rt
theorem mE_dpop1 {o e : Expr} {apos cpos : Pos} {mo me : EM} (ho : PE X o (tM tb X.K W mo)) (he : PE X e (tM tb X.K W me)) (m : M1 X o "pop" apos e cpos := by exact ⟨rfl, rfl, rfl, rfl⟩) : PE X (.Call (.Attribute o "pop" apos) [e] [] cpos) (tM tb X.K W (mDPop1 mo me)) := by
  refine pe_imp (pe_dpop1 ho he m) fun σ H Q h => ?_
  obtain ⟨ρ, F, M, τ, S, L, p⟩ := h
  refine ⟨ρ, F, M, τ, S, L, (RP.bind p).imp fun x ρ1 F1 H1 e1 ⟨M1, _, S1, p1⟩ v r1 => ?_⟩
  split at p1
  case isFalse => exact p1.elim
  rename_i hd
  obtain ⟨a, rfl, d⟩ := isD_of S1 r1 hd
  refine ⟨a, rfl, d, ρ1, F1, M1, τ, S1, L.mono e1, (RP.bind p1).imp fun y ρ2 F2 H2 e2 ⟨M2, _, S2, p2⟩ u r2 => ?_⟩
  cases hk : popOf x y M2 with
  | none => rw [hk] at p2; exact p2.elim
  | some rk =>
    obtain ⟨r, kvs⟩ := rk
    rw [hk] at p2
    dsimp only at p2
    obtain ⟨b, vs, q, hv, hi, hH, hu', hq, rd⟩ := pop_of S2 (r1.mono e2) r2 hk
    cases hv
    subst hu'
    rcases rd.get hq with ⟨e3, e4⟩ | ⟨t, w, e3, e4, rt⟩
    · rw [e3] at p2; exact p2.elim
    · rw [e3] at p2
      exact ⟨vs, q, w, hH, rfl, e4, popped S2 hi hq rd rt p2⟩
theorem mE_dpop2 {o e f : Expr} {apos cpos : Pos} {mo me md : EM} (ho : PE X o (tM tb X.K W mo)) (he : PE X e (tM tb X.K W me)) (hf : PE X f (tM tb X.K W md)) (m : M2 X o "pop" apos e f cpos := by exact ⟨rfl, rfl, rfl, rfl⟩) : PE X (.Call (.Attribute o "pop" apos) [e, f] [] cpos) (tM tb X.K W (mDPop2 mo me md)) := by
  refine pe_imp (pe_dpop2 ho he hf m) fun σ H Q h => ?_
  obtain ⟨ρ, F, M, τ, S, L, p⟩ := h
  refine ⟨ρ, F, M, τ, S, L, (RP.bind p).imp fun x ρ1 F1 H1 e1 ⟨M1, _, S1, p1⟩ v r1 => ?_⟩
  split at p1
  case isFalse => exact p1.elim
  rename_i hd
  obtain ⟨a, rfl, d⟩ := isD_of S1 r1 hd
  refine ⟨a, rfl, d, ρ1, F1, M1, τ, S1, L.mono e1, (RP.bind p1).imp fun y ρ2 F2 H2 e2 ⟨M2, _, S2, p2⟩ u r2 => ?_⟩
  refine ⟨ρ2, F2, M2, τ, S2, (L.mono e1).mono e2, (RP.bind p2).imp fun z ρ3 F3 H3 e3 ⟨M3, _, S3, p3⟩ w r3 => ?_⟩
  cases hk : popOf x y M3 with
  | none => rw [hk] at p3; exact p3.elim
  | some rk =>
    obtain ⟨r, kvs⟩ := rk
    rw [hk] at p3
    dsimp only at p3
    obtain ⟨b, vs, q, hv, hi, hH, hu', hq, rd⟩ := pop_of S3 (r1.mono (e2.trans e3)) (r2.mono e3) hk
    cases hv
    subst hu'
    refine ⟨vs, q, hH, rfl, fun v hv => ?_, fun hv => ?_⟩
    · rcases rd.get hq with ⟨e4, e5⟩ | ⟨t, w', e4, e5, rt⟩
      · rw [e5] at hv; cases hv
      · rw [e5] at hv; cases hv
        rw [e4] at p3
        exact popped S3 hi hq rd rt p3
    · rcases rd.get hq with ⟨e4, e5⟩ | ⟨t, w', e4, e5, rt⟩
      · rw [e4] at p3; exact RP.here S3 p3 _ r3
      · rw [e5] at hv; cases hv
/-! del d[k] -/
def mDel (mo me : EM) : SM := fun τ M => (mo τ M).st fun x M1 => (me τ M1).st fun y M2 => match popOf x y M2 with
  | some (r, kvs) => match dGet kvs y with
    | some _ => .nx τ (M2.set r (.dct (dDrop kvs y)))
    | none => .bad
  | none => .bad
theorem mS_del {o i : Expr} {tpos pos : Pos} {mo me : EM} (ho : PE X o (tM tb X.K W mo)) (hi : PE X i (tM tb X.K W me)) : PS X (.Delete [.Subscript o i tpos] pos) (tSM tb X.K W (mDel mo me)) := by
  refine ps_imp (ps_ddel ho hi) fun D σ H h => ?_
  obtain ⟨ρ, F, M, τ, S, L, p⟩ := h
  refine ⟨ρ, F, M, τ, S, L, (SP1.st p).imp fun x ρ1 F1 H1 e1 ⟨M1, _, S1, p1⟩ v r1 => ?_⟩
  refine ⟨ρ1, F1, M1, τ, S1, L.mono e1, (SP1.st p1).imp fun y ρ2 F2 H2 e2 ⟨M2, _, S2, p2⟩ u r2 => ?_⟩
  cases hk : popOf x y M2 with
  | none => rw [hk] at p2; exact p2.elim
  | some rk =>
    obtain ⟨r, kvs⟩ := rk
    rw [hk] at p2
    dsimp only at p2
    obtain ⟨b, vs, q, hv, hi, hH, hu', hq, rd⟩ := pop_of S2 (r1.mono e2) r2 hk
    subst hv
    subst hu'
    rcases rd.get hq with ⟨e3, e4⟩ | ⟨t, w, e3, e4, rt⟩
    · rw [e3] at p2; exact p2.elim
    · rw [e3] at p2
      have e5 : Ext ρ2 F2 H2 ρ2 F2 (upd H2 b (.dK (dropK vs q))) := Ext.put (List.mem_of_getElem? hi)
      exact ⟨b, vs, q, rfl, hH, rfl, by rw [e4]; rfl, p2 ρ2 F2 _ σ e5 (S2.put hi ⟨_, upd_same, rd.drop hq⟩) (((L.mono e1).mono e2).mono e5)⟩
/-! min, max of three ints -/
theorem nuLt_int (i j : Int) : nuLt (.int i) (.int j) = some (decide (i < j)) := rfl
def fMin3 : List T → Hs → Res T
  | [.int a, .int b, .int c], M => .ok (.int (if c < (if b < a then b else a) then c else (if b < a then b else a))) M
  | _, _ => .bad
def fMax3 : List T → Hs → Res T
  | [.int a, .int b, .int c], M => .ok (.int (if c > (if b > a then b else a) then c else (if b > a then b else a))) M
  | _, _ => .bad
theorem opn_min3 : OpN tb K fMin3 (rNuC3 nuMin3) := fun E ρ F M H Q a x S r p => by
  unfold fMin3 at p
  split at p
  case h_2 => exact p.elim
  rename_i a b c
  cases r with
  | cons _ _ _ _ r1 r2 =>
  cases r2 with
  | cons _ _ _ _ r2 r3 =>
  cases r3 with
  | cons _ _ _ _ r3 r4 =>
  cases r1; cases r2; cases r3; cases r4
  refine ⟨.int a, .int b, .int c, .int (if c < (if b < a then b else a) then c else (if b < a then b else a)), rfl, ?_, RP.here S p _ (.int _)⟩
  unfold nuMin3 nuMin2
  by_cases h1 : b < a <;> by_cases h2 : c < b <;> by_cases h3 : c < a <;> simp [nuLt_int, h1, h2, h3]
theorem opn_max3 : OpN tb K fMax3 (rNuC3 nuMax3) := fun E ρ F M H Q a x S r p => by
  unfold fMax3 at p
  split at p
  case h_2 => exact p.elim
  rename_i a b c
  cases r with
  | cons _ _ _ _ r1 r2 =>
  cases r2 with
  | cons _ _ _ _ r2 r3 =>
  cases r3 with
  | cons _ _ _ _ r3 r4 =>
  cases r1; cases r2; cases r3; cases r4
  refine ⟨.int a, .int b, .int c, .int (if c > (if b > a then b else a) then c else (if b > a then b else a)), rfl, ?_, RP.here S p _ (.int _)⟩
  unfold nuMax3 nuMax2
  by_cases h1 : a < b <;> by_cases h2 : b < c <;> by_cases h3 : a < c <;> simp [nuLt_int, h1, h2, h3]
end
end Mi
namespace Mi
open PySem PySem.Spec PyProof.Rows L2

/-! ### dict comprehensions -/
def dcT (g : TgP) (c : TM) (k e : EM) (τ : Mi.Loc) (t : T) (n : Hs → Res (List (T × T))) : Hs → Res (List (T × T)) := fun M => match g t τ with
  | none => .bad
  | some τ1 => (c τ1 M).bind fun b M1 => if b then (k τ1 M1).bind fun y M2 => (e τ1 M2).bind fun v M3 => if isKey y then (n M3).bind fun r M4 => .ok ((y, v) :: r) M4 else .bad else n M1
def dcL (g : TgP) (c : TM) (k e : EM) (τ : Mi.Loc) : List T → Hs → Res (List (T × T))
  | [], M => .ok [] M
  | t :: ts, M => dcT g c k e τ t (dcL g c k e τ ts) M
def dcF (g : TgP) (c : TM) (k e : EM) (τ : Mi.Loc) (nx : Nat → Hs → Option (Option T)) : Nat → Nat → Hs → Res (List (T × T))
  | 0, _, _ => .bad
  | n + 1, i, M => match nx i M with
    | none => .bad
    | some none => .ok [] M
    | some (some t) => dcT g c k e τ t (dcF g c k e τ nx n (i + 1)) M
def dcS (g : TgP) (c : TM) (k e : EM) (τ : Mi.Loc) : Src → Hs → Res (List (T × T))
  | .l ts, M => dcL g c k e τ ts M
  | .f nx, M => dcF g c k e τ nx 1000000 0 M
def dcK {α : Type} (n : List (T × T) → Hs → Res α) : Res (List (T × T)) → Res α
  | .ok ts M => if ts.length ≤ lineN then n ts M else .bad
  | _ => .bad
def mDC (it : IM) (ws : List Nat) (g : TgP) (c : TM) (k e : EM) : EM := fun τ M => (it τ M).bind fun src M1 => dcK (fun ts M2 => .ok (.dct (dMerge [] ts)) M2) (dcS g c k e (wipeT τ ws) src M1)
def mDCR (it : IM) (ws : List Nat) (g : TgP) (c : TM) (k e : EM) : EM := fun τ M => (it τ M).bind fun src M1 => dcK (fun ts M2 => .ok (.ref M2.length) (M2 ++ [.dct (dMerge [] ts)])) (dcS g c k e (wipeT τ ws) src M1)
section
variable {X : Cx} {tb : Tb} {W : WX} {σ : L2.St} {H H' : Hp} {K : PySem.W.Frag} {ρ ρ' : List Addr} {F F' : Hp} {M : Hs} {τ : Mi.Loc}
theorem dPut_len (kvs : List (T × T)) (k v : T) : (dPut kvs k v).length ≤ kvs.length + 1 := by
  unfold dPut
  split
  · rw [List.length_map]; omega
  · rw [List.length_append]; simp
theorem Sim.lateG {D : Addr} {o : HO} (S : Sim tb K ρ F M H) (hF : F D = none) (hr : D ∉ ρ) (hH : H D = none ∨ ∃ u, H D = some u ∧ NT u ∧ ∀ φ, u ≠ .ext φ) : Sim tb K ρ F M (upd H D o) := by
  refine ⟨fun a u e => (S.sub a u e).keep fun z h => ?_, S.len, S.nd, S.fr, fun i ob a h1 h2 => ?_, S.nt, fun p hp => ?_⟩
  · rw [upd_ne (ne_of_none e hF)]; exact h
  · refine (S.ob i ob a h1 h2).mono (Ext.refl (H := H)) (upd_ne fun z => hr ?_)
    rw [← z]
    exact List.mem_of_getElem? h2
  · obtain ⟨ps, h1, h2, h3⟩ := S.tab p hp
    refine ⟨ps, ?_, h2, fun pos cv hc => ?_⟩
    · rw [upd_ne fun z => ?_]
      · exact h1
      · rw [z] at h1
        rcases hH with q | ⟨u, q, n, _⟩ <;> rw [q] at h1
        · cases h1
        · exact n _ (Option.some.inj h1)
    · obtain ⟨c, e1, e2⟩ := h3 pos cv hc
      refine ⟨c, e1, ?_⟩
      rw [upd_ne fun z => ?_]
      · exact e2
      · rw [z] at e2
        rcases hH with q | ⟨u, q, _, n⟩ <;> rw [q] at e2
        · cases e2
        · exact n _ (Option.some.inj e2)
/-- the state of the walk: acc, what stands in the new dict -/
structure DcA (tb : Tb) (K : PySem.W.Frag) (ρ : List Addr) (F H : Hp) (D : Addr) (ρ1 : List Addr) (F1 : Hp) (M1 : Hs) (H1 : Hp) (accT : List (T × T)) : Prop where
  e : Ext ρ F H ρ1 F1 H1
  S : Sim tb K ρ1 F1 M1 H1
  f : F1 D = none
  r : D ∉ ρ1
  a : ∃ accV, H1 D = some (.dK accV) ∧ RepD K F1 ρ1 accT accV
theorem DcA.step {D : Addr} {ρ1 ρ2 : List Addr} {F1 F2 : Hp} {M1 M2 : Hs} {H1 H2 : Hp} {accT : List (T × T)} (A : DcA tb K ρ F H D ρ1 F1 M1 H1 accT) (e : Ext ρ1 F1 H1 ρ2 F2 H2) (S : Sim tb K ρ2 F2 M2 H2) : DcA tb K ρ F H D ρ2 F2 M2 H2 accT := by
  obtain ⟨accV, h1, h2⟩ := A.a
  obtain ⟨k1, k2, k3⟩ := e.keepD (fun _ z => by cases z) h1 A.f A.r
  exact ⟨A.e.trans e, S, k2, k3, accV, k1, h2.mono e⟩
theorem DcA.push {D : Addr} {ρ1 : List Addr} {F1 : Hp} {M1 : Hs} {H1 : Hp} {accT : List (T × T)} (hD : H D = none) (A : DcA tb K ρ F H D ρ1 F1 M1 H1 accT) {y t : T} {u v : V} (ry : Rep K F1 ρ1 y u) (r : Rep K F1 ρ1 t v) (hy : isKey y = true) :
    ∃ acc k, u = kV k ∧ H1 D = some (.dK acc) ∧ acc.length = accT.length ∧ DcA tb K ρ F H D ρ1 F1 M1 (upd H1 D (.dK (putK acc k v))) (dPut accT y t) := by
  obtain ⟨accV, h1, h2⟩ := A.a
  obtain ⟨q, hq⟩ := isKey_iff.mp hy
  exact ⟨accV, q, key_rep hq ry, h1, h2.length.symm, A.e.late hD (fun _ z => by cases z), A.S.lateG A.f A.r (.inr ⟨_, h1, (fun _ z => by cases z), (fun _ z => by cases z)⟩), A.f, A.r, _, upd_same, h2.put hq r⟩
theorem dc_turn {ws : List Nat} {g : TgP} {c : TM} {k e : EM} {D : Addr} {ρ1 : List Addr} {F1 F2 : Hp} {M1 Mend : Hs} {H1 H2 : Hp} {accT r : List (T × T)} {t : T} {x : V} {n : Hs → Res (List (T × T))} {N : Hp → Prop} (hD : H D = none) (L : LocR K F ρ τ σ) (A : DcA tb K ρ F H D ρ1 F1 M1 H1 accT)
    (e2 : Ext ρ1 F1 H1 ρ1 F2 H2) (S2 : Sim tb K ρ1 F2 M1 H2) (rx : Rep K F2 ρ1 t x) (p : dcT g c k e (wipeT τ ws) t n M1 = .ok r Mend) (hl : accT.length + r.length ≤ lineN)
    (fin : ∀ ρ3 F3 M3 H3 accT' r', DcA tb K ρ F H D ρ3 F3 M3 H3 accT' → n M3 = .ok r' Mend → dMerge accT' r' = dMerge accT r → accT'.length + r'.length ≤ lineN → N H3) :
    tGP K ws g x (wipe σ ws) H2 fun σ2 H2 => wipe σ2 ws = wipe σ ws ∧ tTM tb K W0 c σ2 H2 fun b H3 => if b = true then tM tb K W0 k σ2 H3 fun y H4 => tM tb K W0 e σ2 H4 fun z H5 => ∃ kvs k, y = kV k ∧ H5 D = some (.dK kvs) ∧ kvs.length < sizeLine ∧ N (upd H5 D (.dK (putK kvs k z))) else N H3 := by
  have A2 := A.step e2 S2
  unfold dcT at p
  cases eg : g t (wipeT τ ws) with
  | none => rw [eg] at p; cases p
  | some τ1 =>
  rw [eg] at p
  dsimp only at p
  refine ⟨ρ1, F2, wipeT τ ws, τ1, t, S2.sub, ((L.wipe ws).mono A2.e), rx, eg, fun σ2 L2' hw => ⟨hw.trans (wipe_wipe fun _ h => h), ρ1, F2, M1, τ1, S2, L2', ?_⟩⟩
  cases ec : c τ1 M1 with
  | bad => rw [ec] at p; cases p
  | ex _ _ => rw [ec] at p; cases p
  | ok b M2 =>
  rw [ec] at p
  simp only [Res.bind] at p
  intro ρ3 F3 H3 e3 S3
  have A3 := A2.step e3 S3
  cases b with
  | false => exact fin ρ3 F3 M2 H3 accT r A3 p rfl hl
  | true =>
    rw [if_pos rfl] at p
    dsimp only
    rw [if_pos rfl]
    cases ek : k τ1 M2 with
    | bad => rw [ek] at p; cases p
    | ex _ _ => rw [ek] at p; cases p
    | ok y M3 =>
    rw [ek] at p
    simp only [Res.bind] at p
    refine ⟨ρ3, F3, M2, τ1, S3, L2'.mono e3, ?_⟩
    rw [ek]
    intro ρ4 F4 H4 e4 S4 u ru
    have A4 := A3.step e4 S4
    cases ee : e τ1 M3 with
    | bad => rw [ee] at p; cases p
    | ex _ _ => rw [ee] at p; cases p
    | ok v M4 =>
    rw [ee] at p
    simp only [Res.bind] at p
    refine ⟨ρ4, F4, M3, τ1, S4, (L2'.mono e3).mono e4, ?_⟩
    rw [ee]
    intro ρ5 F5 H5 e5 S5 w rw'
    have A5 := A4.step e5 S5
    split at p
    case isFalse => cases p
    rename_i hy
    cases en : n M4 with
    | bad => rw [en] at p; cases p
    | ex _ _ => rw [en] at p; cases p
    | ok r' M5 =>
    rw [en] at p
    cases p
    obtain ⟨acc, q, hu, h1, h2, A6⟩ := A5.push hD (ru.mono e5) rw' hy
    rw [List.length_cons] at hl
    have hp := dPut_len accT y v
    exact ⟨acc, q, hu, h1, by rw [← lineN_eq, h2]; omega, fin _ _ _ _ _ r' A6 en rfl (by omega)⟩
theorem dc_loop {ws : List Nat} {g : TgP} {c : TM} {k e : EM} {J : It} {src : Src} {D : Addr} {all : List (T × T)} {Mend : Hs} {Qd : Hp → Prop} (S : Sim tb K ρ F M H) (L : LocR K F ρ τ σ) (hJ : Its tb K J ρ F H src) (hD : H D = none) (p : dcS g c k e (wipeT τ ws) src M = .ok all Mend) (hl : all.length ≤ lineN)
    (fin : ∀ ρ' F' H', DcA tb K ρ F H D ρ' F' Mend H' (dMerge [] all) → Qd H') :
    ∃ Wv : Nat → Nat → Hp → Prop, (∃ m, Wv 0 m (upd H D (.dK []))) ∧ ∀ i m H, Wv i m H → (J.stop i H ∧ Qd H) ∨ (J.go i H ∧ ∃ Nx : Hp → Prop, (∀ H', Nx H' → ∃ m', m' < m ∧ Wv (i + 1) m' H') ∧ ∀ x H', J.yld i H x H' →
      tGP K ws g x (wipe σ ws) H' fun σ2 H2 => wipe σ2 ws = wipe σ ws ∧ tTM tb K W0 c σ2 H2 fun b H3 => if b = true then tM tb K W0 k σ2 H3 fun y H4 => tM tb K W0 e σ2 H4 fun z H5 => ∃ kvs k, y = kV k ∧ H5 D = some (.dK kvs) ∧ kvs.length < sizeLine ∧ Nx (upd H5 D (.dK (putK kvs k z))) else Nx H3) := by
  obtain ⟨hF, hr⟩ := S.none_of hD
  have A0 : DcA tb K ρ F H D ρ F M (upd H D (.dK [])) [] := ⟨(Ext.refl).late hD (fun _ z => by cases z), S.lateG hF hr (.inl hD), hF, hr, [], upd_same, .nil⟩
  cases src with
  | l ts =>
    refine ⟨fun i m H' => ∃ ρ1 F1 M1 accT r, DcA tb K ρ F H D ρ1 F1 M1 H' accT ∧ m + i = ts.length ∧ dcL g c k e (wipeT τ ws) (ts.drop i) M1 = .ok r Mend ∧ dMerge accT r = dMerge [] all ∧ accT.length + r.length ≤ lineN, ⟨ts.length, ρ, F, M, [], all, A0, rfl, by rw [List.drop_zero]; exact p, rfl, by rw [List.length_nil, Nat.zero_add]; exact hl⟩, ?_⟩
    rintro i m H1 ⟨ρ1, F1, M1, accT, r, A, hm, p1, ha, hz⟩
    obtain ⟨h1, h2⟩ := hJ i ρ1 F1 M1 H1 A.e A.S
    by_cases hi : i < ts.length
    · rw [List.drop_eq_getElem_cons hi] at p1
      obtain ⟨go, yl⟩ := h1 _ (List.getElem?_eq_getElem hi)
      refine .inr ⟨go, fun H' => ∃ ρ1 F1 M1 accT r, DcA tb K ρ F H D ρ1 F1 M1 H' accT ∧ (m - 1) + (i + 1) = ts.length ∧ dcL g c k e (wipeT τ ws) (ts.drop (i + 1)) M1 = .ok r Mend ∧ dMerge accT r = dMerge [] all ∧ accT.length + r.length ≤ lineN, fun H' q => ⟨m - 1, by omega, q⟩, fun x H' y => ?_⟩
      obtain ⟨F2, e2, S2, r2⟩ := yl x H' y
      exact dc_turn (n := dcL g c k e (wipeT τ ws) (ts.drop (i + 1))) hD L A e2 S2 r2 p1 hz fun ρ3 F3 M3 H3 accT' r' A3 k3 a3 z3 => ⟨ρ3, F3, M3, accT', r', A3, by omega, k3, a3.trans ha, z3⟩
    · have hi' : i = ts.length := by omega
      rw [List.drop_eq_nil_of_le (by omega)] at p1
      cases p1
      have ha' : accT = dMerge [] all := ha
      subst ha'
      exact .inl ⟨h2 hi', fin _ _ _ A⟩
  | f nx =>
    refine ⟨fun i m H' => ∃ ρ1 F1 M1 accT r, DcA tb K ρ F H D ρ1 F1 M1 H' accT ∧ dcF g c k e (wipeT τ ws) nx m i M1 = .ok r Mend ∧ dMerge accT r = dMerge [] all ∧ accT.length + r.length ≤ lineN, ⟨1000000, ρ, F, M, [], all, A0, p, rfl, by rw [List.length_nil, Nat.zero_add]; exact hl⟩, ?_⟩
    rintro i m H1 ⟨ρ1, F1, M1, accT, r, A, p1, ha, hz⟩
    obtain ⟨h1, h2⟩ := hJ i ρ1 F1 M1 H1 A.e A.S
    cases m with
    | zero => cases p1
    | succ m =>
      unfold dcF at p1
      cases en : nx i M1 with
      | none => rw [en] at p1; cases p1
      | some o =>
        rw [en] at p1
        cases o with
        | none =>
          cases p1
          have ha' : accT = dMerge [] all := ha
          subst ha'
          exact .inl ⟨h2 en, fin _ _ _ A⟩
        | some t =>
          obtain ⟨go, yl⟩ := h1 _ en
          refine .inr ⟨go, fun H' => ∃ ρ1 F1 M1 accT r, DcA tb K ρ F H D ρ1 F1 M1 H' accT ∧ dcF g c k e (wipeT τ ws) nx m (i + 1) M1 = .ok r Mend ∧ dMerge accT r = dMerge [] all ∧ accT.length + r.length ≤ lineN, fun H' q => ⟨m, Nat.lt_succ_self m, q⟩, fun x H' y => ?_⟩
          obtain ⟨F2, e2, S2, r2⟩ := yl x H' y
          exact dc_turn (n := dcF g c k e (wipeT τ ws) nx m (i + 1)) hD L A e2 S2 r2 p1 hz fun ρ3 F3 M3 H3 accT' r' A3 k3 a3 z3 => ⟨ρ3, F3, M3, accT', r', A3, k3, a3.trans ha, z3⟩
/-- the list is then known as fixed -/
theorem DcA.fix {D : Addr} {ρ1 : List Addr} {F1 : Hp} {M1 : Hs} {H1 : Hp} {all : List (T × T)} (hD : H D = none) (A : DcA tb K ρ F H D ρ1 F1 M1 H1 all) : ∃ F2, Ext ρ F H ρ1 F2 H1 ∧ Sim tb K ρ1 F2 M1 H1 ∧ Rep K F2 ρ1 (.dct all) (.ref D) := by
  obtain ⟨accV, h1, h2⟩ := A.a
  have f0 := A.f
  have fk : ∀ a o, F1 a = some o → upd F1 D (.dK accV) a = some o := fun a o e => by rw [upd_ne (ne_of_none e f0)]; exact e
  have ex : Ext ρ1 F1 H ρ1 (upd F1 D (.dK accV)) H := ⟨⟨[], (List.append_nil _).symm⟩, fun _ h => .inl h, fk, fun _ _ h _ _ => h, fun a o h k => ⟨o, h, k⟩, fun a o e => by
    by_cases q : a = D
    · subst q; exact .inr fun o z => by rw [hD] at z; cases z
    · rw [upd_ne q] at e; exact .inl e⟩
  refine ⟨upd F1 D (.dK accV), ⟨A.e.r, A.e.n, fun a o e => fk a o (A.e.f a o e), A.e.h, A.e.t, fun a o e => ?_⟩, ⟨fun a o e => ?_, A.S.len, A.S.nd, fun a ha => ?_, fun i ob a q1 q2 => (A.S.ob i ob a q1 q2).mono ex rfl, fun a o e => ?_, A.S.tab⟩, Rep.dct all accV D upd_same (h2.mono ex)⟩
  · by_cases q : a = D
    · subst q; exact .inr fun o z => by rw [hD] at z; cases z
    · rw [upd_ne q] at e; exact A.e.g a o e
  · by_cases q : a = D
    · subst q; rw [upd_same] at e; cases e; exact .inl h1
    · rw [upd_ne q] at e; exact A.S.sub a o e
  · rw [upd_ne fun z => A.r (by rw [← z]; exact ha)]; exact A.S.fr a ha
  · by_cases q : a = D
    · subst q; rw [upd_same] at e; cases e; exact fun _ z => by cases z
    · rw [upd_ne q] at e; exact A.S.nt a o e
theorem DcA.var {D : Addr} {ρ1 : List Addr} {F1 : Hp} {M1 : Hs} {H1 : Hp} {all : List (T × T)} (hD : H D = none) (A : DcA tb K ρ F H D ρ1 F1 M1 H1 all) :
    Ext ρ F H (ρ1 ++ [D]) F1 H1 ∧ Sim tb K (ρ1 ++ [D]) F1 (M1 ++ [.dct all]) H1 ∧ Rep K F1 (ρ1 ++ [D]) (.ref M1.length) (.ref D) := by
  obtain ⟨accV, h1, h2⟩ := A.a
  have ex : Ext ρ1 F1 H (ρ1 ++ [D]) F1 H := Ext.grow hD fun _ _ h => h
  have S := A.S
  refine ⟨⟨?_, fun a m => ?_, A.e.f, A.e.h, A.e.t, A.e.g⟩, ⟨S.sub, by simp [S.len], ?_, fun a ha => ?_, fun i o a q1 q2 => ?_, S.nt, S.tab⟩, .ref _ _ (by rw [← S.len, List.getElem?_append_right (Nat.le_refl _), Nat.sub_self]; rfl)⟩
  · obtain ⟨l, hl⟩ := A.e.r
    exact ⟨l ++ [D], by rw [hl, List.append_assoc]⟩
  · rcases List.mem_append.mp m with m | m
    · exact A.e.n a m
    · rw [List.mem_singleton] at m
      subst m
      exact .inr fun o z => by rw [hD] at z; cases z
  · rw [List.nodup_append]
    refine ⟨S.nd, by simp, fun a ha b hb e => ?_⟩
    rw [List.mem_singleton] at hb
    subst hb; subst e
    exact A.r ha
  · rcases List.mem_append.mp ha with q | q
    · exact S.fr a q
    · rw [List.mem_singleton] at q; subst q; exact A.f
  · by_cases hi : i < M1.length
    · rw [List.getElem?_append_left hi] at q1
      rw [List.getElem?_append_left (by rw [S.len]; exact hi)] at q2
      exact (S.ob i o a q1 q2).mono ex rfl
    · have e1 : i = M1.length := by
        have := (List.getElem?_eq_some_iff.mp q1).1
        rw [List.length_append, List.length_singleton] at this
        omega
      subst e1
      rw [List.getElem?_append_right (Nat.le_refl _), Nat.sub_self] at q1
      rw [List.getElem?_append_right (by rw [S.len]; exact Nat.le_refl _), S.len, Nat.sub_self] at q2
      simp only [List.getElem?_cons_zero, Option.some.injEq] at q1 q2
      subst q1; subst q2
      exact ⟨accV, h1, h2.mono ex⟩

theorem dc_of {it : IM} {ws : List Nat} {g : TgP} {c : TM} {k e : EM} {Q : VK} (h : tM tb K W (mDC it ws g c k e) σ H Q) : tDc (tI tb K W it) (tGP K ws g) (tTM tb K W0 c) (tM tb K W0 k) (tM tb K W0 e) ws σ H Q := by
  obtain ⟨ρ, F, M, τ, S, L, p⟩ := h
  refine ⟨ρ, F, M, τ, S, L, (RP.bind p).imp fun src ρ1 F1 H1 e1 q J hJ D hD => ?_⟩
  obtain ⟨M1, _, S1, p1⟩ := q
  cases el : dcS g c k e (wipeT τ ws) src M1 with
  | bad => rw [el] at p1; exact p1.elim
  | ex _ _ => rw [el] at p1; exact p1.elim
  | ok ts M2 =>
  rw [el] at p1
  simp only [dcK] at p1
  split at p1
  case isFalse => exact p1.elim
  rename_i hl
  refine dc_loop S1 (L.mono e1) hJ hD el hl fun ρ' F' H' A => ?_
  obtain ⟨F2, e2, S2, r2⟩ := A.fix hD
  exact p1 ρ' F2 H' e2 S2 _ r2
theorem dc_ofR {it : IM} {ws : List Nat} {g : TgP} {c : TM} {k e : EM} {Q : VK} (h : tM tb K W (mDCR it ws g c k e) σ H Q) : tDc (tI tb K W it) (tGP K ws g) (tTM tb K W0 c) (tM tb K W0 k) (tM tb K W0 e) ws σ H Q := by
  obtain ⟨ρ, F, M, τ, S, L, p⟩ := h
  refine ⟨ρ, F, M, τ, S, L, (RP.bind p).imp fun src ρ1 F1 H1 e1 q J hJ D hD => ?_⟩
  obtain ⟨M1, _, S1, p1⟩ := q
  cases el : dcS g c k e (wipeT τ ws) src M1 with
  | bad => rw [el] at p1; exact p1.elim
  | ex _ _ => rw [el] at p1; exact p1.elim
  | ok ts M2 =>
  rw [el] at p1
  simp only [dcK] at p1
  split at p1
  case isFalse => exact p1.elim
  rename_i hl
  refine dc_loop S1 (L.mono e1) hJ hD el hl fun ρ' F' H' A => ?_
  obtain ⟨e2, S2, r2⟩ := A.var hD
  exact p1 _ _ H' e2 S2 _ r2
theorem mE_dc {own : List (Str × Nat)} {kx vx tg iter : Expr} {ifs : List Expr} {scope : Scope} {pos : Pos} {it : IM} {g : TgP} {c : TM} {k e : EM} (R : Bool) (hN : X.N.Nodup) (hi : PI X tg iter (tI tb X.K W it)) (ok : BlkOk X.N X.env.scope scope own)
    (hg : ∀ (s : Shared) (H : Hp) (C : Addr) (cl : List (Str × Addr)) (fp : List Addr), PG (X.blk s H scope (compEnvC scope cl C X.env) fp) tg (tGP X.K (own.map (·.2)) g))
    (ht : ∀ (s : Shared) (H : Hp) (C : Addr) (cl : List (Str × Addr)) (fp : List Addr), PTs (X.blk s H scope (compEnvC scope cl C X.env) fp) ifs (tTM tb X.K W0 c))
    (hk : ∀ (s : Shared) (H : Hp) (C : Addr) (cl : List (Str × Addr)) (fp : List Addr), PE (X.blk s H scope (compEnvC scope cl C X.env) fp) kx (tM tb X.K W0 k))
    (he : ∀ (s : Shared) (H : Hp) (C : Addr) (cl : List (Str × Addr)) (fp : List Addr), PE (X.blk s H scope (compEnvC scope cl C X.env) fp) vx (tM tb X.K W0 e)) (hc : X.calm = true := by rfl) (hs : ∀ x, foldedSetIterable iter X.env x = pure x := by intro _; rfl) :
    PE X (.DictComp kx vx [⟨tg, iter, ifs, 0⟩] scope pos) (tM tb X.K W (if R then mDCR it (own.map (·.2)) g c k e else mDC it (own.map (·.2)) g c k e)) := pe_imp (pe_dc hc hN hi ok hg ht hk he hs) fun _ _ _ h => by
  cases R with
  | true => exact dc_ofR h
  | false => exact dc_of h
/-- name = {..} on one line, the name a local -/
theorem mS_dc (i : Nat) {own : List (Str × Nat)} {y : Str} {py : Pos} {kx vx tg iter : Expr} {ifs : List Expr} {scope : Scope} {pos spos : Pos} {it : IM} {g : TgP} {c : TM} {k e : EM} (R : Bool) (hN : X.N.Nodup) (hi : PI X tg iter (tI tb X.K W it)) (ok : BlkOk X.N X.env.scope scope own)
    (hg : ∀ (s : Shared) (H : Hp) (C : Addr) (cl : List (Str × Addr)) (fp : List Addr), PG (X.blk s H scope (compEnvC scope cl C X.env) fp) tg (tGP X.K (own.map (·.2)) g))
    (ht : ∀ (s : Shared) (H : Hp) (C : Addr) (cl : List (Str × Addr)) (fp : List Addr), PTs (X.blk s H scope (compEnvC scope cl C X.env) fp) ifs (tTM tb X.K W0 c))
    (hk : ∀ (s : Shared) (H : Hp) (C : Addr) (cl : List (Str × Addr)) (fp : List Addr), PE (X.blk s H scope (compEnvC scope cl C X.env) fp) kx (tM tb X.K W0 k))
    (he : ∀ (s : Shared) (H : Hp) (C : Addr) (cl : List (Str × Addr)) (fp : List Addr), PE (X.blk s H scope (compEnvC scope cl C X.env) fp) vx (tM tb X.K W0 e))
    (hsw : swapsWith (.DictComp kx vx [⟨tg, iter, ifs, 0⟩] scope pos) (some (.Name y py)) spos.line X.env = pure true) (hyl : X.env.scope.names.lookup y = some .local := by rfl) (hy : X.N[i]? = some y := by rfl) (hc : X.calm = true := by rfl) (hs : ∀ x, foldedSetIterable iter X.env x = pure x := by intro _; rfl) :
    PS X (.Assign [.Name y py] (.DictComp kx vx [⟨tg, iter, ifs, 0⟩] scope pos) spos) (tSM tb X.K W (mSet i (if R then mDCR it (own.map (·.2)) g c k e else mDC it (own.map (·.2)) g c k e))) := by
  refine ⟨fun pins s σ H D I h => ?_⟩
  rw [exec_Assign_Name_used _ _ _ _ hsw]
  refine wpAny_bind (wpAny_standAt (wpAny_bind ?_))
  show wpAny _ X.A (do let _ ← comprehension (.DictComp kx vx [⟨tg, iter, ifs, 0⟩] scope pos) scope X.env (firstIterPos [⟨tg, iter, ifs, 0⟩] pos) newDict false (eval iter X.env) (some (assign (.Name y py) X.env))) _ _ s
  have h2 : ∀ m : EM, tSM tb X.K W (mSet i m) D σ H → tM tb X.K W m σ H fun x H1 => gName i x σ H1 D.nx := fun m h => by
    obtain ⟨ρ, F, M, τ, S, L, p⟩ := h
    refine ⟨ρ, F, M, τ, S, L, (SP1.st p).imp fun x ρ1 F1 H1 e1 q v r => ?_⟩
    obtain ⟨M1, _, S1, p1⟩ := q
    exact p1 ρ1 F1 H1 _ .refl S1 ((L.mono e1).set r i)
  have h : tDc (tI tb X.K W it) (tGP X.K (own.map (·.2)) g) (tTM tb X.K W0 c) (tM tb X.K W0 k) (tM tb X.K W0 e) (own.map (·.2)) σ H (fun x H1 => gName i x σ H1 D.nx) := by
    cases R with
    | true => exact dc_ofR (h2 _ h)
    | false => exact dc_of (h2 _ h)
  refine wpAny_bind (thn (dc_core (Qf := fun _ s' => SP X pins D .next s') hc hN I hi ok hg ht hk he hs h fun L C s' m H' I' q hn f => ?_) fun _ s' hq => wpAny_pure (wpAny_pure hq))
  show wpAny _ _ (assign (.Name y py) X.env (.ref L)) _ _ _
  refine wpAny_assign_Name (store_ok2 (v := V.ref L) I' hN hy (.inl hyl) rfl (fun s2 I2 ⟨a, sb, ha⟩ => ?_) (.inr hyl))
  obtain ⟨f0, f1, f2, f3, f4, f5⟩ := f
  have haC : C ≠ a := by
    rcases ha with z | z
    · rw [z]; exact f1
    · exact fun e => f4 y a z e.symm
  refine ⟨m, hn.sameBut sb haC, fun h3 sb3 => ?_⟩
  exact ⟨_, H', I2.turned (t' := s2.toks) (fun b o hb e => (sb3.2 b hb).trans e) f0 f1 f3 f4 f5, q⟩
theorem swD_true {kx vx : Expr} {gs : List Comprehension} {scope : Scope} {pos py : Pos} {y : Str} {l : Nat} {env : Env} (hk : env.scope.kind = .function) (hy : env.scope.names.lookup y = some .local) (hl : (py.line == pos.line) = true)
    (ha : (scope.names.any fun (n, k) => n == y && (k == .local || k == .cell)) = false) : swapsWith (.DictComp kx vx gs scope pos) (some (.Name y py)) l env = pure true := by
  have ky : env.kindOf y = some .local := hy
  have hb : env.blockKind = .function := by unfold Env.blockKind; rw [hk]; rfl
  unfold swapsWith
  simp only [hb, ky, ha, Expr.pos, hl]
  rfl
end
end Mi
namespace Mi
open PySem PySem.Spec PyProof.Rows L2 GenW

/-! ### exceptions that leave a frame while the iterators at ex may have turned -/
structure UBx (fs ex : List Addr) (H H' : Hp) (h B h' : Heap) : Prop where
  keep : ∀ b o, h.get? b = some o → H b = none → b ∉ fs → b ∉ ex → B.get? b = some o
  slot : ∀ b o, h.get? b = some o → b ∈ fs → ∃ sl, h'.get? b = some { o with slots := sl }
  free : ∀ b o, h.get? b = some o → H b = none → b ∉ ex → H' b = none
  there : ∀ b o, h.get? b = some o → b ∉ fs → b ∉ ex → ∃ o', B.get? b = some o'
  tups : ∀ b xs, H b = some (.tup xs) → H' b = some (.tup xs)
  frzs : ∀ b o xs, H b = some (.frz o xs) → H' b = some (.frz o xs)
  tbls : ∀ b ps, H b = some (.tbl ps) → ∃ more, H' b = some (.tbl (ps ++ more))
def CXx (P : Program) (w : World) (outer : List Env) (ex : List Addr) (H : Hp) (s : Shared) (E : XK) (u : Value) (s' : Shared) : Prop :=
  ∃ (a : Addr) (B : Heap) (H' : Hp) (cls : Value) (d : Option Addr), u = .ref a ∧ HandSPX.FlyingZ B outer a (Zc cls d) s'.heap ∧ HOk P w H' B ∧ UBx (frs outer) ex H H' s.heap B s'.heap ∧ H' a = none ∧ s'.os = s.os ∧ AllBare s'.gens ∧ E cls d H'
def ExOk' (X : Cx) (pins : List (Addr × Obj)) (ex : List Addr) : Prop := ∀ b ∈ ex, (b ∈ X.ex ∨ X.s_0.heap.objs.size ≤ b) ∧ b ≠ X.env.locals ∧ (∀ x c, X.env.cells.lookup x = some c → c ≠ b) ∧ ∀ p ∈ X.pn ++ pins, p.1 ≠ b
section
variable {X : Cx} {pins : List (Addr × Obj)} {σ : L2.St} {H : Hp} {s s' : Shared} {W : WX} {E : XK} {ex : List Addr}
theorem xe_of_callx (I : Inv X pins σ H s) (hex : ExOk' X pins ex) (hW : ∀ cls d H', E cls d H' → W cls d σ H') {u : Value} (c : CXx X.prog X.w X.stack ex H s E u s') : XE X W u s' := by
  obtain ⟨a, B, H1, cls, d, rfl, fl, hok, ub, na, os, ag, hE⟩ := c
  obtain ⟨G, g1, g2⟩ := restrict s'.heap fun z => (B.get? z).isSome || decide (z ∈ frs X.stack)
  have gB : ∀ z o, B.get? z = some o → G.get? z = some o := fun z o e => by rw [g1 z (by simp [e])]; exact fl.1 z o e
  have gF : ∀ z, z ∈ frs X.stack → G.get? z = s'.heap.get? z := fun z hz => g1 z (by simp [hz])
  have og : ∀ z o, G.get? z = some o → s'.heap.get? z = some o ∧ ((B.get? z).isSome = true ∨ z ∈ frs X.stack) := fun z o e => by
    cases q : ((B.get? z).isSome || decide (z ∈ frs X.stack)) with
    | false => rw [g2 z q] at e; cases e
    | true => rw [g1 z q] at e; exact ⟨e, by simpa [Bool.or_eq_true] using q⟩
  refine ⟨a, B, { s with heap := G, gens := s'.gens, drawn := s'.drawn, toks := s'.toks }, pins, σ, H1, cls, d, rfl, ?_, fun z o e hz => ?_, Heap.UpToSlots.of_keeps fun z o e => (og z o e).1, .inr (.inl fl), na, os, ag, hW _ _ _ hE⟩
  · refine I.call (ch := ex) ⟨fun z o e n hz hx => gB z o (ub.keep z o e n hz hx), fun z o e n hz _ => ?_, fun z o e n hx => ub.free z o e n hx, fun z o e hx => ?_, ub.tups, ub.frzs, ub.tbls⟩ (hok.kept gB) ag hex
    · obtain ⟨sl, q⟩ := ub.slot z o e hz
      exact ⟨sl, by rw [gF z hz]; exact q⟩
    · by_cases hz : z ∈ frs X.stack
      · obtain ⟨sl, q⟩ := ub.slot z o e hz; exact ⟨_, by rw [gF z hz]; exact q⟩
      · obtain ⟨o', q⟩ := ub.there z o e hz hx; exact ⟨o', gB z o' q⟩
  · obtain ⟨e', h⟩ := og z o e
    rcases h with h | h
    · obtain ⟨o', q⟩ := Option.isSome_iff_exists.mp h
      have y := fl.1 z o' q
      rw [e'] at y; cases y; exact q
    · exact absurd h hz
/-- it leaves the frame; the iterators at X.ex may have turned, what is pinned stands -/
theorem xe_leavex (hs : X.stack = X.env :: X.outer) (hf : X.env.frame = some X.env.locals) {E₁ : Value → Shared → Prop} (hW : ∀ cls d σ H, W cls d σ H → E cls d H) {u : Value} (x : XE X W u s') :
    wpAny (model X.prog X.w) X.A (leaving X.env u) (fun _ s2 => CXx X.prog X.w X.outer X.ex X.H_0 X.s_0 E u s2 ∧ ∀ p ∈ X.pn, s2.heap.get? p.1 = some p.2) E₁ s' := by
  obtain ⟨a, B, sI, pins, σ, H, cls, d, rfl, I, nb, up, sky, na, os, ag, w⟩ := x
  have hfr : X.A.frames = some (X.env :: X.outer) := by rw [I.ok.frames, hs]
  have old : ∀ z o, X.s_0.heap.get? z = some o → z ∉ X.fs → z ∉ frs X.stack := fun z o e hz hm => by
    rcases List.mem_cons.mp (I.stkSub z hm) with q | q
    · have h1 := Heap.lt_size e
      rw [q] at h1
      exact absurd (Nat.lt_of_lt_of_le h1 I.ok.above) (Nat.lt_irrefl _)
    · exact hz q
  have pinB : ∀ p ∈ X.pn, B.get? p.1 = some p.2 := fun p hp => by
    obtain ⟨h1, _, h3, h4, _⟩ := I.pin p (List.mem_append_left _ hp)
    exact nb p.1 p.2 h1 fun hm => (List.mem_cons.mp (I.stkSub p.1 hm)).elim h3 h4
  have fin : ∀ h', HandSPX.FlyingZ B X.outer a (Zc cls d) h' → s'.heap.UpToSlots h' → (CXx X.prog X.w X.outer X.ex X.H_0 X.s_0 E (.ref a) { s' with heap := h' } ∧ ∀ p ∈ X.pn, ({ s' with heap := h' } : Shared).heap.get? p.1 = some p.2) := fun h' fl up' => by
    refine ⟨⟨a, B, H, cls, d, rfl, fl, I.inGround nb, ⟨fun z o e n hz hx => nb z o (I.base.keep z o e n hz hx) (old z o e hz), fun z o e hz => ?_, fun z o e n hx => I.base.free z o e n hx, fun z o e hz hx => ?_, I.base.tups, I.base.frzs, I.base.tbls⟩,
      na, os.trans I.os, ag, hW _ _ _ _ w⟩, fun p hp => fl.1 p.1 p.2 (pinB p hp)⟩
    · obtain ⟨_, o₀, e₀, hnf⟩ := I.ok.funs.mem hz
      rw [e] at e₀
      cases e₀
      obtain ⟨sl, e1⟩ := I.base.slot z o e (I.ok.frf z hz) hz (fun q => I.ok.exfs z q hz)
      obtain ⟨sl2, e2⟩ := up z _ e1 hnf
      obtain ⟨sl3, e3⟩ := up' z _ e2 hnf
      exact ⟨sl3, e3⟩
    · obtain ⟨o', e1⟩ := I.base.there z o e hx
      exact ⟨o', nb z o' e1 (old z o e hz)⟩
  rw [hs] at sky
  rcases sky with ⟨hB, hn, hl, oe, vs, he, hz, hd, h1⟩ | fl | hd
  · exact HandSPX.leaving_firstZ Zc.steady hfr hl hf he hB hn hd h1 hz fin
  · exact HandSPX.leaves_onZ Zc.steady hfr hf fl fin
  · exact HandSPX.leaves_heldZ hf hd fin
end

/-! ### the context of a generator expression's body -/
abbrev gxEnv (X : Cx) (scope : Scope) (C : Addr) (code : Value) : Env := genEnv scope (cloFrom X.env.cells scope.names []) C code builtinsNs X.env
abbrev gxCx (X : Cx) (A : Around) (s : Shared) (H : Hp) (E : XK) (scope : Scope) (C : Addr) (code : Value) (fp : List Addr) (pn : List (Addr × Obj)) : Cx where
  prog := X.prog
  w := X.w
  K := X.K
  mg := X.mg
  base := X.base
  A := A.deeper (gxEnv X scope C code)
  N := X.N
  s_0 := s
  H_0 := H
  env := gxEnv X scope C code
  outer := X.stack
  stack := gxEnv X scope C code :: X.stack
  ex := fp
  fn := fun _ => false
  calm := true
  pn := pn
  xe := fun e s' => wpAny (model X.prog X.w) (A.deeper (gxEnv X scope C code)) (leaving (gxEnv X scope C code) e) (fun _ s2 => CXx X.prog X.w X.stack fp H s E e s2 ∧ ∀ p ∈ pn, s2.heap.get? p.1 = some p.2) (fun _ _ => False) s'
theorem takes_gx {X : Cx} {A : Around} {s : Shared} {H : Hp} {E : XK} {scope : Scope} {C : Addr} {code : Value} {fp : List Addr} {pn : List (Addr × Obj)} : Takes (gxCx X A s H E scope C code fp pn) (fun cls d _ H' => E cls d H') := fun u s' x =>
  xe_leavex (X := gxCx X A s H E scope C code fp pn) (W := fun cls d _ H' => E cls d H') (E := E) rfl rfl (fun _ _ _ _ h => h) x
/-- what is asked of the text: its own names are places of N -/
structure GxS (N : List Str) (sc scope : Scope) (own : List (Str × Nat)) : Prop where
  blk : BlkOk N sc scope own
  co : scope.isCoroutine = false
  cell : ∀ y ∈ scope.names, y.2 ≠ .cell
  dot : scope.names.lookup (".0" : Str) = some NameKind.local
def gxC (N : List Str) (sc scope : Scope) (own : List (Str × Nat)) : Bool :=
  blkC N sc scope own && !scope.isCoroutine && scope.names.all (fun y => !decide (y.2 = .cell)) && decide (scope.names.lookup (".0" : Str) = some NameKind.local)
theorem gxS_by {N : List Str} {sc scope : Scope} {own : List (Str × Nat)} (h : gxC N sc scope own = true) : GxS N sc scope own := by
  unfold gxC at h
  simp only [Bool.and_eq_true, Bool.not_eq_true', decide_eq_true_eq, List.all_eq_true] at h
  obtain ⟨⟨⟨h1, h2⟩, h3⟩, h4⟩ := h
  exact ⟨blkOk_by h1, h2, fun y hy => by simpa using h3 y hy, h4⟩
section
variable {X : Cx} {pX pins pn : List (Addr × Obj)} {σ : L2.St} {H : Hp} {s s2 : Shared} {A : Around} {E : XK} {scope : Scope} {own : List (Str × Nat)} {code : Value} {fp : List Addr}
theorem GxS.has (G : GxS X.N X.env.scope scope own) (I : Inv X pX σ H s) : ∀ y ∈ scope.names, y.2 = .free → ∃ c, X.env.cells.lookup y.1 = some c := fun y hy e => (G.blk.free y hy e).elim (fun k => I.ok.has _ (.inl k)) fun k => I.ok.has _ (.inr k)
theorem gx_start (I : Inv X pX σ H s) (G : GxS X.N X.env.scope scope own) (hN : X.N.Nodup) (hfp : ∀ b ∈ fp, FpOk X pX H b ∧ b < s.heap.objs.size) (hd : A.handled = none) (hfr : A.frames = some X.stack) (hn : ∃ m, s2.heap.Ns s.heap.objs.size m)
    (kp : ∀ b o, s.heap.get? b = some o → s2.heap.get? b = some o) (hos : s2.os = s.os) (hba : AllBare s2.gens) (hpn : ∀ p ∈ pn ++ pins, s2.heap.get? p.1 = some p.2 ∧ s.heap.objs.size < p.1 ∧ ∀ v, p.2.data ≠ .cell v) :
    Inv (gxCx X A s H E scope s.heap.objs.size code fp pn) pins (wipe σ (own.map (·.2))) H s2 := by
  have hfree := G.has I
  have cm : ∀ {y c}, (cloFrom X.env.cells scope.names []).lookup y = some c → X.env.cells.lookup y = some c := fun {y c} e => by
    rcases cloFrom_mem (PySem.mem_of_lookup e) with hm | ⟨h1, h2⟩
    · cases hm
    · obtain ⟨c1, hc⟩ := hfree _ h1 rfl
      have hc : X.env.cells.lookup y = some c1 := hc
      rw [h2, hc] <;> rfl
  have look : ∀ {y}, scope.names.lookup y = some .free → ∃ c, (cloFrom X.env.cells scope.names []).lookup y = some c := fun {y} hl => mem_lookup (cloFrom_has (cells := X.env.cells) (acc := []) (show (y, NameKind.free) ∈ scope.names from PySem.mem_of_lookup hl))
  have cellK : ∀ {c : Addr} {v : Option Value}, s.heap.IsCell c v → s2.heap.IsCell c v := fun {c v} ⟨o, ho, hd⟩ => ⟨_, kp _ _ ho, hd⟩
  refine ⟨⟨I.ok.mod, G.blk.kind, I.ok.glob, rfl, Nat.le_refl _, fun y z c e1 e2 => I.ok.inj y z c (cm e1) (cm e2), fun y hy => ?_, fun y c z _ => (nomatch (show false = true from z)), fun _ => hd, Around.frames_deeper hfr, .inr ⟨rfl, rfl⟩, fun b hb => ⟨?_, fun y c e => (hfp b hb).1.2.2.2.2.1 y c (cm e)⟩, I.bs, Nat.le_trans I.ok.bsz I.sz,
      fun b o e hb => ?_, fun b hb z => ?_, I.stack, I.stkFree⟩, hos, hba, Un.kept kp, ?_, fun y c e => ?_, I.hok.fresh (Nat.le_refl _), fun y c e => I.freeC y c (cm e), fun p hp => ?_, I.hok.kept kp, by rw [wipe_length]; exact I.len⟩
  · have hy : scope.names.lookup y = some .cell ∨ scope.names.lookup y = some .free := hy
    rcases hy with hy | hy
    · exact absurd rfl (G.cell _ (PySem.mem_of_lookup hy))
    · exact look hy
  · exact Nat.ne_of_lt (hfp b hb).2
  · rcases (hfp b hb).1.2.2.2.1 with z | z
    · exact I.ok.noex b o e z
    · exact absurd (Nat.lt_of_lt_of_le (Heap.lt_size e) (Nat.le_trans I.ok.bsz z)) (Nat.lt_irrefl _)
  · exact (List.mem_cons.mp (I.stkSub b z)).elim (hfp b hb).1.2.1 (hfp b hb).1.2.2.1
  · obtain ⟨m, hn⟩ := hn
    refine ⟨m, hn, fun i y v e1 e2 e3 => ?_⟩
    obtain ⟨e2, hne⟩ := wipe_some e2
    have e3 : Vis scope y := e3
    rcases e3 with k | k | k
    · rcases G.blk.own _ (PySem.mem_of_lookup k) (.inl rfl) with e' | e'
      · obtain ⟨p, hp, hpy⟩ := List.mem_map.mp e'
        have q := G.blk.ix p hp
        rw [show p.1 = y from hpy] at q
        exact absurd (List.mem_map.mpr ⟨p, hp, nodup_ix hN q e1⟩) hne
      · exact absurd (List.mem_of_getElem? e1) e'
    · exact absurd rfl (G.cell _ (PySem.mem_of_lookup k))
    · obtain ⟨m', hn', hl⟩ := I.loc
      obtain ⟨w', r, q⟩ := hl i y v e1 e2 ((G.blk.free _ (PySem.mem_of_lookup k) rfl).elim (fun k => .inr (.inl k)) fun k => .inr (.inr k))
      obtain ⟨c2, h2⟩ := look k
      refine ⟨w', r, .inr ⟨.inr k, c2, h2, ?_⟩⟩
      rcases q with ⟨k', _⟩ | ⟨_, c3, e', z⟩
      · have k' : X.env.scope.names.lookup y = some .local := k'
        rcases G.blk.free _ (PySem.mem_of_lookup k) rfl with k2 | k2 <;> rw [show X.env.scope.names.lookup y = _ from k2] at k' <;> cases k'
      · rw [cm h2] at e'
        cases e'
        exact cellK z
  · obtain ⟨w', z⟩ := I.cell y c (cm e)
    exact ⟨w', cellK z⟩
  · obtain ⟨h1, h2, h3⟩ := hpn p hp
    exact ⟨h1, I.hok.fresh (Nat.le_of_lt h2), Nat.ne_of_gt h2, fun z => (List.mem_cons.mp (I.stkSub _ z)).elim (fun e => by rw [e] at h2; exact absurd (Nat.lt_trans I.lt h2) (Nat.lt_irrefl _)) (I.nofs (Nat.le_of_lt h2)), h3⟩
end
end Mi
namespace Mi
open PySem PySem.Spec PyProof.Rows L2 GenW

/-! ### the body of a generator expression -/
/-- who eats what a generator hands out: what it does with an item, what is wanted at the end -/
structure Cons (C : Type) where
  recv : C → V → Hp → (C → Hp → Prop) → Prop
  done : C → Hp → Prop
section
variable {C : Type}
def GxI (Y : Cx) (fp : List Addr) (tn : Nat → Heap → Prop) (σw : L2.St) (P : C → List (Addr × Obj) → Prop) (s₀ : Shared) (i : Nat) (c : C) (H : Hp) (s : Shared) : Prop := ∃ pins, Inv Y pins σw H s ∧ P c pins ∧ tn i s.heap ∧ (∀ b ∈ fp, H b = none) ∧ ∀ p ∈ pins, s₀.heap.get? p.1 = some p.2
def GxY (Y : Cx) (fp : List Addr) (tn : Nat → Heap → Prop) (σw : L2.St) (P : C → List (Addr × Obj) → Prop) (K : Cons C) : Protocol := fun n s₀ v s kap =>
  ∃ i c y H Nx, RelV y v ∧ GxI Y fp tn σw P s₀ i c H s ∧ K.recv c y H Nx ∧ ∀ c' H' s', Nx c' H' → GxI Y fp tn σw P s' i c' H' s' → 0 < n ∧ kap (.send .none) s'
def GxR (Y : Cx) (fp : List Addr) (σw : L2.St) (P : C → List (Addr × Obj) → Prop) (K : Cons C) (Er : Value → Shared → Prop) : GenEnd := fun n s₀ r s =>
  ((r = .ok (.ret .none) ∨ r = .ok .next) ∧ ∃ c H pins, Inv Y pins σw H s ∧ P c pins ∧ (∀ b ∈ fp, H b = none) ∧ (∀ p ∈ pins, s₀.heap.get? p.1 = some p.2) ∧ K.done c H) ∨ ∃ e, r = .error e ∧ Er e s
/-- the turns; Wv: by the turn, a measure, the eater's state -/
def GxT (K : Cons C) (J : It) (Wv : Nat → Nat → C → Hp → Prop) (g : TG) (tt : TT) (te : TE) (ws : List Nat) (σ : L2.St) : Prop := ∀ i m c H, Wv i m c H → (J.stop i H ∧ K.done c H) ∨ (J.go i H ∧ ∃ Nx : C → Hp → Prop, (∀ c' H', Nx c' H' → ∃ m', m' < m ∧ Wv (i + 1) m' c' H') ∧
  ∀ x H', J.yld i H x H' → g x (wipe σ ws) H' fun σ2 H2 => wipe σ2 ws = wipe σ ws ∧ tt σ2 H2 fun b H3 => if b = true then te σ2 H3 fun y H4 => K.recv c y H4 Nx else Nx c H3)
abbrev gxCode (elt tg iter : Expr) (ifs : List Expr) (scope : Scope) (pos : Pos) (it : Addr) (env : Env) : Code := .compLoop (.GeneratorExp elt [⟨tg, iter, ifs, 0⟩] scope pos) 0 (.ref it) .none env
abbrev gxCode0 (elt tg iter : Expr) (ifs : List Expr) (scope : Scope) (pos : Pos) (it : Addr) (env : Env) : Code := .compStart (.GeneratorExp elt [⟨tg, iter, ifs, 0⟩] scope pos) 0 (.ref it) .none env
theorem over_gx {A : Around} {elt tg iter : Expr} {ifs : List Expr} {scope : Scope} {pos : Pos} {it : Addr} {env : Env} : A.over (gxCode elt tg iter ifs scope pos it env) [] = A.deeper env := by
  first
    | rfl
    | (obtain ⟨hd, d, fr, gs, u⟩ := A; simp [Around.over, Around.deeper, marksOver, frameCount, unitsOf, envsOf, guardsOf, pushEnvs, pushGuards, Code.envs, Code.env?, Code.isFrame, Code.guards, Code.isGuard, Code.weight, Code.frames, Code.isCreation, Code.isCaller, Code.cUnits])
theorem over_gx0 {A : Around} {elt tg iter : Expr} {ifs : List Expr} {scope : Scope} {pos : Pos} {it : Addr} {env : Env} : A.over (gxCode0 elt tg iter ifs scope pos it env) [] = A.deeper env := by
  first
    | rfl
    | (obtain ⟨hd, d, fr, gs, u⟩ := A; simp [Around.over, Around.deeper, marksOver, frameCount, unitsOf, envsOf, guardsOf, pushEnvs, pushGuards, Code.envs, Code.env?, Code.isFrame, Code.guards, Code.isGuard, Code.weight, Code.frames, Code.isCreation, Code.isCaller, Code.cUnits])
variable {Y : Cx} {A : Around} {elt tg iter : Expr} {ifs : List Expr} {scope : Scope} {pos : Pos} {it : Addr} {J : It} {fp : List Addr} {tn : Nat → Heap → Prop} {σ : L2.St} {ws : List Nat} {g : TG} {tt : TT} {te : TE} {K : Cons C} {P : C → List (Addr × Obj) → Prop} {Wv : Nat → Nat → C → Hp → Prop} {Er : Value → Shared → Prop}
theorem gx_seg (hA : A.deeper Y.env = Y.A) (hxe : Y.xe = fun e s' => wpAny (model Y.prog Y.w) Y.A (leaving Y.env e) (fun _ s2 => Er e s2) (fun _ _ => False) s') (hco : Y.env.scope.isCoroutine = false) (hc : Y.calm = true) (hex : Y.ex = fp)
    (hP : ∀ c pins, P c pins → ∀ p ∈ Y.pn ++ pins, p.1 ∉ fp) (T : Turn Y.prog Y.w Y.K tg J fp it tn) (pg : PG Y tg g) (pt : PTs Y ifs tt) (pe : PE Y elt te) (turn : GxT K J Wv g tt te ws σ) :
    ∀ (m n i : Nat) (c : C) (H : Hp) (s₀ s : Shared), m < n → Wv i m c H → GxI Y fp tn (wipe σ ws) P s₀ i c H s →
      Seg (model Y.prog Y.w) A (GxR Y fp (wipe σ ws) P K Er) (GxY Y fp tn (wipe σ ws) P K) n s₀ (gxCode elt tg iter ifs scope pos it Y.env) ((model Y.prog Y.w).den (gxCode elt tg iter ifs scope pos it Y.env)) [] s := by
  have stat : ∀ {pins : List (Addr × Obj)} {σ' : L2.St} {H' : Hp} {s' : Shared} {c : C}, Inv Y pins σ' H' s' → P c pins → (∀ b ∈ fp, H' b = none) → ∀ b ∈ fp, FpOk Y pins H' b := fun {pins σ' H' s' c} I hp hn b hb =>
    ⟨hn b hb, (I.ok.exf b (by rw [hex]; exact hb)).1, I.ok.exfs b (by rw [hex]; exact hb), .inl (by rw [hex]; exact hb), fun x c e => (I.ok.exf b (by rw [hex]; exact hb)).2 x c e, fun p hp' z => hP c pins hp p hp' (by rw [z]; exact hb)⟩
  intro m
  induction m using Nat.strongRecOn with
  | ind m ih =>
  intro n i c H s₀ s hmn w ⟨pins, I, pc, st, nf, h0⟩
  obtain ⟨n, rfl⟩ : ∃ k, n = k + 1 := ⟨n - 1, by omega⟩
  show Seg _ A _ _ _ s₀ _ ((compTurn (.GeneratorExp elt [⟨tg, iter, ifs, 0⟩] scope pos) 0 (.ref it) .none Y.env).onRaise (leaving Y.env)) [] s
  rw [compTurn_gen, Sem.onRaise_eq_wrap]
  have ee : ∀ (nn : Nat) (e : Value) (s' : Shared), Y.xe e s' → Seg (model Y.prog Y.w) A (GxR Y fp (wipe σ ws) P K Er) (GxY Y fp tn (wipe σ ws) P K) nn s₀ (gxCode elt tg iter ifs scope pos it Y.env) ((leaving Y.env e).bind fun _ => .raise e) [] s' := fun nn e s' hx => by
    rw [Sem.bind_eq_wrap]
    refine seg_wrap ?_
    rw [over_gx, hA]
    rw [hxe] at hx
    exact wpAny_mono hx (fun _ s2 q => seg_end (.error e) (.inr ⟨e, rfl, q⟩)) fun _ _ z => z.elim
  refine seg_bind_wrap (wpAny_standAt ?_)
  rcases turn i m c H w with ⟨stop, qq⟩ | ⟨go, Nx, hNx, step⟩
  · refine seg_bind_wrap ?_
    rw [over_gx, hA]
    refine thnF (T.done Y rfl rfl rfl hc i pins s _ H (fun _ _ => False) I (stat I pc nf) st stop) fun r s6 ⟨hr, I6⟩ => ?_
    subst hr
    exact seg_end (.ok .next) (.inl ⟨.inr rfl, c, H, pins, I6, pc, nf, h0, qq⟩)
  · refine seg_bind_wrap ?_
    rw [over_gx, hA]
    refine thnF (T.item Y rfl rfl rfl hc i pins s _ H (fun _ _ => False) I (stat I pc nf) st go) fun r s6 ⟨u, hr, h6⟩ => ?_
    subst hr
    refine seg_bind_wrap ?_
    rw [over_gx, hA]
    refine thnF h6 fun _ s7 ⟨x, H7, I7, r7, y7, st7, n7⟩ => ?_
    refine seg_bind_wrap ?_
    rw [over_gx, hA]
    refine wpAny_mono (pg.run _ s7 _ H7 x u _ (I7.pinned (stat I7 pc n7) (T.obj _ _ st7)) r7 (step x H7 y7)) (fun _ s8 ⟨σ8, H8, I8, hw8, q8⟩ => ?_) fun e s' hx => ee _ e s' hx
    refine seg_bind_wrap ?_
    rw [over_gx, hA]
    refine wpAny_mono (pt.run _ s8 σ8 H8 _ I8 q8) (fun b s9 ⟨H9, I9, q9⟩ => ?_) fun e s' hx => ee _ e s' hx
    have back : ∀ {s' : Shared} {H' : Hp}, Inv Y (pins ++ pinsAt fp s7.heap) σ8 H' s' → GxI Y fp tn (wipe σ ws) P s₀ (i + 1) c H' s' := fun {s' H'} I' => by
      have pin' : ∀ b ∈ fp, ∀ o, s7.heap.get? b = some o → s'.heap.get? b = some o ∧ H' b = none := fun b hb o e =>
        let z := I'.pin (b, o) (List.mem_append_right _ (List.mem_append_right _ (mem_pinsAt hb e)))
        ⟨z.1, z.2.1⟩
      have hl : (wipe σ ws).length = σ8.length := by rw [← hw8, wipe_length]
      refine ⟨pins, (I'.unpinned (pins := pins)).weak hl (fun j v e => ?_), pc, T.keep _ _ _ st7 fun b hb o e => (pin' b hb o e).1, fun b hb => ?_, h0⟩
      · rw [← hw8] at e
        exact (wipe_some e).1
      · obtain ⟨o, e, _⟩ := T.obj _ _ st7 b hb
        exact (pin' b hb o e).2
    cases b with
    | false =>
      simp only [Bool.false_eq_true, if_false] at q9 ⊢
      obtain ⟨m', hm, w'⟩ := hNx c H9 q9
      exact seg_again rfl (ih m' hm (n + 1) (i + 1) c H9 s₀ s9 (by omega) w' (back I9))
    | true =>
      simp only [if_true] at q9 ⊢
      have hy : ∀ v, yieldOut Y.env v = yieldValue v := fun v => by simp only [yieldOut, hco, Bool.false_eq_true, if_false]
      simp only [hy]
      rw [Sem.bind_eq_wrap', Sem.bind_eq_wrap', Sem.wrap_wrap, Sem.wrap_wrap]
      refine seg_wrap ?_
      rw [over_gx, hA]
      refine wpAny_mono (pe.run _ s9 σ8 H9 _ I9 q9) (fun z s10 ⟨yv, H10, I10, r10, q10⟩ => ?_) fun e s' hx => ee _ e s' hx
      refine seg_at (seg_yield rfl rfl rfl ⟨i + 1, c, yv, H10, Nx, r10, back I10, q10, fun c' H' s' nx gi => ?_⟩)
      obtain ⟨m', hm, w'⟩ := hNx c' H' nx
      exact ⟨by omega, seg_again rfl (ih m' hm n (i + 1) c' H' s' s' (by omega) w' gi)⟩
/-- from its beginning -/
theorem gx_seg0 (hA : A.deeper Y.env = Y.A) (hxe : Y.xe = fun e s' => wpAny (model Y.prog Y.w) Y.A (leaving Y.env e) (fun _ s2 => Er e s2) (fun _ _ => False) s') (hco : Y.env.scope.isCoroutine = false) (hc : Y.calm = true) (hex : Y.ex = fp)
    (hP : ∀ c pins, P c pins → ∀ p ∈ Y.pn ++ pins, p.1 ∉ fp) (T : Turn Y.prog Y.w Y.K tg J fp it tn) (pg : PG Y tg g) (pt : PTs Y ifs tt) (pe : PE Y elt te) (turn : GxT K J Wv g tt te ws σ)
    (m n i : Nat) (c : C) (H : Hp) (s₀ s : Shared) (hn : m < n) (w : Wv i m c H) (gi : GxI Y fp tn (wipe σ ws) P s₀ i c H s) :
      Seg (model Y.prog Y.w) A (GxR Y fp (wipe σ ws) P K Er) (GxY Y fp tn (wipe σ ws) P K) n s₀ (gxCode0 elt tg iter ifs scope pos it Y.env) ((model Y.prog Y.w).den (gxCode0 elt tg iter ifs scope pos it Y.env)) [] s := by
  have loop := gx_seg (elt := elt) (iter := iter) (scope := scope) (pos := pos) (Er := Er) (A := A) hA hxe hco hc hex hP T pg pt pe turn m n i c H s₀ s hn w gi
  obtain ⟨_, _, _, st, _⟩ := gi
  show Seg _ A _ _ _ s₀ _ ((compStart (.GeneratorExp elt [⟨tg, iter, ifs, 0⟩] scope pos) 0 (.ref it) .none Y.env).onRaise (leaving Y.env)) [] s
  unfold compStart
  rw [Sem.onRaise_eq_wrap]
  show Seg _ A _ _ _ s₀ _ ((ask >>= _).wrap _ _ _ _) [] s
  refine seg_bind_wrap (wpAny_askSetting ?_)
  split
  · exact seg_again rfl loop
  · refine seg_bind_wrap (wpAny_rule ?_)
    show Seg _ A _ _ _ s₀ _ ((standAt iter.pos >>= _).wrap _ _ _ _) [] s
    exact seg_bind_wrap (wpAny_standAt (seg_bind_wrap (T.self _ i s _ _ st (seg_again rfl loop))))
end
end Mi
namespace Mi
open PySem PySem.Spec PyProof.Rows L2 GenW

/-! ### a generator expression is made -/
structure GxMade (X : Cx) (pX : List (Addr × Obj)) (σ : L2.St) (elt tg iter : Expr) (ifs : List Expr) (scope : Scope) (own : List (Str × Nat)) (pos : Pos) (J : It) (H4 : Hp) (it : Addr) (fp : List Addr) (tn : Nat → Heap → Prop) (code : Value) (a : Addr) (gn : Nat) (go : Obj) (s4 s5 : Shared) : Prop where
  G : GxS X.N X.env.scope scope own
  I : Inv X pX σ H4 s4
  T : Turn X.prog X.w X.K tg J fp it tn
  st : tn 0 s4.heap
  fps : ∀ b ∈ fp, FpOk X pX H4 b ∧ b < s4.heap.objs.size
  lt : s4.heap.objs.size < a
  sz : a < s5.heap.objs.size
  at_ : s5.heap.get? a = some go
  gen : ∀ h : Heap, h.get? a = some go → h.IsGen a gn
  nc : ∀ v, go.data ≠ .cell v
  gs : s5.gens[gn]? = some (.fresh (gxCode0 elt tg iter ifs scope pos it (gxEnv X scope s4.heap.objs.size code)))
  kp : ∀ b o, s4.heap.get? b = some o → s5.heap.get? b = some o
  ns : ∃ m, s5.heap.Ns s4.heap.objs.size m
  os : s5.os = s4.os
  bare : AllBare s5.gens
section
variable {X : Cx} {pX : List (Addr × Obj)} {σ : L2.St} {H : Hp} {s : Shared} {elt tg iter : Expr} {ifs : List Expr} {scope : Scope} {own : List (Str × Nat)} {pos : Pos}
theorem gx_make {Tt : List (Addr × (Nat → Nat → Str))} {c P : Addr} {nm : Nat → Nat → Str} {wi : TI} {R : It → Hp → Prop} {Q' : Value → Shared → Prop} (I : Inv X pX σ H s) (TX : TabX X Tt c P nm) (G : GxS X.N X.env.scope scope own) (hi : PI X tg iter wi)
    (hnm : nm pos.line pos.col = X.env.qual ++ "<genexpr>") (hroom : X.A.depth < recursionLimit) (hs : ∀ v, genFold iter X.env v = pure v)
    (h : wi σ H fun J H1 => TabsN Tt H1 ∧ ∀ H2, LamX.ExtN H1 H2 → TabsN Tt H2 → R J H2)
    (hQ : ∀ J H4 it fp tn code a gn go s4 s5, GxMade X pX σ elt tg iter ifs scope own pos J H4 it fp tn code a gn go s4 s5 → R J H4 → Q' (.ref a) s5) :
    wpAny (model X.prog X.w) X.A (eval (.GeneratorExp elt [⟨tg, iter, ifs, 0⟩] scope pos) X.env) Q' X.xe s := by
  refine wpAny_GeneratorExp_make G.co (closure_ok (G.has I)) G.cell G.dot G.blk.kind hroom (thn (hi.run pX s σ H _ I h) fun xv s1 hx => thn hx fun itv s2 h2 => ?_) hs
  obtain ⟨it, fp, tn, J, H2, e, I2, T, st2, f2, hT, q⟩ := h2
  subst e
  refine ⟨I2.nolimit, ?_⟩
  obtain ⟨ps, hP, ht, ha⟩ := hT _ TX.m
  have hP' : s2.heap.get? P = some { cls := .none, data := .fields ps } := I2.hok P _ hP
  have cd : PySem.W.CodeHd s2.heap c P := TX.b.code.keeps I2.bk
  obtain ⟨bm, ob, e1, e2, e3, e4, e5, e6, e7, e8⟩ := TX.b.bm
  have fpP : ∀ b ∈ fp, b ≠ P := fun b hb z => by
    have := (f2 b hb).1
    rw [z, hP] at this; cases this
  have fplt : ∀ b ∈ fp, b < s2.heap.objs.size := fun b hb => by
    obtain ⟨o, e, _⟩ := T.obj _ _ st2 b hb
    exact Heap.lt_size e
  have fin : ∀ (code : Value) (H4 : Hp) (s4 : Shared), Inv X pX σ H4 s4 → R J H4 → tn 0 s4.heap → (∀ b ∈ fp, FpOk X pX H4 b ∧ b < s4.heap.objs.size) → s4.gens = s4.gens →
      wpAny (model X.prog X.w) X.A (builtinsFor X.env.globals X.env.builtins) (fun bi s₄ =>
        ∀ h', h'.Ns s₄.heap.objs.size (fun y => if y = (".0" : Str) then some (.ref it) else none) → Heap.SameBut s₄.heap.objs.size (s₄.heap.push { cls := .type "frame", data := .dict #[] }) h' →
          Q' (.ref h'.objs.size) { s₄ with
            gens := s₄.gens.push (.fresh (.compStart (.GeneratorExp elt [⟨tg, iter, ifs, 0⟩] scope pos) 0 (.ref it) .none (genEnv scope (cloFrom X.env.cells scope.names []) s₄.heap.objs.size code bi X.env))), toks := s₄.toks + 1 + 1 + 1,
            heap := h'.push { cls := .type "generator", data := .fields #[.int s₄.gens.size 0, .str "<genexpr>" (s₄.toks + 1), .str (X.env.qual ++ "<genexpr>") (s₄.toks + 1 + 1)] } }) X.xe s4 := by
    intro code H4 s4 I4 r4 st4 f4 _
    refine wpAny_builtinsFor (m := X.mg) (by rw [I4.ok.glob]; exact I4.mod.glob.keeps I4.bk) e1 e2 (I4.bk _ _ e5) e6 e7 e8 fun h' hns hsb => ?_
    have hsz : h'.objs.size = s4.heap.objs.size + 1 := by rw [hsb.1, Heap.size_push]
    have kp1 : ∀ b o, s4.heap.get? b = some o → h'.get? b = some o := fun b o e => hsb.extBut b o (Nat.ne_of_lt (Heap.lt_size e)) (Heap.get?_push_of_some _ e)
    exact hQ J H4 it fp tn code h'.objs.size s4.gens.size _ s4 _ ⟨G, I4, T, st4, f4, by rw [hsz]; exact Nat.lt_succ_self _, by rw [Heap.size_push]; exact Nat.lt_succ_self _, Heap.get?_push_size _ rfl, fun h e => ⟨_, _, _, e, rfl, rfl, rfl⟩, fun v z => (by cases z),
      Array.getElem?_push_size .., fun b o e => Heap.get?_push_of_some _ (kp1 b o e), ⟨_, hns.push _⟩, rfl, I4.bare.push rfl⟩ r4
  cases hf : codeAmong pos ps.toList with
  | none =>
    refine wpAny_genexprCodeX TX.code (cd.code hP' ht) (cd.tab hP') hf fun c' h' tk hx hge hlt _ hrec htab' _ => ?_
    obtain ⟨c2, oc, vs, t, e2', hoc, hd, hv⟩ := hrec
    cases e2'
    have nC : H2 c' = none := I2.hok.fresh hge
    have I1 := LamX.inv_table (t' := tk) (more := #[rawInt pos.line, rawInt pos.col, .ref c']) (h' := h') I2 hP hx htab'.2 hge ⟨oc, vs, t, hoc, hd, hv⟩
    have hE1 : LamX.ExtN H2 (upd (upd H2 P (.tbl (ps ++ #[rawInt pos.line, rawInt pos.col, .ref c']))) c' (LamX.CodeO c' (X.env.qual ++ "<genexpr>"))) := fun b o e n => by
      rw [upd_ne (ne_of_none e nC), upd_ne (fun z => n ps (Option.some.inj (e.symm.trans (by rw [z]; exact hP))))]
      exact e
    have eL : (ps ++ #[rawInt pos.line, rawInt pos.col, .ref c']).toList = ps.toList ++ [rawInt pos.line, rawInt pos.col, .ref c'] := by simp
    have T1 : TabsN Tt (upd (upd H2 P (.tbl (ps ++ #[rawInt pos.line, rawInt pos.col, .ref c']))) c' (LamX.CodeO c' (X.env.qual ++ "<genexpr>"))) := fun p hp => by
      by_cases hb : p.1 = P
      · rw [TX.u p hp hb, hb]
        refine ⟨_, by rw [upd_ne (ne_of_none hP nC), upd_same], by rw [eL]; exact PySem.TriplesOk_snoc _ _ _ _ ht, fun p' cv hcv => ?_⟩
        rw [eL] at hcv
        rcases among_appN _ ht hcv with z | ⟨z, z1, z2⟩
        · obtain ⟨c0, e1, e2⟩ := ha p' cv z
          exact ⟨c0, e1, hE1 _ _ e2 LamX.codeO_ne⟩
        · refine ⟨c', z, ?_⟩
          rw [z1, z2, hnm]
          exact upd_same
      · obtain ⟨ps', a1, a2, a3⟩ := hT p hp
        refine ⟨ps', by rw [upd_ne (ne_of_none a1 nC), upd_ne hb]; exact a1, a2, fun p' cv hcv => ?_⟩
        obtain ⟨c0, e1, e2⟩ := a3 p' cv hcv
        exact ⟨c0, e1, hE1 _ _ e2 LamX.codeO_ne⟩
    have hsz : s2.heap.objs.size ≤ h'.objs.size := Nat.le_trans hge (Nat.le_of_lt hlt)
    refine fin _ _ _ I1 (q _ hE1 T1) (T.keep _ _ _ st2 fun b hb o e => hx b o (fpP b hb) e) (fun b hb => ⟨⟨?_, (f2 b hb).2⟩, Nat.lt_of_lt_of_le (fplt b hb) hsz⟩) rfl
    rw [upd_ne (Nat.ne_of_lt (Nat.lt_of_lt_of_le (fplt b hb) hge)), upd_ne (fpP b hb)]
    exact (f2 b hb).1
  | some cv =>
    refine wpAny_genexprCode_hit TX.code (cd.code hP' ht) hf ?_
    exact fin cv H2 s2 I2 (q _ (LamX.ExtN.refl H2) hT) st2 (fun b hb => ⟨f2 b hb, fplt b hb⟩) rfl

/-! ### while it sleeps -/
theorem GxI.slept {C : Type} {Y : Cx} {fp Ss : List Addr} {tn : Nat → Heap → Prop} {σw : L2.St} {P : C → List (Addr × Obj) → Prop} {i : Nat} {c c' : C} {H : Hp} {s₀ s s' : Shared} {pins' : List (Addr × Obj)} {tg : Expr} {J : It} {it : Addr} (T : Turn Y.prog Y.w Y.K tg J fp it tn)
    (hSs : ∀ S ∈ Ss, Y.s_0.heap.objs.size ≤ S ∧ (∀ x c, Y.env.cells.lookup x = some c → c ≠ S) ∧ (∀ p ∈ Y.pn, p.1 ≠ S) ∧ S ∉ fp) (hP : ∀ c pins, P c pins → ∀ S ∈ Ss, ∃ p ∈ pins, p.1 = S)
    (gi : GxI Y fp tn σw P s₀ i c H s) (hos : s'.os = s.os) (hb : AllBare s'.gens) (keep : ∀ b o, b ∉ Ss → s.heap.get? b = some o → s'.heap.get? b = some o) (there : ∀ b ∈ Ss, ∃ o, s'.heap.get? b = some o)
    (hp' : P c' pins') (hin : ∀ p ∈ pins', p.1 ∈ Ss ∧ s'.heap.get? p.1 = some p.2 ∧ ∀ v, p.2.data ≠ .cell v) : GxI Y fp tn σw P s' i c' H s' := by
  obtain ⟨pins, I, pc, st, nf, _⟩ := gi
  have SP : ∀ S ∈ Ss, H S = none ∧ S ≠ Y.env.locals ∧ S ∉ Y.fs := fun S hS => by
    obtain ⟨p, hp, e⟩ := hP c pins pc S hS
    obtain ⟨_, h2, h3, h4, _⟩ := I.pin p (List.mem_append_right _ hp)
    rw [e] at h2 h3 h4
    exact ⟨h2, h3, h4⟩
  have I0 : Inv Y [] σw H s := I.pins_of fun p hp => absurd hp (by simp)
  have nt : ∀ b u, H b = some u → b ∉ Ss := fun b u q hb => by rw [(SP b hb).1] at q; cases q
  have J1 : Inv Y [] σw H { s with heap := s'.heap, gens := s'.gens, drawn := s'.drawn, toks := s'.toks } := by
    refine I0.step (g' := s'.gens) (t' := s'.toks) (d' := s'.drawn) (ch := Ss) (fun b hb => ⟨.inr (hSs b hb).1, (SP b hb).2.1, (hSs b hb).2.1, fun p hp => ?_⟩)
      (fun b ob _ _ hc q _ => keep b ob hc q) (fun b ob _ _ hc q _ => ⟨ob.slots, keep b ob hc q⟩) (fun _ _ _ _ n => n) (fun b ob hc q => ⟨ob, keep b ob hc q⟩)
      (fun _ _ q => q) (fun _ _ _ q => q) (fun b ps q => ⟨#[], by rw [q]; simp⟩) (fun m hm => ?_) (fun b u q => ?_) hb
    · rw [List.append_nil] at hp
      exact (hSs b hb).2.2.1 p hp
    · obtain ⟨ob, es, ep, ho, r⟩ := hm
      exact ⟨ob, es, ep, keep _ ob (fun z => (SP _ z).2.1 rfl) ho, r⟩
    · refine (I0.hok b u q).stay (fun d v hc y => keep d v ?_ y) (fun _ y => y) fun _ _ y => y
      rcases hc with y | y
      · rw [y]; exact nt b u q
      · exact nt d _ y
  have J2 : Inv Y [] σw H s' := by
    obtain ⟨hh, g, d, t, o⟩ := s'
    have ho : o = s.os := hos
    subst ho
    exact J1
  refine ⟨pins', J2.pins_of fun p hp => ?_, hp', T.keep _ _ _ st fun b hb o e => keep b o (fun z => (hSs b z).2.2.2 hb) e, nf, fun p hp => (hin p hp).2.1⟩
  obtain ⟨h1, h2, h3⟩ := hin p hp
  exact ⟨h2, (SP _ h1).1, (SP _ h1).2.1, (SP _ h1).2.2, h3⟩
end
end Mi
namespace Mi
open PySem PySem.Spec PyProof.Rows L2 GenW

/-! ### the eaters of a generator -/
abbrev ErX (X : Cx) (fp : List Addr) (H4 : Hp) (s4 : Shared) (E : XK) (a : Addr) (go : Obj) : Value → Shared → Prop := fun e s2 => CXx X.prog X.w X.stack fp H4 s4 E e s2 ∧ ∀ p ∈ [(a, go)], s2.heap.get? p.1 = some p.2
section
variable {X : Cx} {pX : List (Addr × Obj)} {σ : L2.St} {elt tg iter : Expr} {ifs : List Expr} {scope : Scope} {own : List (Str × Nat)} {pos : Pos} {J : It} {H4 : Hp} {it : Addr} {fp : List Addr} {tn : Nat → Heap → Prop} {code : Value} {a : Addr} {gn : Nat} {go : Obj} {s4 s5 : Shared} {E : XK}
theorem GxMade.back {A : Around} {pins : List (Addr × Obj)} {σ' : L2.St} {H : Hp} {s : Shared} (Gm : GxMade X pX σ elt tg iter ifs scope own pos J H4 it fp tn code a gn go s4 s5) (I : Inv (gxCx X A s4 H4 E scope s4.heap.objs.size code fp [(a, go)]) pins σ' H s) : Inv X pX σ H s :=
  Gm.I.call' (ch := fp) I.os I.base I.hok I.bare fun b hb => ⟨(Gm.fps b hb).1.2.2.2.1, (Gm.fps b hb).1.2.1, (Gm.fps b hb).1.2.2.2.2.1, (Gm.fps b hb).1.2.2.2.2.2⟩
theorem GxMade.exc {W : WX} {e : Value} {s : Shared} (Gm : GxMade X pX σ elt tg iter ifs scope own pos J H4 it fp tn code a gn go s4 s5) (tk : Takes X W) (hW : ∀ cls d H', E cls d H' → W cls d σ H') (h : CXx X.prog X.w X.stack fp H4 s4 E e s) {g : Nat} : X.xe e (s.setGen g .finished) := by
  refine tk e _ (xe_of_callx Gm.I (fun b hb => ⟨(Gm.fps b hb).1.2.2.2.1, (Gm.fps b hb).1.2.1, (Gm.fps b hb).1.2.2.2.2.1, (Gm.fps b hb).1.2.2.2.2.2⟩) hW ?_)
  obtain ⟨x, B, H', cls, d, h1, h2, h3, h4, h5, h6, h7, h8⟩ := h
  exact ⟨x, B, H', cls, d, h1, h2, h3, h4, h5, h6, allBare_setGen h7 rfl, h8⟩
theorem GxMade.notStop {e : Value} {s : Shared} (Gm : GxMade X pX σ elt tg iter ifs scope own pos J H4 it fp tn code a gn go s4 s5) (hns : NoStop X.K E) (h : CXx X.prog X.w X.stack fp H4 s4 E e s) : NotStop (model X.prog X.w) e s.heap := by
  obtain ⟨x, B, H', cls, d, rfl, fl, _, ub, _, _, _, hW⟩ := h
  have kin : X.K.In s.heap := Gm.I.ok.mod.kin.keeps fun b o eb => fl.1 b o (ub.keep b o (Gm.I.bs b o eb).1 (Gm.I.bs b o eb).2 (fun hm => by
    rcases List.mem_cons.mp (Gm.I.stkSub b hm) with z | z
    · have h1 := Heap.lt_size eb
      have h2 := Nat.le_trans Gm.I.ok.bsz Gm.I.ok.above
      rw [z] at h1
      exact absurd (Nat.lt_of_lt_of_le h1 h2) (Nat.lt_irrefl _)
    · exact Gm.I.ok.nofr eb z) fun hm => by
    rcases (Gm.fps b hm).1.2.2.2.1 with z | z
    · exact Gm.I.ok.noex b o eb z
    · exact absurd (Nat.lt_of_lt_of_le (Heap.lt_size eb) (Nat.le_trans Gm.I.ok.bsz z)) (Nat.lt_irrefl _))
  obtain ⟨oe, vs, he, hz, hd⟩ := fl.there
  have L := PySem.W.looks_subIn (M := model X.prog X.w) kin (hns cls d H' hW)
  intro A Q E' s2 hs hq
  simp only [isInstance]
  refine wpAny_bind (wpAny_typeOf_ref (o := oe) (by rw [hs]; exact he) ?_)
  rw [hz.1]
  exact L A Q E' s2 (fun b o z => by rw [hs]; exact z) hq
theorem GxMade.isGen {A : Around} {pins : List (Addr × Obj)} {σ' : L2.St} {H : Hp} {s : Shared} (Gm : GxMade X pX σ elt tg iter ifs scope own pos J H4 it fp tn code a gn go s4 s5) (I : Inv (gxCx X A s4 H4 E scope s4.heap.objs.size code fp [(a, go)]) pins σ' H s) : s.heap.IsGen a gn :=
  Gm.gen _ (I.pin (a, go) (List.mem_append_left _ (List.mem_singleton.mpr rfl))).1
section
variable {C : Type} {K : Cons C} {P : C → List (Addr × Obj) → Prop} {Wv : Nat → Nat → C → Hp → Prop} {A : Around} {s2 : Shared} {g : TG} {tt : TT} {te : TE} {pins0 : List (Addr × Obj)}
theorem gx_wake (Gm : GxMade X pX σ elt tg iter ifs scope own pos J H4 it fp tn code a gn go s4 s5) (hN : X.N.Nodup) (hd : A.handled = none) (hfr : A.frames = some X.stack) (pg : PG (gxCx X A s4 H4 E scope s4.heap.objs.size code fp [(a, go)]) tg g) (pt : PTs (gxCx X A s4 H4 E scope s4.heap.objs.size code fp [(a, go)]) ifs tt)
    (pe : PE (gxCx X A s4 H4 E scope s4.heap.objs.size code fp [(a, go)]) elt te) (turn : GxT K J Wv g tt te (own.map (·.2)) σ) {m n : Nat} {c0 : C} (w : Wv 0 m c0 H4) (hn : m < n) (kp : ∀ b o, s5.heap.get? b = some o → s2.heap.get? b = some o) (hos : s2.os = s5.os) (hba : AllBare s2.gens)
    (hP : ∀ c pins, P c pins → ∀ p ∈ pins, s5.heap.objs.size ≤ p.1) (hp0 : P c0 pins0) (hp1 : ∀ p ∈ pins0, s2.heap.get? p.1 = some p.2 ∧ ∀ v, p.2.data ≠ .cell v) :
    Seg (model X.prog X.w) A (GxR (gxCx X A s4 H4 E scope s4.heap.objs.size code fp [(a, go)]) fp (wipe σ (own.map (·.2))) P K (ErX X fp H4 s4 E a go)) (GxY (gxCx X A s4 H4 E scope s4.heap.objs.size code fp [(a, go)]) fp tn (wipe σ (own.map (·.2))) P K) n s2
      (gxCode0 elt tg iter ifs scope pos it (gxEnv X scope s4.heap.objs.size code)) ((model X.prog X.w).den (gxCode0 elt tg iter ifs scope pos it (gxEnv X scope s4.heap.objs.size code))) [] s2 := by
  have old : ∀ b ∈ fp, ∀ x, s5.heap.objs.size ≤ x → x ≠ b := fun b hb x hx => Nat.ne_of_gt (Nat.lt_of_lt_of_le (Nat.lt_trans (Nat.lt_trans (Gm.fps b hb).2 Gm.lt) Gm.sz) hx)
  refine gx_seg0 (Y := gxCx X A s4 H4 E scope s4.heap.objs.size code fp [(a, go)]) (Er := ErX X fp H4 s4 E a go) rfl rfl Gm.G.co rfl rfl (fun c pins hp p hp' z => ?_) Gm.T pg pt pe turn m n 0 c0 H4 s2 s2 hn w
    ⟨pins0, gx_start Gm.I Gm.G hN Gm.fps hd hfr ?_ (fun b o e => kp b o (Gm.kp b o e)) (hos.trans Gm.os) hba fun p hp => ?_, hp0, Gm.T.keep _ _ _ Gm.st fun b _ o e => kp b o (Gm.kp b o e), fun b hb => (Gm.fps b hb).1.1, fun p hp => (hp1 p hp).1⟩
  · rcases List.mem_append.mp hp' with q | q
    · rw [List.mem_singleton.mp q] at z
      exact absurd (Nat.lt_trans (Gm.fps a z).2 Gm.lt) (Nat.lt_irrefl _)
    · exact old _ z _ (hP c pins hp p q) rfl
  · obtain ⟨m', h⟩ := Gm.ns
    exact ⟨m', h.keeps fun b o e => kp b o e⟩
  · rcases List.mem_append.mp hp with q | q
    · rw [List.mem_singleton.mp q]
      exact ⟨kp _ _ Gm.at_, Gm.lt, Gm.nc⟩
    · exact ⟨(hp1 p q).1, Nat.lt_of_lt_of_le (Nat.lt_trans Gm.lt Gm.sz) (hP c0 pins0 hp0 p q), (hp1 p q).2⟩
theorem GxMade.slept {i : Nat} {c c' : C} {H : Hp} {s₀ s s' : Shared} {Ss : List Addr} {pins' : List (Addr × Obj)} (Gm : GxMade X pX σ elt tg iter ifs scope own pos J H4 it fp tn code a gn go s4 s5) (hSs : ∀ S ∈ Ss, s5.heap.objs.size ≤ S) (hP : ∀ c pins, P c pins → ∀ S ∈ Ss, ∃ p ∈ pins, p.1 = S)
    (gi : GxI (gxCx X A s4 H4 E scope s4.heap.objs.size code fp [(a, go)]) fp tn (wipe σ (own.map (·.2))) P s₀ i c H s) (hos : s'.os = s.os) (hb : AllBare s'.gens) (keep : ∀ b o, b ∉ Ss → s.heap.get? b = some o → s'.heap.get? b = some o) (there : ∀ b ∈ Ss, ∃ o, s'.heap.get? b = some o)
    (hp' : P c' pins') (hin : ∀ p ∈ pins', p.1 ∈ Ss ∧ s'.heap.get? p.1 = some p.2 ∧ ∀ v, p.2.data ≠ .cell v) : GxI (gxCx X A s4 H4 E scope s4.heap.objs.size code fp [(a, go)]) fp tn (wipe σ (own.map (·.2))) P s' i c' H s' := by
  refine gi.slept (Y := gxCx X A s4 H4 E scope s4.heap.objs.size code fp [(a, go)]) Gm.T (fun S hS => ⟨?_, fun x c e z => ?_, fun p hp z => ?_, fun hb => ?_⟩) hP hos hb keep there hp' hin
  · exact Nat.le_of_lt (Nat.lt_of_lt_of_le (Nat.lt_trans Gm.lt Gm.sz) (hSs S hS))
  · obtain ⟨pins, I, _⟩ := gi
    have e : (cloFrom X.env.cells scope.names []).lookup x = some c := e
    rcases cloFrom_mem (PySem.mem_of_lookup e) with hm | ⟨h1, h2⟩
    · cases hm
    · obtain ⟨c1, hc⟩ := Gm.G.has Gm.I _ h1 rfl
      have hc : X.env.cells.lookup x = some c1 := hc
      have e2 : c = c1 := by rw [h2, hc] <;> rfl
      obtain ⟨v, q⟩ := Gm.I.cell _ _ hc
      have l1 := q.lt
      rw [← e2, z] at l1
      exact absurd (Nat.lt_of_lt_of_le (Nat.lt_trans (Nat.lt_trans l1 Gm.lt) Gm.sz) (hSs S hS)) (Nat.lt_irrefl _)
  · have z : a = S := by
      have q := List.mem_singleton.mp (show p ∈ [(a, go)] from hp)
      rw [q] at z; exact z
    have := hSs S hS
    rw [← z] at this
    exact absurd (Nat.lt_of_lt_of_le Gm.sz this) (Nat.lt_irrefl _)
  · exact absurd (Nat.lt_of_lt_of_le (Nat.lt_trans (Nat.lt_trans (Gm.fps S hb).2 Gm.lt) Gm.sz) (hSs S hS)) (Nat.lt_irrefl _)
end
end

/-! ### into a list -/
def consL (Pr : List V → V → Hp → Prop) (Dn : List V → Hp → Prop) : Cons (List V) where
  recv := fun ys y H Nx => ys.length < sizeLine ∧ Pr ys y H ∧ Nx (ys ++ [y]) H
  done := fun ys H => ys.length ≤ sizeLine ∧ Dn ys H
def PinL (S : Addr) : List V → List (Addr × Obj) → Prop := fun ys pins => ∃ (acc : Array Value) (c : Nat), Vals ys acc.toList ∧ pins = [(S, lstObj acc c)]
section
variable {X : Cx} {pX : List (Addr × Obj)} {σ : L2.St} {elt tg iter : Expr} {ifs : List Expr} {scope : Scope} {own : List (Str × Nat)} {pos : Pos} {J : It} {H4 : Hp} {it : Addr} {fp : List Addr} {tn : Nat → Heap → Prop} {code : Value} {a : Addr} {gn : Nat} {go : Obj} {s4 s5 : Shared} {E : XK}
theorem gx_extend {A : Around} {Rr : Result → Shared → Prop} {S : Addr} {res : Value} {Pr : List V → V → Hp → Prop} {Dn : List V → Hp → Prop} (Gm : GxMade X pX σ elt tg iter ifs scope own pos J H4 it fp tn code a gn go s4 s5) (hh : A.handled = none) (hd : A.depth < recursionLimit) (hS : s5.heap.objs.size ≤ S)
    (hend : ∀ s' acc c ys H, Inv X pX σ H s' → s'.heap.get? S = some (lstObj acc c) → Vals ys acc.toList → ys.length ≤ sizeLine → Dn ys H → Rr (.ok (.ret res)) s')
    (hexc : ∀ e s', CXx X.prog X.w X.stack fp H4 s4 E e s' → NotStop (model X.prog X.w) e s'.heap ∧ Rr (.error e) (s'.setGen gn .finished)) :
    ∀ (n : Nat) (s : Shared), 0 < n → s.heap.IsGen a gn → s.heap.NoLimit →
      (∃ gs, s.gens[gn]? = some gs ∧ gs.Goes (model X.prog X.w) A.in1.in1 (GxR (gxCx X A.in1.in1 s4 H4 E scope s4.heap.objs.size code fp [(a, go)]) fp (wipe σ (own.map (·.2))) (PinL S) (consL Pr Dn) (ErX X fp H4 s4 E a go))
        (GxY (gxCx X A.in1.in1 s4 H4 E scope s4.heap.objs.size code fp [(a, go)]) fp tn (wipe σ (own.map (·.2))) (PinL S) (consL Pr Dn)) n (.send .none) (s.setGen gn .running)) →
      codeAny (model X.prog X.w) A (.builtin "list.extend.loop" ⟨[.ref S, .ref a, res], []⟩) Rr s := by
  intro n
  induction n using Nat.strongRecOn with
  | ind n ih =>
  intro s hn hg hl ⟨gs, hgs, hgo⟩
  have hgl : gn < s.gens.size := (Array.getElem?_eq_some_iff.mp hgs).1
  refine codeAny_builtin F.entry_extend_loop ?_
  rw [Around.under_plainId F.plain_extend_loop _]
  show wpAny _ A.in1 (pyNext (.ref a) >>= _) _ _ s
  refine wpAny_bind (wpAny_gsz (n := gn + 1) hgl (next_genG (A := A.in1) (Er := ErX X fp H4 s4 E a go) (F := fun _ s₀ s => ∃ c H pins, Inv (gxCx X A.in1.in1 s4 H4 E scope s4.heap.objs.size code fp [(a, go)]) pins (wipe σ (own.map fun p : Str × Nat => p.2)) H s ∧ PinL S c pins ∧ (∀ b ∈ fp, H b = none) ∧ (∀ p ∈ pins, s₀.heap.get? p.1 = some p.2) ∧ (consL Pr Dn).done c H) hh hl hd hg hgs hgo (fun v s₁ gs' hbare hv => ?_) (fun s₁ hp h' hk => ?_) fun e s₁ he => ?_))
  · intro hsz
    obtain ⟨i, ys, y, H, Nx, rv, gi, ⟨hz, _, hNx⟩, hk⟩ := hv
    obtain ⟨pins, I1, ⟨acc, c, rys, ep⟩, st1, nf1, _⟩ := id gi
    subst ep
    have hS1 : s₁.heap.get? S = some (lstObj acc c) := (I1.pin (S, lstObj acc c) (List.mem_append_right _ (List.mem_singleton.mpr rfl))).1
    have hlen : acc.size = ys.length := by rw [rys.length]; simp
    show wpAny _ A.in1 (updateSeq S (·.push v) >>= _) _ _ _
    refine wpAny_bind ?_
    refine wpAny_updateSeq hS1 rfl (wpAny_pure ⟨plainId_quiet F.plain_extend_loop _, ?_⟩) (by rw [hlen]; exact Nat.le_of_lt hz) (by show (acc.push v).size ≤ sizeLine + 1; rw [Array.size_push]; omega)
    have keep3 : ∀ b o, b ∉ [S] → s₁.heap.get? b = some o → (s₁.heap.update S (Obj.mapSeq (·.push v))).get? b = some o := fun b o hbS e => (Heap.get?_update_other _ _ (fun z => hbS (List.mem_singleton.mpr z.symm))).trans e
    have hS2 := Heap.get?_update_self (Obj.mapSeq (·.push v)) hS1 rfl
    have hsz1 : gn < s₁.gens.size := by
      have q : (s₁.setGen gn gs').gens.size = s₁.gens.size := setGen_size _ _ _
      have hsz' : gn + 1 ≤ (s₁.setGen gn gs').gens.size := hsz
      omega
    have b1 : AllBare (s₁.setGen gn gs').gens := allBare_setGen I1.bare hbare
    have gi2 : ∀ x : GenState, x.bare = true → GxI (gxCx X A.in1.in1 s4 H4 E scope s4.heap.objs.size code fp [(a, go)]) fp tn (wipe σ (own.map (·.2))) (PinL S) ({ s₁.setGen gn gs' with heap := s₁.heap.update S (Obj.mapSeq (·.push v)) }.setGen gn x) i (ys ++ [y]) H ({ s₁.setGen gn gs' with heap := s₁.heap.update S (Obj.mapSeq (·.push v)) }.setGen gn x) := fun x hx =>
      Gm.slept (Ss := [S]) (fun b hb => by rw [List.mem_singleton.mp hb]; exact hS) (fun c pins ⟨acc, n, _, e⟩ b hb => ⟨(S, lstObj acc n), by rw [e]; exact List.mem_singleton.mpr rfl, (List.mem_singleton.mp hb).symm⟩) gi rfl (allBare_setGen b1 hx) keep3
        (fun b hb => by rw [List.mem_singleton.mp hb]; exact ⟨_, hS2⟩) ⟨acc.push v, _, by rw [Array.toList_push]; exact rys.append (.cons rv .nil), rfl⟩ fun p hp => by
          rw [List.mem_singleton.mp hp]; exact ⟨List.mem_singleton.mpr rfl, hS2, fun v q => by cases q⟩
    obtain ⟨pins2, I2, _⟩ := gi2 .running rfl
    have g2 := Gm.isGen I2
    have l2 := I2.nolimit
    cases n with
    | zero => exact absurd hn (Nat.lt_irrefl _)
    | succ n =>
      obtain ⟨n0, hk'⟩ := hk (ys ++ [y]) H _ hNx (gi2 .running rfl)
      exact ih n (Nat.lt_succ_self n) { s₁.setGen gn gs' with heap := s₁.heap.update S (Obj.mapSeq (·.push v)) } n0 g2 l2 ⟨gs', setGen_at hsz1, hk'⟩
  · intro hsz
    obtain ⟨ys, H, pins, I1, ⟨acc, c, rys, ep⟩, nf1, _, hle, hDn⟩ := hp
    subst ep
    have hS1 : s₁.heap.get? S = some (lstObj acc c) := (I1.pin (S, lstObj acc c) (List.mem_append_right _ (List.mem_singleton.mpr rfl))).1
    have I2 := Gm.back I1
    have I3 : Inv X pX σ H { s₁.setGen gn .finished with heap := h' } := I2.call' (ch := []) rfl (Un.kept hk) (I2.hok.kept hk) (allBare_setGen I2.bare rfl) fun b z => absurd z (by simp)
    exact wpAny_pure (hend _ acc c ys H I3 (hk _ _ hS1) rys hle hDn)
  · obtain ⟨hc, hg1⟩ := he
    obtain ⟨q1, q2⟩ := hexc e s₁ hc
    exact ⟨Gm.gen _ (hg1 (a, go) (List.mem_singleton.mpr rfl)), q1, fun _ => q2⟩
end
end Mi
namespace Mi
open PySem PySem.Spec PyProof.Rows L2 GenW
open AutoSeq1 (wpAny_loadPart')

/-- the parts of a generator expression, read in its own frame -/
structure GxB (X : Cx) (k : Nat) (E : XK) (scope : Scope) (tg : Expr) (ifs : List Expr) (elt : Expr) (g : TG) (tt : TT) (te : TE) : Prop where
  pg : ∀ (A : Around) (s : Shared) (H : Hp) (C : Addr) (code : Value) (fp : List Addr) (pn : List (Addr × Obj)), Room k (A.deeper (gxEnv X scope C code)) → PG (gxCx X A s H E scope C code fp pn) tg g
  pt : ∀ (A : Around) (s : Shared) (H : Hp) (C : Addr) (code : Value) (fp : List Addr) (pn : List (Addr × Obj)), Room k (A.deeper (gxEnv X scope C code)) → PTs (gxCx X A s H E scope C code fp pn) ifs tt
  pe : ∀ (A : Around) (s : Shared) (H : Hp) (C : Addr) (code : Value) (fp : List Addr) (pn : List (Addr × Obj)), Room k (A.deeper (gxEnv X scope C code)) → PE (gxCx X A s H E scope C code fp pn) elt te
theorem frames_in1 {A : Around} {l : List Env} (h : A.frames = some l) : A.in1.frames = some l := h
section
variable {X : Cx} {pX : List (Addr × Obj)} {σ : L2.St} {elt tg iter : Expr} {ifs : List Expr} {scope : Scope} {own : List (Str × Nat)} {pos : Pos} {J : It} {H4 : Hp} {it : Addr} {fp : List Addr} {tn : Nat → Heap → Prop} {code : Value} {a : Addr} {gn : Nat} {go : Obj} {s4 s5 : Shared} {E : XK} {k : Nat} {g : TG} {tt : TT} {te : TE}
theorem gx_collect {A : Around} {Pr : List V → V → Hp → Prop} {Dn : List V → Hp → Prop} {Wv : Nat → Nat → List V → Hp → Prop} {m : Nat} {Q : List Value → Shared → Prop} {E' : Value → Shared → Prop} (Gm : GxMade X pX σ elt tg iter ifs scope own pos J H4 it fp tn code a gn go s4 s5) (B : GxB X k E scope tg ifs elt g tt te) (hN : X.N.Nodup) (hr : Room (k + 3) A) (hfr : A.frames = some X.stack)
    (turn : GxT (consL Pr Dn) J Wv g tt te (own.map (·.2)) σ) (w : Wv 0 m [] H4) (hQ : ∀ s' ys us H, Inv X pX σ H s' → Vals ys us → ys.length ≤ sizeLine → Dn ys H → Q us s')
    (hexc : ∀ e s', CXx X.prog X.w X.stack fp H4 s4 E e s' → NotStop (model X.prog X.w) e s'.heap ∧ E' e (s'.setGen gn .finished)) :
    wpAny (model X.prog X.w) A (collect (.ref a)) Q E' s5 := by
  have hr4 : Room k (A.in1.in1.deeper (gxEnv X scope s4.heap.objs.size code)) := (hr.in1.in1).deeper _
  have hg := Gm.gen _ Gm.at_
  have hl : s5.heap.NoLimit := Gm.I.nolimit.keeps Gm.kp
  have hSa : s5.heap.objs.size ≠ a := Nat.ne_of_gt Gm.sz
  unfold collect
  refine wpAny_bind (wpAny_runValue (codeAny_builtin F.entry_proto_collect ?_))
  rw [Around.under_plainId F.plain_proto_collect _]
  show wpAny _ A.in1 (newList [] >>= fun l => again (.builtin "list.__iadd__" ⟨[l, .ref a], []⟩)) _ _ s5
  refine wpAny_bind (wpAny_newObj_type ?_)
  refine wpAny_pure ⟨plainId_quiet F.plain_list_iadd _, codeAny_builtin F.entry_list_iadd ?_⟩
  rw [Around.under_plainId F.plain_list_iadd _]
  have hS : (s5.heap.push { cls := .type "list", data := .seq ([] : List Value).toArray }).get? s5.heap.objs.size = some { cls := .type "list", data := .seq #[] } := Heap.get?_push_size _ rfl
  have up : ∀ (h : Heap) (f : Obj → Obj), (∀ b o, s5.heap.get? b = some o → h.get? b = some o) → ∀ b o, s5.heap.get? b = some o → (h.update s5.heap.objs.size f).get? b = some o := fun h f q b o e => (Heap.get?_update_other _ _ (Ne.symm (Nat.ne_of_lt (Heap.lt_size e)))).trans (q b o e)
  have k1 : ∀ b o, s5.heap.get? b = some o → (s5.heap.push { cls := .type "list", data := .seq ([] : List Value).toArray }).get? b = some o := fun b o e => Heap.get?_push_of_some _ e
  show wpAny _ A.in1 (Builtin.List.listExtendWith (.ref s5.heap.objs.size) (.ref a) (.ref s5.heap.objs.size)) _ _ _
  unfold Builtin.List.listExtendWith
  refine wpAny_bind (wpAny_typeOf (Heap.IsGen.typeIs (s := { s5 with heap := _ }) (hg.keeps k1)) ?_)
  have h1 : Builtin.List.listSameRef (.ref s5.heap.objs.size) (.ref a) = false := by simp [Builtin.List.listSameRef, hSa]
  have h2 : (Value.type "generator" == Value.type "list") = false := by decide
  have h3 : (Value.type "generator" == Value.type "tuple") = false := by decide
  simp only [h1, h2, h3, Bool.or_false, Bool.false_eq_true, if_false]
  refine wpAny_bind (wpAny_pyIter_gen (s := { s5 with heap := _ }) (hg.keeps k1) ?_)
  refine wpAny_bind (wpAny_holding ?_)
  unfold Builtin.List.listLengthHint
  refine wpAny_bind (wpAny_specialOf (Heap.IsGen.typeIs (s := { s5 with heap := _ }) (hg.keeps k1)) F.gen_no_len ?_)
  show wpAny _ A.in1 (specialOf (Value.ref a) (Str.ofString "__length_hint__") >>= _) _ _ _
  refine wpAny_bind (wpAny_specialOf (Heap.IsGen.typeIs (s := { s5 with heap := _ }) (hg.keeps k1)) F.gen_no_hint ?_)
  refine wpAny_pure ?_
  show wpAny _ A.in1 (rule "list.extend.makes-room" >>= fun _ => Builtin.List.listTouch (.ref s5.heap.objs.size) >>= fun _ => again (.builtin "list.extend.loop" ⟨[.ref s5.heap.objs.size, .ref a, .ref s5.heap.objs.size], []⟩)) _ _ _
  refine wpAny_bind (wpAny_rule ?_)
  refine wpAny_bind ?_
  show wpAny _ A.in1 (updateSeq s5.heap.objs.size (·.push .none) >>= fun _ => updateSeq s5.heap.objs.size (·.pop)) _ _ _
  refine wpAny_bind (wpAny_updateSeq hS rfl ?_)
  have hS3 := Heap.get?_update_self (Obj.mapSeq (·.push Value.none)) hS rfl
  refine wpAny_updateSeq (hz := by seq_fits) hS3 rfl ?_
  have hS4 := Heap.get?_update_self (Obj.mapSeq (·.pop)) hS3 rfl
  have k4 := up _ (Obj.mapSeq (·.pop)) (up _ (Obj.mapSeq (·.push Value.none)) k1)
  refine wpAny_pure ⟨plainId_quiet F.plain_extend_loop _, ?_⟩
  refine gx_extend (A := A) (Pr := Pr) (Dn := Dn) (E := E) Gm hr.hd (by have := hr.dp; omega) (Nat.le_refl _) (fun s' acc c ys H I' eS rys hle hDn => ?_) hexc (m + 1) _ (Nat.succ_pos m) (hg.keeps k4) (hl.keeps k4) ⟨_, Gm.gs, rfl, ?_⟩
  · show wpAny _ A (load s5.heap.objs.size >>= _) _ _ s'
    refine wpAny_bind (wpAny_load eS ?_)
    exact wpAny_pure (hQ s' ys acc.toList H I' rys hle hDn)
  · exact gx_wake (C := List V) (K := consL Pr Dn) (P := PinL s5.heap.objs.size) (A := A.in1.in1) (E := E) (pins0 := [(s5.heap.objs.size, lstObj #[] _)]) Gm hN hr.hd hfr (B.pg _ _ _ _ _ _ _ hr4) (B.pt _ _ _ _ _ _ _ hr4) (B.pe _ _ _ _ _ _ _ hr4) turn w (Nat.lt_succ_self m) k4 rfl (allBare_setGen (s := { s5 with heap := _ }) Gm.bare rfl)
      (fun c pins ⟨_, _, _, e⟩ p hp => by rw [e] at hp; rw [List.mem_singleton.mp hp]; exact Nat.le_refl _) ⟨#[], _, .nil, rfl⟩ fun p hp => by rw [List.mem_singleton.mp hp]; exact ⟨hS4, fun v q => by cases q⟩
end
end Mi
namespace Mi
open PySem PySem.Spec PyProof.Rows L2 GenW
open AutoSeq1 (wpAny_loadPart')

/-! ### the turns of a generator, by mirrors; all that it hands out is a list -/
abbrev WE (E : XK) : WX := fun cls d _ H => E cls d H
abbrev EEx (tb : Tb) (E : XK) : Nat → Hp → Prop := fun c H => E (.ref (tb.c c)) none H
def srcOk : Src → Prop
  | .l ts => ts.length ≤ lineN
  | .f _ => True
instance : ∀ s, Decidable (srcOk s)
  | .l ts => inferInstanceAs (Decidable (ts.length ≤ lineN))
  | .f _ => inferInstanceAs (Decidable True)
/-- all that is handed out, within the line -/
def gxS (g : TgP) (c : TM) (e : EM) (τ : Mi.Loc) (src : Src) (M : Hs) : Res (List T) := match lcS g c e τ src M with
  | .ok ts M1 => if ts.length ≤ lineN then .ok ts M1 else .bad
  | .ex c M1 => if srcOk src then .ex c M1 else .bad
  | .bad => .bad
section
variable {tb : Tb} {K : PySem.W.Frag} {ρ : List Addr} {F H : Hp} {M : Hs} {τ : Mi.Loc} {σ : L2.St} {E : XK} {Pr : List V → V → Hp → Prop} {Dn : List V → Hp → Prop}
def accR (accT : List T) (r : Res (List T)) : Res (List T) := r.bind fun rs M => .ok (accT ++ rs) M
/-- what is asked of the items -/
def PrOk (tb : Tb) (K : PySem.W.Frag) (ρ : List Addr) (F H : Hp) (Pr : List V → V → Hp → Prop) (R0 : Res (List T)) : Prop := (∀ ys y H', Pr ys y H') ∨ ∃ all Mend, R0 = .ok all Mend ∧ ∀ accT v rest ρ' F' M' H' ys y, all = accT ++ v :: rest → Ext ρ F H ρ' F' H' → Sim tb K ρ' F' M' H' → RepL K F' ρ' accT ys → Rep K F' ρ' v y → Pr ys y H'
theorem gl_turn {ws : List Nat} {g : TgP} {c : TM} {e : EM} {ρ1 : List Addr} {F1 F2 : Hp} {M1 : Hs} {H1 H2 : Hp} {accT : List T} {ys : List V} {t : T} {x : V} {k : Hs → Res (List T)} {Nx : List V → Hp → Prop} {R0 : Res (List T)} (L : LocR K F ρ τ σ) (e1 : Ext ρ F H ρ1 F1 H1) (ra : RepL K F1 ρ1 accT ys)
    (e2 : Ext ρ1 F1 H1 ρ1 F2 H2) (S2 : Sim tb K ρ1 F2 M1 H2) (rx : Rep K F2 ρ1 t x) (p : accR accT (lcT g c e (wipeT τ ws) t k M1) = R0) (hb : R0 ≠ .bad) (hex : ∀ c M', R0 = .ex c M' → ∀ ρ' F' H', Ext ρ F H ρ' F' H' → Sim tb K ρ' F' M' H' → EEx tb E c H') (hl : ∀ all M', R0 = .ok all M' → all.length ≤ lineN) (hl2 : ∀ c M', R0 = .ex c M' → accT.length < lineN) (hPr : PrOk tb K ρ F H Pr R0)
    (fin : ∀ ρ3 F3 M3 H3 accT' ys', Ext ρ F H ρ3 F3 H3 → Sim tb K ρ3 F3 M3 H3 → RepL K F3 ρ3 accT' ys' → accT'.length ≤ accT.length + 1 → accR accT' (k M3) = R0 → Nx ys' H3) :
    tGP K ws g x (wipe σ ws) H2 fun σ2 H2 => wipe σ2 ws = wipe σ ws ∧ tTM tb K (WE E) c σ2 H2 fun b H3 => if b = true then tM tb K (WE E) e σ2 H3 fun y H4 => (consL Pr Dn).recv ys y H4 Nx else Nx ys H3 := by
  have e12 := e1.trans e2
  have ra2 := ra.mono e2
  unfold lcT at p
  cases eg : g t (wipeT τ ws) with
  | none => rw [eg] at p; exact absurd p.symm hb
  | some τ1 =>
  rw [eg] at p
  dsimp only at p
  refine ⟨ρ1, F2, wipeT τ ws, τ1, t, S2.sub, ((L.wipe ws).mono e12), rx, eg, fun σ2 L2' hw => ⟨hw.trans (wipe_wipe fun _ h => h), ρ1, F2, M1, τ1, S2, L2', ?_⟩⟩
  cases ec : c τ1 M1 with
  | bad => rw [ec] at p; exact absurd p.symm hb
  | ex cc M' => rw [ec] at p; exact fun ρ3 F3 H3 e3 S3 => hex cc M' p.symm ρ3 F3 H3 (e12.trans e3) S3
  | ok b M2 =>
  rw [ec] at p
  simp only [Res.bind] at p
  intro ρ3 F3 H3 e3 S3
  have e13 := e12.trans e3
  cases b with
  | false => exact fin ρ3 F3 M2 H3 accT ys e13 S3 (ra2.mono e3) (Nat.le_succ _) p
  | true =>
    rw [if_pos rfl] at p
    dsimp only
    rw [if_pos rfl]
    refine ⟨ρ3, F3, M2, τ1, S3, L2'.mono e3, ?_⟩
    cases ee : e τ1 M2 with
    | bad => rw [ee] at p; exact absurd p.symm hb
    | ex cc M' => rw [ee] at p; exact fun ρ4 F4 H4 e4 S4 => hex cc M' p.symm ρ4 F4 H4 (e13.trans e4) S4
    | ok v M3 =>
    rw [ee] at p
    simp only [Res.bind] at p
    intro ρ4 F4 H4 e4 S4 y ry
    have e14 := e13.trans e4
    have ra4 := (ra2.mono e3).mono e4
    have hlen : ys.length = accT.length := ra4.length.symm
    refine ⟨?_, ?_, fin ρ4 F4 M3 H4 (accT ++ [v]) (ys ++ [y]) e14 S4 (ra4.append (.cons _ _ _ _ ry .nil)) (by simp) ?_⟩
    · rw [← lineN_eq, hlen]
      cases ek : k M3 with
      | bad => rw [ek] at p; exact absurd p.symm hb
      | ex cc M' => rw [ek] at p; exact hl2 cc M' p.symm
      | ok r' M4 =>
        rw [ek] at p
        have := hl _ _ p.symm
        simp at this
        omega
    · rcases hPr with h | ⟨all, Mend, h1, h2⟩
      · exact h _ _ _
      · cases ek : k M3 with
        | bad => rw [ek, h1] at p; cases p
        | ex cc M' => rw [ek, h1] at p; cases p
        | ok r' M4 =>
          rw [ek, h1] at p
          cases p
          exact h2 accT v r' ρ4 F4 M3 H4 ys y rfl e14 S4 ra4 ry
    · rw [← p]
      cases k M3 with
      | bad => rfl
      | ex _ _ => rfl
      | ok r' M4 => simp [accR, Res.bind]
theorem gl_loop {ws : List Nat} {g : TgP} {c : TM} {e : EM} {J : It} {src : Src} (S : Sim tb K ρ F M H) (L : LocR K F ρ τ σ) (hJ : Its tb K J ρ F H src) {R0 : Res (List T)} (p : gxS g c e (wipeT τ ws) src M = R0)
    (hR : RP tb K ρ F H (EEx tb E) (fun all ρ' F' H' => ∀ vs, RepL K F' ρ' all vs → Dn vs H') R0) (hPr : PrOk tb K ρ F H Pr R0) :
    ∃ Wv : Nat → Nat → List V → Hp → Prop, (∃ m, Wv 0 m [] H) ∧ GxT (consL Pr Dn) J Wv (tGP K ws g) (tTM tb K (WE E) c) (tM tb K (WE E) e) ws σ := by
  have hb : R0 ≠ .bad := fun z => by rw [z] at hR; exact hR
  have hex : ∀ c M', R0 = .ex c M' → ∀ ρ' F' H', Ext ρ F H ρ' F' H' → Sim tb K ρ' F' M' H' → EEx tb E c H' := fun c M' z => by rw [z] at hR; exact hR
  have hok : ∀ all M', R0 = .ok all M' → ∀ ρ' F' H', Ext ρ F H ρ' F' H' → Sim tb K ρ' F' M' H' → ∀ vs, RepL K F' ρ' all vs → Dn vs H' := fun c M' z => by rw [z] at hR; exact hR
  have hl : ∀ all M', R0 = .ok all M' → all.length ≤ lineN := fun all M' z => by
    rw [z] at p
    unfold gxS at p
    split at p
    · split at p
      · rename_i q
        cases p
        exact q
      · cases p
    · split at p <;> cases p
    · cases p
  have hs : ∀ c M', R0 = .ex c M' → srcOk src := fun c M' z => by
    rw [z] at p
    unfold gxS at p
    split at p
    · split at p <;> cases p
    · split at p
      · assumption
      · cases p
    · cases p
  have p0 : lcS g c e (wipeT τ ws) src M = R0 := by
    unfold gxS at p
    split at p
    · split at p
      · rename_i z _; rw [z]; exact p
      · exact absurd p.symm hb
    · split at p
      · rename_i z _; rw [z]; exact p
      · exact absurd p.symm hb
    · exact absurd p.symm hb
  have a0 : ∀ r : Res (List T), accR [] r = r := fun r => by cases r <;> rfl
  have done : ∀ {ρ1 : List Addr} {F1 : Hp} {M1 : Hs} {H1 : Hp} {accT : List T} {ys : List V}, Ext ρ F H ρ1 F1 H1 → Sim tb K ρ1 F1 M1 H1 → RepL K F1 ρ1 accT ys → accR accT (.ok [] M1) = R0 → (consL Pr Dn).done ys H1 := fun {ρ1 F1 M1 H1 accT ys} e1 S1 ra q => by
    have q : Res.ok (accT ++ []) M1 = R0 := q
    rw [List.append_nil] at q
    exact ⟨by rw [← ra.length, ← lineN_eq]; exact hl _ _ q.symm, hok _ _ q.symm ρ1 F1 H1 e1 S1 ys ra⟩
  cases src with
  | l ts =>
    refine ⟨fun i m ys H' => ∃ ρ1 F1 M1 accT, Ext ρ F H ρ1 F1 H' ∧ Sim tb K ρ1 F1 M1 H' ∧ RepL K F1 ρ1 accT ys ∧ accT.length ≤ i ∧ m + i = ts.length ∧ accR accT (lcL g c e (wipeT τ ws) (ts.drop i) M1) = R0, ⟨ts.length, ρ, F, M, [], .refl, S, .nil, Nat.zero_le _, rfl, by rw [List.drop_zero, a0]; exact p0⟩, ?_⟩
    rintro i m ys H1 ⟨ρ1, F1, M1, accT, e1, S1, ra, hle, hm, p1⟩
    obtain ⟨h1, h2⟩ := hJ i ρ1 F1 M1 H1 e1 S1
    by_cases hi : i < ts.length
    · rw [List.drop_eq_getElem_cons hi] at p1
      obtain ⟨go, yl⟩ := h1 _ (List.getElem?_eq_getElem hi)
      refine .inr ⟨go, fun ys' H' => ∃ ρ1 F1 M1 accT, Ext ρ F H ρ1 F1 H' ∧ Sim tb K ρ1 F1 M1 H' ∧ RepL K F1 ρ1 accT ys' ∧ accT.length ≤ i + 1 ∧ (m - 1) + (i + 1) = ts.length ∧ accR accT (lcL g c e (wipeT τ ws) (ts.drop (i + 1)) M1) = R0, fun ys' H' q => ⟨m - 1, by omega, q⟩, fun x H' y => ?_⟩
      obtain ⟨F2, e2, S2, r2⟩ := yl x H' y
      exact gl_turn (E := E) (k := lcL g c e (wipeT τ ws) (ts.drop (i + 1))) L e1 ra e2 S2 r2 p1 hb hex hl (fun c M' z => Nat.lt_of_le_of_lt hle (Nat.lt_of_lt_of_le hi (hs c M' z))) hPr fun ρ3 F3 M3 H3 accT' ys' e3 S3 r3 l3 q3 => ⟨ρ3, F3, M3, accT', e3, S3, r3, by omega, by omega, q3⟩
    · have hi' : i = ts.length := by omega
      rw [List.drop_eq_nil_of_le (by omega)] at p1
      exact .inl ⟨h2 hi', done e1 S1 ra p1⟩
  | f nx =>
    have big : 1000000 ≤ lineN := by rw [lineN_eq]; decide
    refine ⟨fun i m ys H' => ∃ ρ1 F1 M1 accT, Ext ρ F H ρ1 F1 H' ∧ Sim tb K ρ1 F1 M1 H' ∧ RepL K F1 ρ1 accT ys ∧ accT.length + m ≤ 1000000 ∧ accR accT (lcF g c e (wipeT τ ws) nx m i M1) = R0, ⟨1000000, ρ, F, M, [], .refl, S, .nil, by simp, by rw [a0]; exact p0⟩, ?_⟩
    rintro i m ys H1 ⟨ρ1, F1, M1, accT, e1, S1, ra, hle, p1⟩
    obtain ⟨h1, h2⟩ := hJ i ρ1 F1 M1 H1 e1 S1
    cases m with
    | zero => exact absurd p1.symm hb
    | succ m =>
      unfold lcF at p1
      cases en : nx i M1 with
      | none => rw [en] at p1; exact absurd p1.symm hb
      | some o =>
        rw [en] at p1
        cases o with
        | none => exact .inl ⟨h2 en, done e1 S1 ra p1⟩
        | some t =>
          obtain ⟨go, yl⟩ := h1 _ en
          refine .inr ⟨go, fun ys' H' => ∃ ρ1 F1 M1 accT, Ext ρ F H ρ1 F1 H' ∧ Sim tb K ρ1 F1 M1 H' ∧ RepL K F1 ρ1 accT ys' ∧ accT.length + m ≤ 1000000 ∧ accR accT (lcF g c e (wipeT τ ws) nx m (i + 1) M1) = R0, fun ys' H' q => ⟨m, Nat.lt_succ_self m, q⟩, fun x H' y => ?_⟩
          obtain ⟨F2, e2, S2, r2⟩ := yl x H' y
          exact gl_turn (E := E) (k := lcF g c e (wipeT τ ws) nx m (i + 1)) L e1 ra e2 S2 r2 p1 hb hex hl (fun c M' z => by omega) hPr fun ρ3 F3 M3 H3 accT' ys' e3 S3 r3 l3 q3 => ⟨ρ3, F3, M3, accT', e3, S3, r3, by omega, q3⟩
end
end Mi
namespace Mi
open PySem PySem.Spec PyProof.Rows L2 GenW
open AutoSeq1 (wpAny_loadPart')

/-! ### tuple(.. for ..) -/
section
variable {X : Cx} {pX : List (Addr × Obj)} {σ : L2.St} {elt tg iter : Expr} {ifs : List Expr} {scope : Scope} {own : List (Str × Nat)} {pos : Pos} {J : It} {H4 : Hp} {it : Addr} {fp : List Addr} {tn : Nat → Heap → Prop} {code : Value} {a : Addr} {gn : Nat} {go : Obj} {s4 s5 : Shared} {E : XK} {k : Nat} {g : TG} {tt : TT} {te : TE}
theorem gx_tuple {A : Around} {Pr : List V → V → Hp → Prop} {Dn : List V → Hp → Prop} {Wv : Nat → Nat → List V → Hp → Prop} {m : Nat} {Q : Value → Shared → Prop} {E' : Value → Shared → Prop} (Gm : GxMade X pX σ elt tg iter ifs scope own pos J H4 it fp tn code a gn go s4 s5) (B : GxB X k E scope tg ifs elt g tt te) (hN : X.N.Nodup) (hr : Room (k + 5) A) (hfr : A.frames = some X.stack)
    (turn : GxT (consL Pr Dn) J Wv g tt te (own.map (·.2)) σ) (w : Wv 0 m [] H4) (hQ : ∀ s' ys us H, Inv X pX σ H s' → Vals ys us → ys.length ≤ sizeLine → Dn ys H → Q (.ref s'.heap.objs.size) { s' with heap := s'.heap.push { cls := .type "tuple", data := .seq us.toArray } })
    (hexc : ∀ e s', CXx X.prog X.w X.stack fp H4 s4 E e s' → NotStop (model X.prog X.w) e s'.heap ∧ E' e (s'.setGen gn .finished)) :
    wpAny (model X.prog X.w) A (call (.type "tuple") [.ref a]) Q E' s5 := by
  have mk : codeAny (model X.prog X.w) A.in1 (.call (.builtin "tuple.__new__") ⟨[.type "tuple", .ref a], []⟩) (wants (fun obj s₁ => s₁.TypeIs obj "tuple" ∧ Q obj s₁) E') s5 := by
    refine codeAny_of_tree ?_
    show wpAny _ A.in1.in1 (do checkBuiltinCall "tuple.__new__" ⟨[.type "tuple", .ref a], []⟩; again (.builtin "tuple.__new__" ⟨[.type "tuple", .ref a], []⟩)) _ _ s5
    refine wpAny_bind (wpAny_of_eq (F.newCall_tuple_1 _) (wpAny_pure ⟨plainId_quiet F.plain_tuple_new _, codeAny_builtin F.entry_tuple_new ?_⟩))
    rw [Around.under_plainId F.plain_tuple_new _]
    have hsub := sub_tuple_self
    have hinit := init_tuple_lookup
    have hmh := madeHere_tuple
    have hTI := (Gm.gen _ Gm.at_).typeIs
    have hcol := fun (Q : List Value → Shared → Prop) (E' : Value → Shared → Prop) hQ hexc => gx_collect (A := A.in1.in1) (Pr := Pr) (Dn := Dn) (Q := Q) (E' := E') Gm B hN hr.in1.in1 hfr turn w hQ hexc
    wp_walk using wpAny_typeOf hTI, hcol
    · intro s' ys us H I r hle hd
      show wpAny _ _ (Builtin.Tuple.tupleExact us.toArray >>= fun v => ret v) _ _ _
      unfold Builtin.Tuple.tupleExact
      refine wpAny_bind (wpAny_newObj_type ?_ (by show us.toArray.size ≤ sizeLine; rw [List.size_toArray, ← r.length]; exact hle))
      exact wpAny_pure ⟨⟨_, Heap.get?_push_size _ rfl, rfl⟩, hQ s' ys us H I r hle hd⟩
    · exact hexc
  refine callType_codes (Q₁ := fun obj s₁ => s₁.TypeIs obj "tuple" ∧ Q obj s₁) F.called_tuple (F.typeCall_tuple_1 _) F.entry_object_init mk fun obj s₁ h₁ => ?_
  exact ⟨h₁.1, F.args_object_init_2 obj _, object_init_meets F.called_tuple.init.lookup F.called_tuple.made (by decide) X.prog X.w A.in1 _ s₁ ⟨h₁.1, rfl, h₁.2⟩⟩
end
def gxK {α : Type} (cs : List Nat) (k : List T → Hs → Res α) : Res (List T) → Res α
  | .ok ts M => k ts M
  | .ex c M => if cs.contains c then .ex c M else .bad
  | .bad => .bad
def mGTup (cs : List Nat) (it : IM) (ws : List Nat) (g : TgP) (c : TM) (e : EM) : EM := fun τ M => (it τ M).bind fun src M1 => gxK cs (fun ts M2 => .ok (.tup ts) M2) (gxS g c e (wipeT τ ws) src M1)
/-- these are no StopIteration -/
def NoSI (K : PySem.W.Frag) (tb : Tb) (cs : List Nat) : Prop := ∀ c ∈ cs, PySem.W.subIn K (.ref (tb.c c)) (.type "StopIteration") = some false
abbrev EK (K : PySem.W.Frag) (W : WX) (σ : L2.St) : XK := fun cls d H => W cls d σ H ∧ PySem.W.subIn K cls (.type "StopIteration") = some false
section
variable {X : Cx} {tb : Tb} {W : WX}
theorem mE_gtup (cs : List Nat) {Pt c' : Addr} {nm : Nat → Nat → Str} {k : Nat} {own : List (Str × Nat)} {elt tg iter : Expr} {ifs : List Expr} {scope : Scope} {p gpos pos : Pos} {it : IM} {g : TgP} {c : TM} {e : EM} (TX : TabX X tb.T c' Pt nm) (hr : Room (k + 5) X.A) (hN : X.N.Nodup) (tk : Takes X W) (hns : NoSI X.K tb cs)
    (G : GxS X.N X.env.scope scope own) (hi : PI X tg iter (tI tb X.K W it)) (B : ∀ E, GxB X k E scope tg ifs elt (tGP X.K (own.map (·.2)) g) (tTM tb X.K (WE E) c) (tM tb X.K (WE E) e)) (hmg : X.mg "tuple" = none) (hg : Gl X "tuple" := by rfl) (hnm : nm gpos.line gpos.col = X.env.qual ++ "<genexpr>" := by rfl) (hs : ∀ v, genFold iter X.env v = pure v := by intro _; rfl)
    (he : starEach [.GeneratorExp elt [⟨tg, iter, ifs, 0⟩] scope gpos] X.env = (false, eval (.GeneratorExp elt [⟨tg, iter, ifs, 0⟩] scope gpos) X.env) :: starEach [] X.env := by rfl) :
    PE X (.Call (.Name "tuple" p) [.GeneratorExp elt [⟨tg, iter, ifs, 0⟩] scope gpos] [] pos) (tM tb X.K W (mGTup cs it (own.map (·.2)) g c e)) := by
  refine ⟨fun pX s σ H Q I h => ?_⟩
  obtain ⟨ρ, F, M, τ, S, L, q⟩ := h
  refine wpAny_Call_Name_kw (ld_blt I hg hmg (by rfl) ?_)
  refine PyProof.Rows.callWith_type1 ?_ he rfl
  rw [he]
  show wpAny _ _ (spliced ((false, eval (.GeneratorExp elt [⟨tg, iter, ifs, 0⟩] scope gpos) X.env) :: backTo pos (starEach [] X.env))) _ _ s
  refine Calls.spliced_cons (gx_make (own := own) (R := fun J H2 => ∃ Wv : Nat → Nat → List V → Hp → Prop, (∃ m, Wv 0 m [] H2) ∧ GxT (consL (fun _ _ _ => True) fun ys H => ∀ p, H p = none → Q (.ref p) (upd H p (.tup ys))) J Wv (tGP X.K (own.map (·.2)) g) (tTM tb X.K (WE (EK X.K W σ)) c) (tM tb X.K (WE (EK X.K W σ)) e) (own.map (·.2)) σ)
    I TX G hi hnm (by have := hr.dp; omega) hs ⟨ρ, F, M, τ, S, L, (RP.bind q).imp fun src ρ1 F1 H1 e1 q1 J hJ => ?_⟩ fun J H4 it fp tn code a gn go s4 s5 Gm hR => ?_)
  · obtain ⟨M1, _, S1, p1⟩ := q1
    refine ⟨S1.tab, fun H2 eN T1 => ?_⟩
    obtain ⟨S2, e2⟩ := S1.grow eN T1
    have p2 := p1.mono e2
    generalize hR0 : gxS g c e (wipeT τ (own.map (·.2))) src M1 = R0 at p2
    refine gl_loop S2 (L.mono (e1.trans e2)) (hJ.mono e2) hR0 ?_ (.inl fun _ _ _ => trivial)
    cases R0 with
    | bad => exact p2.elim
    | ex cc M' =>
      unfold gxK at p2
      dsimp only at p2
      split at p2
      · rename_i hcc
        exact fun ρ' F' H' e' S' => ⟨p2 ρ' F' H' e' S', hns cc (List.contains_iff_mem.mp hcc)⟩
      · exact p2.elim
    | ok all M' =>
      intro ρ' F' H' e' S' vs rv p hp
      exact new_tup S' rv (p2.mono e') p hp
  · obtain ⟨Wv, ⟨m, w⟩, turn⟩ := hR
    refine Calls.spliced_nil (gx_tuple (E := EK X.K W σ) Gm (B _) hN hr I.ok.frames turn w (fun s' ys us H' I' rys hle hd => ?_) fun e s' hx => ⟨Gm.notStop (fun cls d H h => h.2) hx, Gm.exc tk (fun cls d H h => h.1) hx⟩)
    have I2 : Inv X pX σ (upd H' s'.heap.objs.size (.tup ys)) { s' with heap := s'.heap.push { cls := .type "tuple", data := .seq us.toArray } } :=
      I'.laid (t' := s'.toks) (fun b o e => Heap.get?_push_of_some _ e) (Nat.le_refl _) (show ObjOk X.prog X.w _ _ _ (.tup ys) from ⟨hle, us, rys, IsTup.new _ _⟩)
    exact ⟨.ref s'.heap.objs.size, _, I2, rfl, hd _ (I'.hok.fresh (Nat.le_refl _))⟩
end
end Mi
namespace Mi
open PySem PySem.Spec PyProof.Rows L2 GenW
open AutoSeq1 (wpAny_loadPart')

/-! ### one item of a generator -/
section
variable {X : Cx} {pX : List (Addr × Obj)} {σ : L2.St} {elt tg iter : Expr} {ifs : List Expr} {scope : Scope} {own : List (Str × Nat)} {pos : Pos} {J : It} {H4 : Hp} {it : Addr} {fp : List Addr} {tn : Nat → Heap → Prop} {code : Value} {a : Addr} {gn : Nat} {go : Obj} {s4 s5 : Shared} {E : XK}
section
variable {C : Type} {K : Cons C} {P : C → List (Addr × Obj) → Prop}
/-- the generator rests, awaits a turn, with n turns at most -/
def GxRest (X : Cx) (σ : L2.St) (scope : Scope) (own : List (Str × Nat)) (H4 : Hp) (fp : List Addr) (tn : Nat → Heap → Prop) (code : Value) (a : Addr) (gn : Nat) (go : Obj) (s4 : Shared) (E : XK) (P : C → List (Addr × Obj) → Prop) (K : Cons C) (A : Around) (n : Nat) (gs : GenState) (s : Shared) : Prop :=
  gs.Goes (model X.prog X.w) A.in1 (GxR (gxCx X A.in1 s4 H4 E scope s4.heap.objs.size code fp [(a, go)]) fp (wipe σ (own.map (·.2))) P K (ErX X fp H4 s4 E a go)) (GxY (gxCx X A.in1 s4 H4 E scope s4.heap.objs.size code fp [(a, go)]) fp tn (wipe σ (own.map (·.2))) P K) n (.send .none) s
theorem gx_pull {A : Around} {n : Nat} {s : Shared} {gs : GenState} {Q : Option Value → Shared → Prop} {E' : Value → Shared → Prop} (Gm : GxMade X pX σ elt tg iter ifs scope own pos J H4 it fp tn code a gn go s4 s5) (hh : A.handled = none) (hd : A.depth < recursionLimit) (hn : 0 < n) (hg : s.heap.IsGen a gn) (hl : s.heap.NoLimit) (hgs : s.gens[gn]? = some gs)
    (hgo : GxRest X σ scope own H4 fp tn code a gn go s4 E P K A n gs (s.setGen gn .running))
    (hY : ∀ v s₁ gs' i c y H Nx, gs'.bare = true → gn < s₁.gens.size → RelV y v → GxI (gxCx X A.in1 s4 H4 E scope s4.heap.objs.size code fp [(a, go)]) fp tn (wipe σ (own.map (·.2))) P s i c H s₁ → K.recv c y H Nx →
      (∀ c' H' s', Nx c' H' → GxI (gxCx X A.in1 s4 H4 E scope s4.heap.objs.size code fp [(a, go)]) fp tn (wipe σ (own.map (·.2))) P s' i c' H' s' → ∃ m, 0 < m ∧ m < n ∧ GxRest X σ scope own H4 fp tn code a gn go s4 E P K A m gs' s') → Q (some v) (s₁.setGen gn gs'))
    (hN : ∀ s₁ c H pins, Inv X pX σ H s₁ → P c pins → (∀ p ∈ pins, s.heap.get? p.1 = some p.2 ∧ s₁.heap.get? p.1 = some p.2 ∧ H p.1 = none) → K.done c H → Q none s₁)
    (hE : ∀ e s', CXx X.prog X.w X.stack fp H4 s4 E e s' → NotStop (model X.prog X.w) e s'.heap ∧ E' e (s'.setGen gn .finished)) : wpAny (model X.prog X.w) A (pyNext (.ref a)) Q E' s := by
  have hgl : gn < s.gens.size := (Array.getElem?_eq_some_iff.mp hgs).1
  refine wpAny_gsz (n := gn + 1) hgl (next_genG (A := A) (Er := ErX X fp H4 s4 E a go) (F := fun _ s₀ s => ∃ c H pins, Inv (gxCx X A.in1 s4 H4 E scope s4.heap.objs.size code fp [(a, go)]) pins (wipe σ (own.map fun p : Str × Nat => p.2)) H s ∧ P c pins ∧ (∀ b ∈ fp, H b = none) ∧ (∀ p ∈ pins, s₀.heap.get? p.1 = some p.2) ∧ K.done c H) hh hl hd hg hgs hgo (fun v s₁ gs' hbare hv => ?_) (fun s₁ hp h' hk => ?_) fun e s₁ he => ?_)
  · intro hsz
    obtain ⟨i, c, y, H, Nx, rv, gi, hr, hk⟩ := hv
    have hsz1 : gn < s₁.gens.size := by
      have q : (s₁.setGen gn gs').gens.size = s₁.gens.size := setGen_size _ _ _
      have hsz' : gn + 1 ≤ (s₁.setGen gn gs').gens.size := hsz
      omega
    refine hY v s₁ gs' i c y H Nx hbare hsz1 rv gi hr fun c' H' s' nx gi' => ?_
    cases n with
    | zero => exact absurd hn (Nat.lt_irrefl _)
    | succ n =>
      obtain ⟨n0, q⟩ := hk c' H' s' nx gi'
      exact ⟨n, n0, Nat.lt_succ_self n, q⟩
  · intro _
    obtain ⟨c, H, pins, I1, pc, nf1, h0, dn⟩ := hp
    have I2 := Gm.back I1
    have I3 : Inv X pX σ H { s₁.setGen gn .finished with heap := h' } := I2.call' (ch := []) rfl (Un.kept hk) (I2.hok.kept hk) (allBare_setGen I2.bare rfl) fun b z => absurd z (by simp)
    exact hN _ c H pins I3 pc (fun p hp => ⟨h0 p hp, hk _ _ (I1.pin p (List.mem_append_right _ hp)).1, (I1.pin p (List.mem_append_right _ hp)).2.1⟩) dn
  · obtain ⟨hc, hg1⟩ := he
    obtain ⟨q1, q2⟩ := hE e s₁ hc
    exact ⟨Gm.gen _ (hg1 (a, go) (List.mem_singleton.mpr rfl)), q1, fun _ => q2⟩
/-- nothing is kept by the eater: it rests on -/
theorem gx_rest0 {A : Around} {i : Nat} {c c' : C} {H : Hp} {s₀ s₁ : Shared} {gs' x : GenState} (Gm : GxMade X pX σ elt tg iter ifs scope own pos J H4 it fp tn code a gn go s4 s5) (hP : ∀ c, P c []) (hb : gs'.bare = true) (hx : x.bare = true)
    (gi : GxI (gxCx X A s4 H4 E scope s4.heap.objs.size code fp [(a, go)]) fp tn (wipe σ (own.map (·.2))) P s₀ i c H s₁) : GxI (gxCx X A s4 H4 E scope s4.heap.objs.size code fp [(a, go)]) fp tn (wipe σ (own.map (·.2))) P ((s₁.setGen gn gs').setGen gn x) i c' H ((s₁.setGen gn gs').setGen gn x) := by
  obtain ⟨pins, I1, pc, st, nf, _⟩ := id gi
  exact Gm.slept (Ss := []) (fun b hb => absurd hb (by simp)) (fun c pins _ b hb => absurd hb (by simp)) gi rfl (allBare_setGen (allBare_setGen I1.bare hb) hx) (fun b o _ e => e) (fun b hb => absurd hb (by simp)) (hP c') fun p hp => absurd hp (by simp)
end
/-! ### any, all -/
/-- st: the truth that ends it -/
def consB (st : Bool) (Qx : Hp → Prop) (Dn : Hp → Prop) : Cons Unit where
  recv := fun _ y H Nx => ∃ b, y = .bl b ∧ if b = st then Qx H else Nx () H
  done := fun _ H => Dn H
theorem gx_any {A : Around} {Qx Dn : Hp → Prop} {Rr : Result → Shared → Prop} (Gm : GxMade X pX σ elt tg iter ifs scope own pos J H4 it fp tn code a gn go s4 s5) (hh : A.handled = none) (hd : A.depth < recursionLimit)
    (hend : ∀ s' H b, Inv X pX σ H s' → (if b = true then Qx H else Dn H) → Rr (.ok (.ret (.bool b))) s') (hexc : ∀ e s', CXx X.prog X.w X.stack fp H4 s4 E e s' → NotStop (model X.prog X.w) e s'.heap ∧ Rr (.error e) (s'.setGen gn .finished)) :
    ∀ (n : Nat) (s : Shared), 0 < n → s.heap.IsGen a gn → s.heap.NoLimit → (∃ gs, s.gens[gn]? = some gs ∧ GxRest X σ scope own H4 fp tn code a gn go s4 E (fun _ p => p = []) (consB true Qx Dn) A.in1 n gs (s.setGen gn .running)) → codeAny (model X.prog X.w) A (.builtin "any.loop" ⟨[.ref a], []⟩) Rr s := by
  intro n
  induction n using Nat.strongRecOn with
  | ind n ih =>
  intro s hn hg hl ⟨gs, hgs, hgo⟩
  refine codeAny_builtin F.entry_any_loop ?_
  rw [Around.under_plainId F.plain_any_loop _]
  show wpAny _ A.in1 (pyNext (.ref a) >>= _) _ _ s
  refine wpAny_bind (gx_pull (A := A.in1) Gm hh hd hn hg hl hgs hgo (fun v s₁ gs' i c y H Nx hb hsz rv gi ⟨b, e, hr⟩ nx => ?_) (fun s₁ c H pins I _ _ dn => ?_) hexc)
  · subst e
    obtain rfl : v = Value.bool b := rv
    refine wpAny_bind (wpAny_holding (wpAny_truthy_bool ?_))
    refine wpAny_bind (wpAny_letGo ?_)
    have gi2 : ∀ x : GenState, x.bare = true → _ := fun x hx => gx_rest0 (P := fun (_ : Unit) (p : List (Addr × Obj)) => p = []) (c' := ()) (x := x) Gm (fun _ => rfl) hb hx gi
    obtain ⟨pins2, I2, _⟩ := gi2 .running rfl
    have g2 := Gm.isGen I2
    have l2 := I2.nolimit
    cases b with
    | true =>
      simp only [if_true] at hr ⊢
      obtain ⟨pins, I1, _⟩ := gi
      have I3 := Gm.back I1
      have I4 : Inv X pX σ H (s₁.setGen gn gs') := I3.call' (ch := []) rfl (Un.kept fun _ _ e => e) I3.hok (allBare_setGen I3.bare hb) fun b z => absurd z (by simp)
      exact wpAny_bind (wpAny_rule (wpAny_pure (hend _ H true I4 hr)))
    | false =>
      simp only [Bool.false_eq_true, if_false] at hr ⊢
      obtain ⟨m, m0, mn, q⟩ := nx () H _ hr (gi2 .running rfl)
      exact wpAny_pure ⟨plainId_quiet F.plain_any_loop _, ih m mn (s₁.setGen gn gs') m0 g2 l2 ⟨gs', setGen_at hsz, q⟩⟩
  · exact wpAny_bind (wpAny_rule (wpAny_pure (hend s₁ H false I (by rw [if_neg Bool.false_ne_true]; exact dn))))
theorem gx_all {A : Around} {Qx Dn : Hp → Prop} {Rr : Result → Shared → Prop} (Gm : GxMade X pX σ elt tg iter ifs scope own pos J H4 it fp tn code a gn go s4 s5) (hh : A.handled = none) (hd : A.depth < recursionLimit)
    (hend : ∀ s' H b, Inv X pX σ H s' → (if b = true then Dn H else Qx H) → Rr (.ok (.ret (.bool b))) s') (hexc : ∀ e s', CXx X.prog X.w X.stack fp H4 s4 E e s' → NotStop (model X.prog X.w) e s'.heap ∧ Rr (.error e) (s'.setGen gn .finished)) :
    ∀ (n : Nat) (s : Shared), 0 < n → s.heap.IsGen a gn → s.heap.NoLimit → (∃ gs, s.gens[gn]? = some gs ∧ GxRest X σ scope own H4 fp tn code a gn go s4 E (fun _ p => p = []) (consB false Qx Dn) A.in1 n gs (s.setGen gn .running)) → codeAny (model X.prog X.w) A (.builtin "all.loop" ⟨[.ref a], []⟩) Rr s := by
  intro n
  induction n using Nat.strongRecOn with
  | ind n ih =>
  intro s hn hg hl ⟨gs, hgs, hgo⟩
  refine codeAny_builtin F.entry_all_loop ?_
  rw [Around.under_plainId F.plain_all_loop _]
  show wpAny _ A.in1 (pyNext (.ref a) >>= _) _ _ s
  refine wpAny_bind (gx_pull (A := A.in1) Gm hh hd hn hg hl hgs hgo (fun v s₁ gs' i c y H Nx hb hsz rv gi ⟨b, e, hr⟩ nx => ?_) (fun s₁ c H pins I _ _ dn => ?_) hexc)
  · subst e
    obtain rfl : v = Value.bool b := rv
    refine wpAny_bind (wpAny_holding (wpAny_truthy_bool ?_))
    refine wpAny_bind (wpAny_letGo ?_)
    have gi2 : ∀ x : GenState, x.bare = true → _ := fun x hx => gx_rest0 (P := fun (_ : Unit) (p : List (Addr × Obj)) => p = []) (c' := ()) (x := x) Gm (fun _ => rfl) hb hx gi
    obtain ⟨pins2, I2, _⟩ := gi2 .running rfl
    have g2 := Gm.isGen I2
    have l2 := I2.nolimit
    cases b with
    | true =>
      simp only [Bool.true_eq_false, if_false, if_true] at hr ⊢
      obtain ⟨m, m0, mn, q⟩ := nx () H _ hr (gi2 .running rfl)
      exact wpAny_pure ⟨plainId_quiet F.plain_all_loop _, ih m mn (s₁.setGen gn gs') m0 g2 l2 ⟨gs', setGen_at hsz, q⟩⟩
    | false =>
      simp only [if_true, Bool.false_eq_true, if_false] at hr ⊢
      obtain ⟨pins, I1, _⟩ := gi
      have I3 := Gm.back I1
      have I4 : Inv X pX σ H (s₁.setGen gn gs') := I3.call' (ch := []) rfl (Un.kept fun _ _ e => e) I3.hok (allBare_setGen I3.bare hb) fun b z => absurd z (by simp)
      exact wpAny_bind (wpAny_rule (wpAny_pure (hend _ H false I4 (by rw [if_neg Bool.false_ne_true]; exact hr))))
  · exact wpAny_bind (wpAny_rule (wpAny_pure (hend s₁ H true I (by rw [if_pos rfl]; exact dn))))
end
end Mi
namespace Mi
open PySem PySem.Spec PyProof.Rows L2 GenW
open AutoSeq1 (wpAny_loadPart')

/-! ### any, all: mirrors -/
def byT (st : Bool) (g : TgP) (c : TM) (e : EM) (τ : Mi.Loc) (t : T) (k : Hs → Res Bool) : Hs → Res Bool := fun M => match g t τ with
  | none => .bad
  | some τ1 => (c τ1 M).bind fun b M1 => if b then (e τ1 M1).bind fun v M2 => match v with
    | .bl x => if x = st then .ok true M2 else k M2
    | _ => .bad
    else k M1
def byL (st : Bool) (g : TgP) (c : TM) (e : EM) (τ : Mi.Loc) : List T → Hs → Res Bool
  | [], M => .ok false M
  | t :: ts, M => byT st g c e τ t (byL st g c e τ ts) M
def byF (st : Bool) (g : TgP) (c : TM) (e : EM) (τ : Mi.Loc) (nx : Nat → Hs → Option (Option T)) : Nat → Nat → Hs → Res Bool
  | 0, _, _ => .bad
  | n + 1, i, M => match nx i M with
    | none => .bad
    | some none => .ok false M
    | some (some t) => byT st g c e τ t (byF st g c e τ nx n (i + 1)) M
/-- whether one is st -/
def byS (st : Bool) (g : TgP) (c : TM) (e : EM) (τ : Mi.Loc) : Src → Hs → Res Bool
  | .l ts, M => byL st g c e τ ts M
  | .f nx, M => byF st g c e τ nx 1000000 0 M
def gxKB (cs : List Nat) (k : Bool → Hs → Res T) : Res Bool → Res T
  | .ok b M => k b M
  | .ex c M => if cs.contains c then .ex c M else .bad
  | .bad => .bad
def mGAny (cs : List Nat) (it : IM) (ws : List Nat) (g : TgP) (c : TM) (e : EM) : EM := fun τ M => (it τ M).bind fun src M1 => gxKB cs (fun b M2 => .ok (.bl b) M2) (byS true g c e (wipeT τ ws) src M1)
def mGAll (cs : List Nat) (it : IM) (ws : List Nat) (g : TgP) (c : TM) (e : EM) : EM := fun τ M => (it τ M).bind fun src M1 => gxKB cs (fun b M2 => .ok (.bl (!b)) M2) (byS false g c e (wipeT τ ws) src M1)
section
variable {tb : Tb} {K : PySem.W.Frag} {ρ : List Addr} {F H : Hp} {M : Hs} {τ : Mi.Loc} {σ : L2.St} {E : XK} {Qx Dn : Hp → Prop} {st : Bool}
theorem gb_turn {ws : List Nat} {g : TgP} {c : TM} {e : EM} {ρ1 : List Addr} {F1 F2 : Hp} {M1 : Hs} {H1 H2 : Hp} {t : T} {x : V} {k : Hs → Res Bool} {Nx : Unit → Hp → Prop} {R0 : Res Bool} (L : LocR K F ρ τ σ) (e1 : Ext ρ F H ρ1 F1 H1)
    (e2 : Ext ρ1 F1 H1 ρ1 F2 H2) (S2 : Sim tb K ρ1 F2 M1 H2) (rx : Rep K F2 ρ1 t x) (p : byT st g c e (wipeT τ ws) t k M1 = R0) (hR : RP tb K ρ F H (EEx tb E) (fun b _ _ H' => if b = true then Qx H' else Dn H') R0)
    (fin : ∀ ρ3 F3 M3 H3, Ext ρ F H ρ3 F3 H3 → Sim tb K ρ3 F3 M3 H3 → k M3 = R0 → Nx () H3) :
    tGP K ws g x (wipe σ ws) H2 fun σ2 H2 => wipe σ2 ws = wipe σ ws ∧ tTM tb K (WE E) c σ2 H2 fun b H3 => if b = true then tM tb K (WE E) e σ2 H3 fun y H4 => (consB st Qx Dn).recv () y H4 Nx else Nx () H3 := by
  have e12 := e1.trans e2
  unfold byT at p
  cases eg : g t (wipeT τ ws) with
  | none => rw [eg] at p; rw [← p] at hR; exact hR.elim
  | some τ1 =>
  rw [eg] at p
  dsimp only at p
  refine ⟨ρ1, F2, wipeT τ ws, τ1, t, S2.sub, ((L.wipe ws).mono e12), rx, eg, fun σ2 L2' hw => ⟨hw.trans (wipe_wipe fun _ h => h), ρ1, F2, M1, τ1, S2, L2', ?_⟩⟩
  cases ec : c τ1 M1 with
  | bad => rw [ec] at p; rw [← p] at hR; exact hR.elim
  | ex cc M' => rw [ec] at p; rw [← p] at hR; exact fun ρ3 F3 H3 e3 S3 => hR ρ3 F3 H3 (e12.trans e3) S3
  | ok b M2 =>
  rw [ec] at p
  simp only [Res.bind] at p
  intro ρ3 F3 H3 e3 S3
  have e13 := e12.trans e3
  cases b with
  | false => exact fin ρ3 F3 M2 H3 e13 S3 p
  | true =>
    rw [if_pos rfl] at p
    dsimp only
    rw [if_pos rfl]
    refine ⟨ρ3, F3, M2, τ1, S3, L2'.mono e3, ?_⟩
    cases ee : e τ1 M2 with
    | bad => rw [ee] at p; rw [← p] at hR; exact hR.elim
    | ex cc M' => rw [ee] at p; rw [← p] at hR; exact fun ρ4 F4 H4 e4 S4 => hR ρ4 F4 H4 (e13.trans e4) S4
    | ok v M3 =>
    rw [ee] at p
    simp only [Res.bind] at p
    intro ρ4 F4 H4 e4 S4 y ry
    have e14 := e13.trans e4
    cases ry with
    | bl b =>
      refine ⟨b, rfl, ?_⟩
      have p : (if b = st then Res.ok true M3 else k M3) = R0 := p
      by_cases hbs : b = st
      · rw [if_pos hbs] at p ⊢
        rw [← p] at hR
        simpa using hR ρ4 F4 H4 e14 S4
      · rw [if_neg hbs] at p ⊢
        exact fin ρ4 F4 M3 H4 e14 S4 p
    | _ => (rw [← p] at hR; exact hR.elim)
theorem gb_loop {ws : List Nat} {g : TgP} {c : TM} {e : EM} {J : It} {src : Src} (S : Sim tb K ρ F M H) (L : LocR K F ρ τ σ) (hJ : Its tb K J ρ F H src) {R0 : Res Bool} (p : byS st g c e (wipeT τ ws) src M = R0)
    (hR : RP tb K ρ F H (EEx tb E) (fun b _ _ H' => if b = true then Qx H' else Dn H') R0) :
    ∃ Wv : Nat → Nat → Unit → Hp → Prop, (∃ m, Wv 0 m () H) ∧ GxT (consB st Qx Dn) J Wv (tGP K ws g) (tTM tb K (WE E) c) (tM tb K (WE E) e) ws σ := by
  have done : ∀ {ρ1 : List Addr} {F1 : Hp} {M1 : Hs} {H1 : Hp}, Ext ρ F H ρ1 F1 H1 → Sim tb K ρ1 F1 M1 H1 → Res.ok false M1 = R0 → (consB st Qx Dn).done () H1 := fun {ρ1 F1 M1 H1} e1 S1 q => by
    rw [← q] at hR
    simpa [consB] using hR ρ1 F1 H1 e1 S1
  cases src with
  | l ts =>
    refine ⟨fun i m _ H' => ∃ ρ1 F1 M1, Ext ρ F H ρ1 F1 H' ∧ Sim tb K ρ1 F1 M1 H' ∧ m + i = ts.length ∧ byL st g c e (wipeT τ ws) (ts.drop i) M1 = R0, ⟨ts.length, ρ, F, M, .refl, S, rfl, by rw [List.drop_zero]; exact p⟩, ?_⟩
    rintro i m ⟨⟩ H1 ⟨ρ1, F1, M1, e1, S1, hm, p1⟩
    obtain ⟨h1, h2⟩ := hJ i ρ1 F1 M1 H1 e1 S1
    by_cases hi : i < ts.length
    · rw [List.drop_eq_getElem_cons hi] at p1
      obtain ⟨go, yl⟩ := h1 _ (List.getElem?_eq_getElem hi)
      refine .inr ⟨go, fun _ H' => ∃ ρ1 F1 M1, Ext ρ F H ρ1 F1 H' ∧ Sim tb K ρ1 F1 M1 H' ∧ (m - 1) + (i + 1) = ts.length ∧ byL st g c e (wipeT τ ws) (ts.drop (i + 1)) M1 = R0, fun _ H' q => ⟨m - 1, by omega, q⟩, fun x H' y => ?_⟩
      obtain ⟨F2, e2, S2, r2⟩ := yl x H' y
      exact gb_turn (E := E) (k := byL st g c e (wipeT τ ws) (ts.drop (i + 1))) L e1 e2 S2 r2 p1 hR fun ρ3 F3 M3 H3 e3 S3 q3 => ⟨ρ3, F3, M3, e3, S3, by omega, q3⟩
    · have hi' : i = ts.length := by omega
      rw [List.drop_eq_nil_of_le (by omega)] at p1
      exact .inl ⟨h2 hi', done e1 S1 p1⟩
  | f nx =>
    refine ⟨fun i m _ H' => ∃ ρ1 F1 M1, Ext ρ F H ρ1 F1 H' ∧ Sim tb K ρ1 F1 M1 H' ∧ byF st g c e (wipeT τ ws) nx m i M1 = R0, ⟨1000000, ρ, F, M, .refl, S, p⟩, ?_⟩
    rintro i m ⟨⟩ H1 ⟨ρ1, F1, M1, e1, S1, p1⟩
    obtain ⟨h1, h2⟩ := hJ i ρ1 F1 M1 H1 e1 S1
    cases m with
    | zero => rw [← p1] at hR; exact hR.elim
    | succ m =>
      unfold byF at p1
      cases en : nx i M1 with
      | none => rw [en] at p1; rw [← p1] at hR; exact hR.elim
      | some o =>
        rw [en] at p1
        cases o with
        | none => exact .inl ⟨h2 en, done e1 S1 p1⟩
        | some t =>
          obtain ⟨go, yl⟩ := h1 _ en
          refine .inr ⟨go, fun _ H' => ∃ ρ1 F1 M1, Ext ρ F H ρ1 F1 H' ∧ Sim tb K ρ1 F1 M1 H' ∧ byF st g c e (wipeT τ ws) nx m (i + 1) M1 = R0, fun _ H' q => ⟨m, Nat.lt_succ_self m, q⟩, fun x H' y => ?_⟩
          obtain ⟨F2, e2, S2, r2⟩ := yl x H' y
          exact gb_turn (E := E) (k := byF st g c e (wipeT τ ws) nx m (i + 1)) L e1 e2 S2 r2 p1 hR fun ρ3 F3 M3 H3 e3 S3 q3 => ⟨ρ3, F3, M3, e3, S3, q3⟩
end
section
variable {X : Cx} {tb : Tb} {W : WX}
theorem gx_kb {K : PySem.W.Frag} {ρ : List Addr} {F H : Hp} {Q : VK} {cs : List Nat} {σ : L2.St} {R0 : Res Bool} {f : Bool → Bool} (hns : NoSI K tb cs) (p : RP tb K ρ F H (WE1 tb W σ) (GM K Q) (gxKB cs (fun b M2 => .ok (.bl (f b)) M2) R0)) :
    RP tb K ρ F H (EEx tb (EK K W σ)) (fun b _ _ H' => if b = true then Q (.bl (f true)) H' else Q (.bl (f false)) H') R0 := by
  cases R0 with
  | bad => exact p.elim
  | ex cc M' =>
    unfold gxKB at p
    dsimp only at p
    split at p
    · rename_i hcc
      exact fun ρ' F' H' e' S' => ⟨p ρ' F' H' e' S', hns cc (List.contains_iff_mem.mp hcc)⟩
    · exact p.elim
  | ok b M' =>
    intro ρ' F' H' e' S'
    have q := p ρ' F' H' e' S' _ (.bl (f b))
    cases b with
    | true => rw [if_pos rfl]; exact q
    | false => rw [if_neg Bool.false_ne_true]; exact q
theorem mE_gany (cs : List Nat) {Pt c' : Addr} {nm : Nat → Nat → Str} {k : Nat} {own : List (Str × Nat)} {elt tg iter : Expr} {ifs : List Expr} {scope : Scope} {p gpos pos : Pos} {it : IM} {g : TgP} {c : TM} {e : EM} (TX : TabX X tb.T c' Pt nm) (hr : Room (k + 5) X.A) (hN : X.N.Nodup) (tk : Takes X W) (hns : NoSI X.K tb cs)
    (G : GxS X.N X.env.scope scope own) (hi : PI X tg iter (tI tb X.K W it)) (B : ∀ E, GxB X k E scope tg ifs elt (tGP X.K (own.map (·.2)) g) (tTM tb X.K (WE E) c) (tM tb X.K (WE E) e)) (hmg : X.mg "any" = none) (hg : Gl X "any" := by rfl) (hnm : nm gpos.line gpos.col = X.env.qual ++ "<genexpr>" := by rfl) (hs : ∀ v, genFold iter X.env v = pure v := by intro _; rfl)
    (he : starEach [.GeneratorExp elt [⟨tg, iter, ifs, 0⟩] scope gpos] X.env = (false, eval (.GeneratorExp elt [⟨tg, iter, ifs, 0⟩] scope gpos) X.env) :: starEach [] X.env := by rfl) :
    PE X (.Call (.Name "any" p) [.GeneratorExp elt [⟨tg, iter, ifs, 0⟩] scope gpos] [] pos) (tM tb X.K W (mGAny cs it (own.map (·.2)) g c e)) := by
  refine ⟨fun pX s σ H Q I h => ?_⟩
  obtain ⟨ρ, F, M, τ, S, L, q⟩ := h
  refine wpAny_Call_Name_kw (ld_blt I hg hmg boot_any ?_)
  refine PyProof.Rows.callWith_builtin1 ?_ he (by rfl)
  rw [he]
  show wpAny _ _ (spliced ((false, eval (.GeneratorExp elt [⟨tg, iter, ifs, 0⟩] scope gpos) X.env) :: backTo pos (starEach [] X.env))) _ _ s
  refine Calls.spliced_cons (gx_make (own := own) (R := fun J H2 => ∃ Wv : Nat → Nat → Unit → Hp → Prop, (∃ m, Wv 0 m () H2) ∧ GxT (consB true (fun H => Q (.bl true) H) fun H => Q (.bl false) H) J Wv (tGP X.K (own.map (·.2)) g) (tTM tb X.K (WE (EK X.K W σ)) c) (tM tb X.K (WE (EK X.K W σ)) e) (own.map (·.2)) σ)
    I TX G hi hnm (by have := hr.dp; omega) hs ⟨ρ, F, M, τ, S, L, (RP.bind q).imp fun src ρ1 F1 H1 e1 q1 J hJ => ?_⟩ fun J H4 it fp tn code a gn go s4 s5 Gm hR => ?_)
  · obtain ⟨M1, _, S1, p1⟩ := q1
    refine ⟨S1.tab, fun H2 eN T1 => ?_⟩
    obtain ⟨S2, e2⟩ := S1.grow eN T1
    exact gb_loop S2 (L.mono (e1.trans e2)) (hJ.mono e2) rfl (gx_kb (f := fun b => b) hns (p1.mono e2))
  · obtain ⟨Wv, ⟨m, w⟩, turn⟩ := hR
    have hr4 : Room k (X.A.in1.in1.deeper (gxEnv X scope s4.heap.objs.size code)) := (hr.in1.in1.mono (by omega)).deeper _
    refine Calls.spliced_nil (call_function_tree PySem.F.kind_any PySem.F.plain_any PySem.F.entry_any (PySem.F.args_any1 _) ?_)
    unfold Builtin.«any»
    refine wpAny_bind (m := oneArg "any" _) (wpAny_pure ?_)
    refine wpAny_bind (wpAny_pyIter_gen (Gm.gen _ Gm.at_) ?_)
    refine wpAny_pure ⟨plainId_quiet PySem.F.plain_any_loop _, gx_any (A := X.A) (E := EK X.K W σ) Gm hr.hd (by have := hr.dp; omega) (fun s' H' b I' hb => ⟨.bl b, H', I', rfl, by cases b <;> simpa using hb⟩) (fun e s' hx => ⟨Gm.notStop (fun cls d H h => h.2) hx, Gm.exc tk (fun cls d H h => h.1) hx⟩) (m + 1) s5 (Nat.succ_pos m) (Gm.gen _ Gm.at_) (Gm.I.nolimit.keeps Gm.kp) ⟨_, Gm.gs, rfl, ?_⟩⟩
    exact gx_wake (C := Unit) (K := consB true _ _) (P := fun _ p => p = []) (A := X.A.in1.in1) (E := EK X.K W σ) (pins0 := []) Gm hN hr.hd I.ok.frames ((B _).pg _ _ _ _ _ _ _ hr4) ((B _).pt _ _ _ _ _ _ _ hr4) ((B _).pe _ _ _ _ _ _ _ hr4) turn w (Nat.lt_succ_self m) (fun _ _ e => e) rfl (allBare_setGen Gm.bare rfl)
      (fun c pins e p hp => by subst e; exact absurd hp (by simp)) rfl fun p hp => absurd hp (by simp)
theorem mE_gall (cs : List Nat) {Pt c' : Addr} {nm : Nat → Nat → Str} {k : Nat} {own : List (Str × Nat)} {elt tg iter : Expr} {ifs : List Expr} {scope : Scope} {p gpos pos : Pos} {it : IM} {g : TgP} {c : TM} {e : EM} (TX : TabX X tb.T c' Pt nm) (hr : Room (k + 5) X.A) (hN : X.N.Nodup) (tk : Takes X W) (hns : NoSI X.K tb cs)
    (G : GxS X.N X.env.scope scope own) (hi : PI X tg iter (tI tb X.K W it)) (B : ∀ E, GxB X k E scope tg ifs elt (tGP X.K (own.map (·.2)) g) (tTM tb X.K (WE E) c) (tM tb X.K (WE E) e)) (hmg : X.mg "all" = none) (hg : Gl X "all" := by rfl) (hnm : nm gpos.line gpos.col = X.env.qual ++ "<genexpr>" := by rfl) (hs : ∀ v, genFold iter X.env v = pure v := by intro _; rfl)
    (he : starEach [.GeneratorExp elt [⟨tg, iter, ifs, 0⟩] scope gpos] X.env = (false, eval (.GeneratorExp elt [⟨tg, iter, ifs, 0⟩] scope gpos) X.env) :: starEach [] X.env := by rfl) :
    PE X (.Call (.Name "all" p) [.GeneratorExp elt [⟨tg, iter, ifs, 0⟩] scope gpos] [] pos) (tM tb X.K W (mGAll cs it (own.map (·.2)) g c e)) := by
  refine ⟨fun pX s σ H Q I h => ?_⟩
  obtain ⟨ρ, F, M, τ, S, L, q⟩ := h
  refine wpAny_Call_Name_kw (ld_blt I hg hmg (by rfl) ?_)
  refine PyProof.Rows.callWith_builtin1 ?_ he (by rfl)
  rw [he]
  show wpAny _ _ (spliced ((false, eval (.GeneratorExp elt [⟨tg, iter, ifs, 0⟩] scope gpos) X.env) :: backTo pos (starEach [] X.env))) _ _ s
  refine Calls.spliced_cons (gx_make (own := own) (R := fun J H2 => ∃ Wv : Nat → Nat → Unit → Hp → Prop, (∃ m, Wv 0 m () H2) ∧ GxT (consB false (fun H => Q (.bl false) H) fun H => Q (.bl true) H) J Wv (tGP X.K (own.map (·.2)) g) (tTM tb X.K (WE (EK X.K W σ)) c) (tM tb X.K (WE (EK X.K W σ)) e) (own.map (·.2)) σ)
    I TX G hi hnm (by have := hr.dp; omega) hs ⟨ρ, F, M, τ, S, L, (RP.bind q).imp fun src ρ1 F1 H1 e1 q1 J hJ => ?_⟩ fun J H4 it fp tn code a gn go s4 s5 Gm hR => ?_)
  · obtain ⟨M1, _, S1, p1⟩ := q1
    refine ⟨S1.tab, fun H2 eN T1 => ?_⟩
    obtain ⟨S2, e2⟩ := S1.grow eN T1
    exact gb_loop S2 (L.mono (e1.trans e2)) (hJ.mono e2) rfl (gx_kb (f := fun b => !b) hns (p1.mono e2))
  · obtain ⟨Wv, ⟨m, w⟩, turn⟩ := hR
    have hr4 : Room k (X.A.in1.in1.deeper (gxEnv X scope s4.heap.objs.size code)) := (hr.in1.in1.mono (by omega)).deeper _
    refine Calls.spliced_nil (call_function_tree PySem.F.kind_all PySem.F.plain_all PySem.F.entry_all (PySem.F.args_all1 _) ?_)
    unfold Builtin.«all»
    refine wpAny_bind (m := oneArg "all" _) (wpAny_pure ?_)
    refine wpAny_bind (wpAny_pyIter_gen (Gm.gen _ Gm.at_) ?_)
    refine wpAny_pure ⟨plainId_quiet PySem.F.plain_all_loop _, gx_all (A := X.A) (E := EK X.K W σ) Gm hr.hd (by have := hr.dp; omega) (fun s' H' b I' hb => ⟨.bl b, H', I', rfl, by cases b <;> simpa using hb⟩) (fun e s' hx => ⟨Gm.notStop (fun cls d H h => h.2) hx, Gm.exc tk (fun cls d H h => h.1) hx⟩) (m + 1) s5 (Nat.succ_pos m) (Gm.gen _ Gm.at_) (Gm.I.nolimit.keeps Gm.kp) ⟨_, Gm.gs, rfl, ?_⟩⟩
    exact gx_wake (C := Unit) (K := consB false _ _) (P := fun _ p => p = []) (A := X.A.in1.in1) (E := EK X.K W σ) (pins0 := []) Gm hN hr.hd I.ok.frames ((B _).pg _ _ _ _ _ _ _ hr4) ((B _).pt _ _ _ _ _ _ _ hr4) ((B _).pe _ _ _ _ _ _ _ hr4) turn w (Nat.lt_succ_self m) (fun _ _ e => e) rfl (allBare_setGen Gm.bare rfl)
      (fun c pins e p hp => by subst e; exact absurd hp (by simp)) rfl fun p hp => absurd hp (by simp)
end
end Mi
namespace Mi
open PySem PySem.Spec PyProof.Rows L2 GenW
open AutoSeq1 (wpAny_loadPart')

/-! ### sum(.. for ..): whole numbers -/
abbrev sumObj (n : Int) (tk : Tok) (c : Nat) : Obj := { cls := .type "list", dict := none, data := .seq #[.int n tk] c, slots := #[] }
def PinS (S : Addr) : List V → List (Addr × Obj) → Prop := fun ys pins => ∃ (ns : List Int) (tk : Tok) (c : Nat), ys = ns.map V.int ∧ pins = [(S, sumObj ns.sum tk c)]
abbrev E00 : XK := fun _ _ _ => False
section
variable {X : Cx} {pX : List (Addr × Obj)} {σ : L2.St} {elt tg iter : Expr} {ifs : List Expr} {scope : Scope} {own : List (Str × Nat)} {pos : Pos} {J : It} {H4 : Hp} {it : Addr} {fp : List Addr} {tn : Nat → Heap → Prop} {code : Value} {a : Addr} {gn : Nat} {go : Obj} {s4 s5 : Shared}
theorem cxx_false {P : Program} {w : World} {outer : List Env} {ex : List Addr} {H : Hp} {s s' : Shared} {e : Value} (h : CXx P w outer ex H s E00 e s') : False := by
  obtain ⟨_, _, _, _, _, _, _, _, _, _, _, _, h⟩ := h
  exact h
theorem gx_sum {A : Around} {Dn : List V → Hp → Prop} {Rr : Result → Shared → Prop} {S : Addr} (Gm : GxMade X pX σ elt tg iter ifs scope own pos J H4 it fp tn code a gn go s4 s5) (hh : A.handled = none) (hd : A.depth < recursionLimit) (hS : s5.heap.objs.size ≤ S)
    (hend : ∀ s' H (ns : List Int) t, Inv X pX σ H s' → Dn (ns.map V.int) H → Rr (.ok (.ret (.int ns.sum t))) s') :
    ∀ (n : Nat) (s : Shared) (st : Int), (st = 0 ∨ st = 2) → 0 < n → s.heap.IsGen a gn → s.heap.NoLimit → (∃ (ns : List Int) (tk : Tok) (c : Nat), s.heap.get? S = some (sumObj ns.sum tk c)) →
      (∃ gs, s.gens[gn]? = some gs ∧ GxRest X σ scope own H4 fp tn code a gn go s4 E00 (PinS S) (consL (fun _ y _ => ∃ i, y = V.int i) Dn) A.in1 n gs (s.setGen gn .running)) → codeAny (model X.prog X.w) A (.builtin "sum.loop" ⟨[.ref a, .ref S, rawInt st, rawInt 0], []⟩) Rr s := by
  intro n
  induction n using Nat.strongRecOn with
  | ind n ih =>
  intro s st hst2 hn hg hl ⟨ns0, tk0, c0, hS0⟩ ⟨gs, hgs, hgo⟩
  refine codeAny_builtin F.entry_sum_loop ?_
  rw [Around.under_plainId F.plain_sum_loop _]
  show wpAny _ A.in1 (seqItems? (.ref S) >>= _) _ _ s
  refine wpAny_bind (wpAny_seqItems hS0 rfl ?_)
  show wpAny _ A.in1 (tryCatch (pyNext (.ref a)) _ >>= _) _ _ s
  refine wpAny_bind (wpAny_tryCatch (gx_pull (A := A.in1) Gm hh hd hn hg hl hgs hgo (fun v s₁ gs' i ys y H Nx hb hsz rv gi ⟨hlen, ⟨b, e⟩, nx0⟩ nx => ?_) (fun s₁ ys H pins I pc hpin dn => ?_) (fun e s' hx => (cxx_false hx).elim)))
  · subst e
    obtain ⟨tv, rfl⟩ := (show ∃ t, v = Value.int b t from rv)
    obtain ⟨pins, I1, ⟨ns, tk, c, eys, ep⟩, st1, nf1, h0⟩ := id gi
    subst ep
    have hm : (S, sumObj ns.sum tk c) ∈ [(S, sumObj ns.sum tk c)] := List.mem_singleton.mpr rfl
    have e0 := h0 _ hm
    rw [hS0] at e0
    have e1 : ns0.sum = ns.sum ∧ tk0 = tk ∧ c0 = c := by
      injection e0 with e0
      injection e0 with _ _ e0 _
      injection e0 with e0 e3
      have e4 := congrArg (fun x : Array Value => x[0]?) e0
      simp only [List.getElem?_toArray, List.getElem?_cons_zero, Option.some.injEq, Value.int.injEq] at e4
      exact ⟨e4.1, e4.2, e3⟩
    obtain ⟨e1, e2, e3⟩ := e1
    subst e2; subst e3
    have hS1 : s₁.heap.get? S = some (sumObj ns.sum tk0 c0) := (I1.pin _ (List.mem_append_right _ hm)).1
    have b1 : AllBare (s₁.setGen gn gs').gens := allBare_setGen I1.bare hb
    have go2 : ∀ (s2 : Shared) (st' : Int) (tk' : Tok) (c' : Nat), (st' = 0 ∨ st' = 2) → s2.os = s₁.os → s2.gens = (s₁.setGen gn gs').gens → (∀ b o, b ∉ [S] → s₁.heap.get? b = some o → s2.heap.get? b = some o) → s2.heap.get? S = some (sumObj (ns0.sum + b) tk' c') →
        codeAny (model X.prog X.w) A (.builtin "sum.loop" ⟨[.ref a, .ref S, rawInt st', rawInt 0], []⟩) Rr s2 := fun s2 st' tk' c' hst' hos hgens keep hS2 => by
      have esum : (ns ++ [b]).sum = ns0.sum + b := by rw [List.sum_append, e1]; simp
      rw [← esum] at hS2
      have gi2 : GxI (gxCx X A.in1.in1 s4 H4 E00 scope s4.heap.objs.size code fp [(a, go)]) fp tn (wipe σ (own.map (·.2))) (PinS S) (s2.setGen gn .running) i (ys ++ [V.int b]) H (s2.setGen gn .running) :=
        Gm.slept (Ss := [S]) (fun b hb => by rw [List.mem_singleton.mp hb]; exact hS) (fun c pins ⟨ns, tk, n, _, e⟩ b hb => ⟨(S, sumObj ns.sum tk n), by rw [e]; exact List.mem_singleton.mpr rfl, (List.mem_singleton.mp hb).symm⟩) gi hos (allBare_setGen (by rw [hgens]; exact b1) rfl) keep
          (fun b hb => by rw [List.mem_singleton.mp hb]; exact ⟨_, hS2⟩) ⟨ns ++ [b], tk', c', by rw [eys, List.map_append]; rfl, rfl⟩ fun p hp => by
            rw [List.mem_singleton.mp hp]; exact ⟨List.mem_singleton.mpr rfl, hS2, fun v q => by cases q⟩
      obtain ⟨pins2, I2, _⟩ := id gi2
      have g2 := Gm.isGen I2
      have l2 := I2.nolimit
      obtain ⟨m, m0, mn, q⟩ := nx _ H _ nx0 gi2
      exact ih m mn s2 st' hst' m0 g2 l2 ⟨ns ++ [b], tk', c', hS2⟩ ⟨gs', by rw [hgens]; exact setGen_at hsz, q⟩
    have other : ∀ (h : Heap) (f : Obj → Obj), (∀ b o, b ∉ [S] → s₁.heap.get? b = some o → h.get? b = some o) → ∀ b o, b ∉ [S] → s₁.heap.get? b = some o → (h.update S f).get? b = some o := fun h f k b o hb e => (Heap.get?_update_other _ _ (fun z => hb (List.mem_singleton.mpr z.symm))).trans (k b o hb e)
    have hS1' : (s₁.setGen gn gs').heap.get? S = some (sumObj ns.sum tk0 c0) := hS1
    rcases hst2 with rfl | rfl
    · show wpAny _ A.in1 (if (_ : Bool) = true then (mkInt (ns0.sum + b) >>= _) else _) _ _ _
      split
      · refine wpAny_bind (wpAny_mkInt ?_)
        show wpAny _ A.in1 (updateSeq S (fun _ => #[.int (ns0.sum + b) _]) >>= _) _ _ _
        refine wpAny_bind (wpAny_updateSeq hS1' rfl (wpAny_pure ⟨plainId_quiet F.plain_sum_loop _, ?_⟩))
        exact go2 _ 0 _ _ (.inl rfl) rfl rfl (other _ _ fun _ _ _ e => e) (Heap.get?_update_self _ hS1' rfl)
      · refine wpAny_bind (wpAny_rule ?_)
        refine wpAny_bind (wpAny_attempt (wpAny_holding (wpAny_add_int ?_)))
        show wpAny _ A.in1 (updateSeq S (fun _ => #[.int (ns0.sum + b) _]) >>= _) _ _ _
        refine wpAny_bind (wpAny_updateSeq hS1' rfl ?_)
        have hS2 := Heap.get?_update_self (Obj.mapSeq fun _ => #[Value.int (ns0.sum + b) s₁.toks]) hS1' rfl
        refine wpAny_bind (wpAny_letGo ?_)
        refine wpAny_bind (wpAny_updateSeq hS2 rfl (wpAny_pure ⟨plainId_quiet F.plain_sum_loop _, ?_⟩))
        exact go2 _ 2 _ _ (.inr rfl) rfl rfl (other _ _ (other _ _ fun _ _ _ e => e)) (Heap.get?_update_self _ hS2 rfl)
    · show wpAny _ A.in1 ((holding [Value.int b tv] (binaryOp .Add (.int ns0.sum tk0) (.int b tv))).attempt >>= _) _ _ _
      refine wpAny_bind (wpAny_attempt (wpAny_holding (wpAny_add_int ?_)))
      show wpAny _ A.in1 (updateSeq S (fun _ => #[.int (ns0.sum + b) _]) >>= _) _ _ _
      refine wpAny_bind (wpAny_updateSeq hS1' rfl ?_)
      have hS2 := Heap.get?_update_self (Obj.mapSeq fun _ => #[Value.int (ns0.sum + b) s₁.toks]) hS1' rfl
      refine wpAny_bind (wpAny_letGo ?_)
      refine wpAny_bind (wpAny_updateSeq hS2 rfl (wpAny_pure ⟨plainId_quiet F.plain_sum_loop _, ?_⟩))
      exact go2 _ 2 _ _ (.inr rfl) rfl rfl (other _ _ (other _ _ fun _ _ _ e => e)) (Heap.get?_update_self _ hS2 rfl)
  · obtain ⟨ns, tk, c, eys, ep⟩ := pc
    subst ep
    have hm : (S, sumObj ns.sum tk c) ∈ [(S, sumObj ns.sum tk c)] := List.mem_singleton.mpr rfl
    have e0 := (hpin _ hm).1
    rw [hS0] at e0
    have e1 : ns0.sum = ns.sum := by
      injection e0 with e0
      injection e0 with _ _ e0 _
      injection e0 with e0 e3
      have e4 := congrArg (fun x : Array Value => x[0]?) e0
      simp only [List.getElem?_toArray, List.getElem?_cons_zero, Option.some.injEq, Value.int.injEq] at e4
      exact e4.1
    show wpAny _ A.in1 (ret (.int ns0.sum tk0)) _ _ _
    rw [e1]
    exact wpAny_pure (hend s₁ H ns tk0 I (by rw [← eys]; exact dn.2))
end
def mGSum (it : IM) (ws : List Nat) (g : TgP) (c : TM) (e : EM) : EM := fun τ M => (it τ M).bind fun src M1 => gxK [] (fun ts M2 => match intsT ts with | some ns => .ok (.int ns.sum) M2 | none => .bad) (gxS g c e (wipeT τ ws) src M1)
section
variable {X : Cx} {tb : Tb} {W : WX}
theorem mapV_inj : ∀ {a b : List Int}, a.map V.int = b.map V.int → a = b
  | [], [], _ => rfl
  | [], _ :: _, h => by cases h
  | _ :: _, [], h => by cases h
  | x :: a, y :: b, h => by
    simp only [List.map_cons, List.cons.injEq, V.int.injEq] at h
    rw [h.1, mapV_inj h.2]
theorem intsT_mem : ∀ {ts : List T} {ns : List Int} {v : T}, intsT ts = some ns → v ∈ ts → ∃ i, v = .int i
  | t :: ts, ns, v, h, hv => by
    cases t <;> simp only [intsT, reduceCtorEq] at h
    rename_i i
    rcases List.mem_cons.mp hv with e | hv
    · exact ⟨i, e⟩
    · cases e : intsT ts with
      | none => rw [e] at h; cases h
      | some ms => exact intsT_mem e hv
theorem mE_gsum {Pt c' : Addr} {nm : Nat → Nat → Str} {k : Nat} {own : List (Str × Nat)} {elt tg iter : Expr} {ifs : List Expr} {scope : Scope} {p gpos pos : Pos} {it : IM} {g : TgP} {c : TM} {e : EM} (TX : TabX X tb.T c' Pt nm) (hr : Room (k + 5) X.A) (hN : X.N.Nodup)
    (G : GxS X.N X.env.scope scope own) (hi : PI X tg iter (tI tb X.K W it)) (B : ∀ E, GxB X k E scope tg ifs elt (tGP X.K (own.map (·.2)) g) (tTM tb X.K (WE E) c) (tM tb X.K (WE E) e)) (hmg : X.mg "sum" = none) (hg : Gl X "sum" := by rfl) (hnm : nm gpos.line gpos.col = X.env.qual ++ "<genexpr>" := by rfl) (hs : ∀ v, genFold iter X.env v = pure v := by intro _; rfl)
    (he : starEach [.GeneratorExp elt [⟨tg, iter, ifs, 0⟩] scope gpos] X.env = (false, eval (.GeneratorExp elt [⟨tg, iter, ifs, 0⟩] scope gpos) X.env) :: starEach [] X.env := by rfl) :
    PE X (.Call (.Name "sum" p) [.GeneratorExp elt [⟨tg, iter, ifs, 0⟩] scope gpos] [] pos) (tM tb X.K W (mGSum it (own.map (·.2)) g c e)) := by
  refine ⟨fun pX s σ H Q I h => ?_⟩
  obtain ⟨ρ, F, M, τ, S, L, q⟩ := h
  refine wpAny_Call_Name_kw (ld_blt I hg hmg (by rfl) ?_)
  refine PyProof.Rows.callWith_builtin1 ?_ he (by rfl)
  rw [he]
  show wpAny _ _ (spliced ((false, eval (.GeneratorExp elt [⟨tg, iter, ifs, 0⟩] scope gpos) X.env) :: backTo pos (starEach [] X.env))) _ _ s
  refine Calls.spliced_cons (gx_make (own := own) (R := fun J H2 => ∃ Wv : Nat → Nat → List V → Hp → Prop, (∃ m, Wv 0 m [] H2) ∧ GxT (consL (fun _ y _ => ∃ i, y = V.int i) fun ys H => ∀ ns : List Int, ys = ns.map V.int → Q (.int ns.sum) H) J Wv (tGP X.K (own.map (·.2)) g) (tTM tb X.K (WE E00) c) (tM tb X.K (WE E00) e) (own.map (·.2)) σ)
    I TX G hi hnm (by have := hr.dp; omega) hs ⟨ρ, F, M, τ, S, L, (RP.bind q).imp fun src ρ1 F1 H1 e1 q1 J hJ => ?_⟩ fun J H4 it fp tn code a gn go s4 s5 Gm hR => ?_)
  · obtain ⟨M1, _, S1, p1⟩ := q1
    refine ⟨S1.tab, fun H2 eN T1 => ?_⟩
    obtain ⟨S2, e2⟩ := S1.grow eN T1
    have p2 := p1.mono e2
    generalize hR0 : gxS g c e (wipeT τ (own.map (·.2))) src M1 = R0 at p2
    cases R0 with
    | bad => exact p2.elim
    | ex cc M' => exact p2.elim
    | ok all M' =>
      unfold gxK at p2
      dsimp only at p2
      split at p2
      case h_2 => exact p2.elim
      rename_i ns hns
      refine gl_loop S2 (L.mono (e1.trans e2)) (hJ.mono e2) hR0 (fun ρ' F' H' e' S' vs rv ms ems => ?_) (.inr ⟨all, M', rfl, fun accT v rest ρ' F' M' H' ys y ea _ _ _ ry => ?_⟩)
      · have e3 := ints_rep hns rv
        rw [ems] at e3
        have e4 : ms = ns := mapV_inj e3
        rw [e4]
        exact p2 ρ' F' H' e' S' _ (.int _)
      · obtain ⟨i, e5⟩ := intsT_mem hns (show v ∈ all by rw [ea]; simp)
        subst e5
        cases ry with
        | int i => exact ⟨i, rfl⟩
  · obtain ⟨Wv, ⟨m, w⟩, turn⟩ := hR
    have hr4 : Room k (X.A.in1.in1.deeper (gxEnv X scope s4.heap.objs.size code)) := (hr.in1.in1.mono (by omega)).deeper _
    refine Calls.spliced_nil (call_function_tree PySem.F.kind_sum PySem.F.plain_sum PySem.F.entry_sum (PySem.F.args_sum1 _) ?_)
    unfold Builtin.«sum»
    simp only [List.length_cons, List.length_nil]
    rw [if_neg (by decide)]
    refine wpAny_bind (wpAny_of_eq (show Builtin.Builtins.bindParams "sum" ["start"] 0 { } = pure [none] from rfl) ?_)
    refine wpAny_bind (wpAny_pyIter_gen (Gm.gen _ Gm.at_) ?_)
    refine wpAny_bind (wpAny_mkInt (wpAny_bind (wpAny_pure ?_)))
    simp only [List.forIn_cons, List.forIn_nil]
    refine wpAny_bind (wpAny_bind (wpAny_bind (wpAny_isInstance (T := "int") (b := false) (typeIs_int _ _ _) PySem.sub_int_str ?_)))
    simp only [Bool.false_eq_true, if_false]
    refine wpAny_pure (wpAny_bind (wpAny_bind (wpAny_isInstance (T := "int") (b := false) (typeIs_int _ _ _) PySem.sub_int_bytes ?_)))
    simp only [Bool.false_eq_true, if_false]
    refine wpAny_pure (wpAny_bind (wpAny_bind (wpAny_isInstance (T := "int") (b := false) (typeIs_int _ _ _) PySem.sub_int_bytearray ?_)))
    simp only [Bool.false_eq_true, if_false]
    refine wpAny_pure (wpAny_pure (wpAny_bind (wpAny_newObj_type ?_)))
    have k1 : ∀ b o, s5.heap.get? b = some o → (s5.heap.push (sumObj 0 s5.toks 0)).get? b = some o := fun b o e => Heap.get?_push_of_some _ e
    have hS : (s5.heap.push (sumObj 0 s5.toks 0)).get? s5.heap.objs.size = some (sumObj ([] : List Int).sum s5.toks 0) := Heap.get?_push_size _ rfl
    refine wpAny_pure ⟨plainId_quiet PySem.F.plain_sum_loop _, gx_sum (A := X.A) (Dn := fun ys H => ∀ ns : List Int, ys = ns.map V.int → Q (.int ns.sum) H) Gm hr.hd (by have := hr.dp; omega) (Nat.le_refl _) (fun s' H' ns t I' hd => ⟨.int ns.sum, H', I', ⟨t, rfl⟩, hd ns rfl⟩) (m + 1) _ 0 (.inl rfl) (Nat.succ_pos m) ((Gm.gen _ Gm.at_).keeps k1) ((Gm.I.nolimit.keeps Gm.kp).keeps k1) ⟨[], _, 0, hS⟩ ⟨_, Gm.gs, rfl, ?_⟩⟩
    exact gx_wake (C := List V) (K := consL _ _) (P := PinS s5.heap.objs.size) (A := X.A.in1.in1) (E := E00) (pins0 := [(s5.heap.objs.size, sumObj 0 s5.toks 0)]) Gm hN hr.hd I.ok.frames ((B _).pg _ _ _ _ _ _ _ hr4) ((B _).pt _ _ _ _ _ _ _ hr4) ((B _).pe _ _ _ _ _ _ _ hr4) turn w (Nat.lt_succ_self m) k1 rfl (allBare_setGen (s := { s5 with heap := _ }) Gm.bare rfl)
      (fun c pins ⟨_, _, _, _, e⟩ p hp => by rw [e] at hp; rw [List.mem_singleton.mp hp]; exact Nat.le_refl _) ⟨[], _, 0, rfl, rfl⟩ fun p hp => by rw [List.mem_singleton.mp hp]; exact ⟨hS, fun v q => by cases q⟩
end
end Mi
namespace Mi
open PySem PySem.Spec PyProof.Rows L2
/-- a whole number at the top -/
theorem mE_globI {X : Cx} {tb : Tb} {W : WX} {x : Str} {i : Int} {pos : Pos} (hm : ∃ t, X.mg x = some (.int i t)) (hg : Gl X x := by rfl) (hd : (x == ("__debug__" : Str)) = false := by decide) : PE X (.Name x pos) (tM tb X.K W (mC (.int i))) := by
  obtain ⟨t, e⟩ := hm
  exact mE_const (pe_glob (v := V.int i) hg e ⟨t, rfl⟩ hd) fun F ρ => .int i
end Mi
namespace Mi
open PySem PySem.Spec PyProof.Rows L2 GenW
open AutoSeq1 (wpAny_loadPart')

/-! ### the order of plain data -/
def tLt (a b : T) : Bool := PySem.W.dataLt (toPy a) (toPy b)
def tAl (a b : T) : Bool := PySem.W.alike (toPy a) (toPy b)
def isNo : T → Bool
  | .non => true
  | _ => false
/-- plain, of one shape, none None -/
def okOrd (ts : List T) : Bool := ts.all (dp 50) && ts.all (fun a => ts.all (tAl a)) && ts.all (fun a => !isNo a)
theorem toPyL_map : ∀ ts : List T, toPyL ts = ts.map toPy
  | [] => by simp [toPyL]
  | t :: ts => by simp [toPyL, toPyL_map ts]
theorem argBest_le (bt : Nat → Nat → Bool) : ∀ k, argBest bt k ≤ k
  | 0 => Nat.le_refl _
  | k + 1 => by
    unfold argBest
    split
    · exact Nat.le_refl _
    · exact Nat.le_succ_of_le (argBest_le bt k)
theorem argBest_congr {b1 b2 : Nat → Nat → Bool} : ∀ k, (∀ i j, i ≤ k → j ≤ k → b1 i j = b2 i j) → argBest b1 k = argBest b2 k
  | 0, _ => rfl
  | k + 1, h => by
    have ih := argBest_congr k fun i j hi hj => h i j (Nat.le_succ_of_le hi) (Nat.le_succ_of_le hj)
    unfold argBest
    rw [ih, h (k + 1) _ (Nat.le_refl _) (Nat.le_succ_of_le (argBest_le b2 k))]
theorem okOrd_alike {ts : List T} (h : okOrd ts = true) : PySem.W.AlikeAll (toPyL ts) := by
  unfold okOrd at h
  simp only [Bool.and_eq_true, List.all_eq_true] at h
  rw [toPyL_map]
  refine ⟨fun x hx y hy => ?_, fun x hx => ?_⟩
  · obtain ⟨a, ha, rfl⟩ := List.mem_map.mp hx
    obtain ⟨b, hb, rfl⟩ := List.mem_map.mp hy
    exact h.1.2 a ha b hb
  · obtain ⟨a, ha, rfl⟩ := List.mem_map.mp hx
    have h1 := h.1.1 a ha
    have h2 := h.2 a ha
    cases a <;> simp_all [toPy, isNo, dp]
theorem okOrd_dp {ts : List T} (h : okOrd ts = true) : ts.all (dp 50) = true := by
  unfold okOrd at h
  simp only [Bool.and_eq_true] at h
  exact h.1.1
/-- a list or a tuple -/
def lsOrT (x : T) (M : Hs) : Option (List T) := match x with
  | .tup ts => some ts
  | _ => lsOf x M
theorem lsOrT_at {tb : Tb} {K : PySem.W.Frag} {ρ : List Addr} {F : Hp} {M : Hs} {H : Hp} {t : T} {v : V} {ts : List T} (S : Sim tb K ρ F M H) (r : Rep K F ρ t v) (h : lsOrT t M = some ts) : ∃ a vs, v = .ref a ∧ (SqL K H a vs ∨ SqT K H a vs) ∧ RepL K F ρ ts vs := by
  cases t with
  | tup us =>
    cases h
    cases r with
    | tup _ vs a hF rl => exact ⟨a, vs, rfl, .inr (hd_sqT S.sub hF), rl⟩
  | _ =>
    obtain ⟨a, vs, e, hH, rl⟩ := ls_at S r h
    exact ⟨a, vs, e, .inl hH, rl⟩

/-! ### min -/
def btmin (ds : List PyData) : Nat → Nat → Bool := fun i j => PySem.W.dataLt (ds.getD i .none) (ds.getD j .none)
def bestmin : List T → T
  | [] => .un
  | t :: ts => ts.foldl (fun a y => if tLt y a then y else a) t
theorem bestmin_at {t : T} {ts : List T} : (t :: ts)[argBest (btmin (toPyL (t :: ts))) ts.length]? = some (bestmin (t :: ts)) := by
  have e : argBest (btmin (toPyL (t :: ts))) ts.length = argBest (fun i j => (fun y a => tLt y a) ((t :: ts).getD i .non) ((t :: ts).getD j .non)) ts.length := by
    refine argBest_congr _ fun i j hi hj => ?_
    have g : ∀ i, i ≤ ts.length → (toPyL (t :: ts)).getD i .none = toPy ((t :: ts).getD i .non) := fun i hi => by
      rw [toPyL_map, List.getD_eq_getElem?_getD, List.getD_eq_getElem?_getD, List.getElem?_map]
      cases q : (t :: ts)[i]? with
      | none => rw [List.getElem?_eq_none_iff] at q; simp at q; omega
      | some z => rfl
    unfold btmin tLt
    rw [g i hi, g j hj]
  obtain ⟨h1, h2⟩ := PySem.W.argBest_fold (fun y a => tLt y a) T.non t ts ts.length (Nat.le_refl _)
  rw [e]
  rw [List.take_length] at h2
  rw [List.getD_eq_getElem?_getD] at h2
  cases q : (t :: ts)[argBest (fun i j => (fun y a => tLt y a) ((t :: ts).getD i .non) ((t :: ts).getD j .non)) ts.length]? with
  | none =>
    rw [List.getElem?_eq_none_iff] at q
    simp only [List.length_cons] at q
    exact absurd h1 (by omega)
  | some z =>
    rw [q] at h2
    have h2 : z = _ := h2
    rw [h2]
    rfl
def rMinD (K : PySem.W.Frag) : List V → Hp → VK → Prop := fun xs H Q => ∃ (a : Addr) (vs : List V) (ds : List PyData), xs = [.ref a] ∧ (SqL K H a vs ∨ SqT K H a vs) ∧ DpAll K H vs ds ∧ PySem.W.AlikeAll ds ∧ PyData.depthAll ds ≤ 50 ∧ vs ≠ [] ∧ ∀ v, vs[argBest (btmin ds) (vs.length - 1)]? = some v → Q v H
section
variable {X : Cx} {tb : Tb} {K : PySem.W.Frag}
theorem cr_minD (hu : X.A.units + 64 < cLine) (hc : X.calm = true) : CallR X (.builtin "min") (rMinD X.K) := fun pins s σ H xs us Q I r h => by
  obtain ⟨a, vs, ds, rfl, hs, hd, ha, hz, hn, q⟩ := h
  obtain ⟨u, rfl, ru⟩ := vals1 r
  obtain rfl : u = Value.ref a := ru
  have hh : X.A.handled = none := I.ok.hd hc
  have fin : ∀ (its : List Value), Vals vs its → ∀ v h' tk, its.toArray[argBest (btmin ds) (its.toArray.size - 1)]? = some v → (∀ b o, s.heap.get? b = some o → h'.get? b = some o) → EP X pins σ Q v { s with heap := h', toks := tk } := fun its rv v h' tk hv kp => by
    have hl := rv.length
    rw [List.size_toArray, ← hl] at hv
    have hv : its[argBest (btmin ds) (vs.length - 1)]? = some v := by simpa using hv
    cases e : vs[argBest (btmin ds) (vs.length - 1)]? with
    | none => rw [rv.none_of e] at hv; cases hv
    | some x =>
      obtain ⟨w', h1, h2⟩ := rv.get e
      rw [hv] at h1
      cases h1
      exact ⟨x, H, I.kept kp, h2, q x e⟩
  rcases hs with hs | hs
  · obtain ⟨its, rv, pl, hl⟩ := I.list hs
    obtain ⟨as, hr⟩ := Dp.readsAll I ds vs its hd rv
    have hr : ReadsAll s.heap its.toArray.toList ds as := by simpa using hr
    refine PySem.call_min_walkH (PySem.W.iter_listW (A := X.A.in1) hh pl.isList fun s₂ e W st hfp hw hk => ?_)
    refine ⟨_, _, _, _, _, _, _, s.heap, _, rfl, W, st, hfp, ?_, hw, hk, PySem.W.cmpIn_lt (A := X.A.in1) hr ha (by show X.A.units + 1 + _ < _; omega), fun v s' hP m => ?_⟩
    · rw [List.size_toArray, ← rv.length]
      exact List.length_pos_iff.mpr hn
    · obtain ⟨h', tk, rfl, hk'⟩ := PySem.W.moved_old e rfl m
      exact fin its rv v h' tk hP hk'
  · obtain ⟨its, rv, pl, hl⟩ := I.tuple hs
    obtain ⟨as, hr⟩ := Dp.readsAll I ds vs its hd rv
    have hr : ReadsAll s.heap its.toArray.toList ds as := by simpa using hr
    refine PySem.call_min_walkH (PySem.W.iter_tupleW (A := X.A.in1) hh pl fun s₂ e W st hfp hw hk => ?_)
    refine ⟨_, _, _, _, _, _, _, s.heap, _, rfl, W, st, hfp, ?_, hw, hk, PySem.W.cmpIn_lt (A := X.A.in1) hr ha (by show X.A.units + 1 + _ < _; omega), fun v s' hP m => ?_⟩
    · rw [List.size_toArray, ← rv.length]
      exact List.length_pos_iff.mpr hn
    · obtain ⟨h', tk, rfl, hk'⟩ := PySem.W.moved_old e rfl m
      exact fin its rv v h' tk hP hk'
/-- a list, a tuple of items of one shape -/
def fMinD : List T → Hs → Res T
  | [x], M => match lsOrT x M with
    | some ts => if okOrd ts && !ts.isEmpty then .ok (bestmin ts) M else .bad
    | none => .bad
  | _, _ => .bad
theorem opn_minD : OpN tb K fMinD (rMinD K) := fun E ρ F M H Q a x S r p => by
  unfold fMinD at p
  split at p
  case h_2 => exact p.elim
  cases r with
  | cons t _ v _ r1 r2 =>
  cases r2
  split at p
  case h_2 => exact p.elim
  rename_i ts hts
  split at p
  case isFalse => exact p.elim
  rename_i ho
  rw [Bool.and_eq_true] at ho
  have key : ∀ (a : Addr) (vs : List V), v = .ref a → (SqL K H a vs ∨ SqT K H a vs) → RepL K F ρ ts vs → rMinD K [v] H Q := fun a vs e hs rl => by
    obtain ⟨h1, h2, h3⟩ := dp_DpL S.sub ts 50 vs (okOrd_dp ho.1) rl
    have hl := rl.length
    refine ⟨a, vs, toPyL ts, by rw [e], hs, h1, okOrd_alike ho.1, h3, fun z => ?_, fun w hw => ?_⟩
    · subst z
      cases rl
      simp at ho
    · cases ts with
      | nil => simp at ho
      | cons t0 ts =>
        have e1 : vs.length - 1 = ts.length := by rw [← hl]; simp
        rw [e1] at hw
        obtain ⟨w', g1, g2⟩ := rl.get bestmin_at
        rw [hw] at g1
        cases g1
        exact RP.here S p w g2
  obtain ⟨a, vs, e, hs, rl⟩ := lsOrT_at S r1 hts
  exact key a vs e hs rl
end

/-! ### max -/
def btmax (ds : List PyData) : Nat → Nat → Bool := fun i j => PySem.W.dataLt (ds.getD j .none) (ds.getD i .none)
def bestmax : List T → T
  | [] => .un
  | t :: ts => ts.foldl (fun a y => if tLt a y then y else a) t
theorem bestmax_at {t : T} {ts : List T} : (t :: ts)[argBest (btmax (toPyL (t :: ts))) ts.length]? = some (bestmax (t :: ts)) := by
  have e : argBest (btmax (toPyL (t :: ts))) ts.length = argBest (fun i j => (fun y a => tLt a y) ((t :: ts).getD i .non) ((t :: ts).getD j .non)) ts.length := by
    refine argBest_congr _ fun i j hi hj => ?_
    have g : ∀ i, i ≤ ts.length → (toPyL (t :: ts)).getD i .none = toPy ((t :: ts).getD i .non) := fun i hi => by
      rw [toPyL_map, List.getD_eq_getElem?_getD, List.getD_eq_getElem?_getD, List.getElem?_map]
      cases q : (t :: ts)[i]? with
      | none => rw [List.getElem?_eq_none_iff] at q; simp at q; omega
      | some z => rfl
    unfold btmax tLt
    rw [g i hi, g j hj]
  obtain ⟨h1, h2⟩ := PySem.W.argBest_fold (fun y a => tLt a y) T.non t ts ts.length (Nat.le_refl _)
  rw [e]
  rw [List.take_length] at h2
  rw [List.getD_eq_getElem?_getD] at h2
  cases q : (t :: ts)[argBest (fun i j => (fun y a => tLt a y) ((t :: ts).getD i .non) ((t :: ts).getD j .non)) ts.length]? with
  | none =>
    rw [List.getElem?_eq_none_iff] at q
    simp only [List.length_cons] at q
    exact absurd h1 (by omega)
  | some z =>
    rw [q] at h2
    have h2 : z = _ := h2
    rw [h2]
    rfl
def rMaxD (K : PySem.W.Frag) : List V → Hp → VK → Prop := fun xs H Q => ∃ (a : Addr) (vs : List V) (ds : List PyData), xs = [.ref a] ∧ (SqL K H a vs ∨ SqT K H a vs) ∧ DpAll K H vs ds ∧ PySem.W.AlikeAll ds ∧ PyData.depthAll ds ≤ 50 ∧ vs ≠ [] ∧ ∀ v, vs[argBest (btmax ds) (vs.length - 1)]? = some v → Q v H
section
variable {X : Cx} {tb : Tb} {K : PySem.W.Frag}
theorem cr_maxD (hu : X.A.units + 64 < cLine) (hc : X.calm = true) : CallR X (.builtin "max") (rMaxD X.K) := fun pins s σ H xs us Q I r h => by
  obtain ⟨a, vs, ds, rfl, hs, hd, ha, hz, hn, q⟩ := h
  obtain ⟨u, rfl, ru⟩ := vals1 r
  obtain rfl : u = Value.ref a := ru
  have hh : X.A.handled = none := I.ok.hd hc
  have fin : ∀ (its : List Value), Vals vs its → ∀ v h' tk, its.toArray[argBest (btmax ds) (its.toArray.size - 1)]? = some v → (∀ b o, s.heap.get? b = some o → h'.get? b = some o) → EP X pins σ Q v { s with heap := h', toks := tk } := fun its rv v h' tk hv kp => by
    have hl := rv.length
    rw [List.size_toArray, ← hl] at hv
    have hv : its[argBest (btmax ds) (vs.length - 1)]? = some v := by simpa using hv
    cases e : vs[argBest (btmax ds) (vs.length - 1)]? with
    | none => rw [rv.none_of e] at hv; cases hv
    | some x =>
      obtain ⟨w', h1, h2⟩ := rv.get e
      rw [hv] at h1
      cases h1
      exact ⟨x, H, I.kept kp, h2, q x e⟩
  rcases hs with hs | hs
  · obtain ⟨its, rv, pl, hl⟩ := I.list hs
    obtain ⟨as, hr⟩ := Dp.readsAll I ds vs its hd rv
    have hr : ReadsAll s.heap its.toArray.toList ds as := by simpa using hr
    refine PySem.call_max_walkH (PySem.W.iter_listW (A := X.A.in1) hh pl.isList fun s₂ e W st hfp hw hk => ?_)
    refine ⟨_, _, _, _, _, _, _, s.heap, _, rfl, W, st, hfp, ?_, hw, hk, PySem.W.cmpIn_gt (A := X.A.in1) hr ha (by show X.A.units + 1 + _ < _; omega), fun v s' hP m => ?_⟩
    · rw [List.size_toArray, ← rv.length]
      exact List.length_pos_iff.mpr hn
    · obtain ⟨h', tk, rfl, hk'⟩ := PySem.W.moved_old e rfl m
      exact fin its rv v h' tk hP hk'
  · obtain ⟨its, rv, pl, hl⟩ := I.tuple hs
    obtain ⟨as, hr⟩ := Dp.readsAll I ds vs its hd rv
    have hr : ReadsAll s.heap its.toArray.toList ds as := by simpa using hr
    refine PySem.call_max_walkH (PySem.W.iter_tupleW (A := X.A.in1) hh pl fun s₂ e W st hfp hw hk => ?_)
    refine ⟨_, _, _, _, _, _, _, s.heap, _, rfl, W, st, hfp, ?_, hw, hk, PySem.W.cmpIn_gt (A := X.A.in1) hr ha (by show X.A.units + 1 + _ < _; omega), fun v s' hP m => ?_⟩
    · rw [List.size_toArray, ← rv.length]
      exact List.length_pos_iff.mpr hn
    · obtain ⟨h', tk, rfl, hk'⟩ := PySem.W.moved_old e rfl m
      exact fin its rv v h' tk hP hk'
/-- a list, a tuple of items of one shape -/
def fMaxD : List T → Hs → Res T
  | [x], M => match lsOrT x M with
    | some ts => if okOrd ts && !ts.isEmpty then .ok (bestmax ts) M else .bad
    | none => .bad
  | _, _ => .bad
theorem opn_maxD : OpN tb K fMaxD (rMaxD K) := fun E ρ F M H Q a x S r p => by
  unfold fMaxD at p
  split at p
  case h_2 => exact p.elim
  cases r with
  | cons t _ v _ r1 r2 =>
  cases r2
  split at p
  case h_2 => exact p.elim
  rename_i ts hts
  split at p
  case isFalse => exact p.elim
  rename_i ho
  rw [Bool.and_eq_true] at ho
  have key : ∀ (a : Addr) (vs : List V), v = .ref a → (SqL K H a vs ∨ SqT K H a vs) → RepL K F ρ ts vs → rMaxD K [v] H Q := fun a vs e hs rl => by
    obtain ⟨h1, h2, h3⟩ := dp_DpL S.sub ts 50 vs (okOrd_dp ho.1) rl
    have hl := rl.length
    refine ⟨a, vs, toPyL ts, by rw [e], hs, h1, okOrd_alike ho.1, h3, fun z => ?_, fun w hw => ?_⟩
    · subst z
      cases rl
      simp at ho
    · cases ts with
      | nil => simp at ho
      | cons t0 ts =>
        have e1 : vs.length - 1 = ts.length := by rw [← hl]; simp
        rw [e1] at hw
        obtain ⟨w', g1, g2⟩ := rl.get bestmax_at
        rw [hw] at g1
        cases g1
        exact RP.here S p w g2
  obtain ⟨a, vs, e, hs, rl⟩ := lsOrT_at S r1 hts
  exact key a vs e hs rl
end
end Mi
namespace Mi
open PySem PySem.Spec PyProof.Rows L2 GenW
open AutoSeq1 (wpAny_loadPart')

/-! ### sorted -/
def isTup1 : T → Bool
  | .tup (_ :: _) => true
  | _ => false
def notTup : T → Bool
  | .tup _ => false
  | _ => true
def okSort (ts : List T) : Bool := okOrd ts && (ts.all isTup1 || ts.all notTup)
def sortT (ts : List T) : List T := ts.mergeSort fun a b => !tLt b a
def srtV (vs : List V) (ds : List PyData) : List V := ((vs.zip ds).mergeSort (PySem.W.dataLe false Prod.snd)).map Prod.fst
theorem okSort_ord {ts : List T} (h : okSort ts = true) : okOrd ts = true := by
  unfold okSort at h
  rw [Bool.and_eq_true] at h
  exact h.1
theorem okSort_able {ts : List T} (h : okSort ts = true) : PySem.W.Sortable (toPyL ts) := by
  have ho := okSort_ord h
  unfold okSort at h
  rw [Bool.and_eq_true, Bool.or_eq_true, List.all_eq_true, List.all_eq_true] at h
  have h0 := (okOrd_alike ho).2
  rw [toPyL_map] at h0 ⊢
  have hd := List.all_eq_true.mp (okOrd_dp ho)
  rcases h.2 with h | h
  · refine .inl fun d hd => ?_
    obtain ⟨a, ha, rfl⟩ := List.mem_map.mp hd
    have := h a ha
    cases a <;> try (simp [isTup1] at this)
    rename_i us
    cases us with
    | nil => simp [isTup1] at this
    | cons u us => exact ⟨toPy u, toPyL us, by simp [toPy, toPyL]⟩
  · refine .inr fun d hd2 => ⟨h0 d hd2, fun xs => ?_⟩
    obtain ⟨a, ha, rfl⟩ := List.mem_map.mp hd2
    have := h a ha
    cases a <;> simp_all [notTup, toPy]
theorem repL_zip {K : PySem.W.Frag} {F : Hp} {ρ : List Addr} : ∀ {ts : List T} {vs : List V}, RepL K F ρ ts vs → ∀ p ∈ ts.zip vs, Rep K F ρ p.1 p.2
  | _, _, .nil, p, h => by simp at h
  | _, _, .cons t ts v vs r q, p, h => by
    rw [List.zip_cons_cons] at h
    rcases List.mem_cons.mp h with e | h
    · rw [e]; exact r
    · exact repL_zip q p h
theorem repL_of {K : PySem.W.Frag} {F : Hp} {ρ : List Addr} : ∀ {zs : List (T × V)}, (∀ p ∈ zs, Rep K F ρ p.1 p.2) → RepL K F ρ (zs.map Prod.fst) (zs.map Prod.snd)
  | [], _ => .nil
  | p :: zs, h => .cons _ _ _ _ (h p List.mem_cons_self) (repL_of fun q hq => h q (List.mem_cons_of_mem _ hq))
theorem repL_sort {K : PySem.W.Frag} {F : Hp} {ρ : List Addr} {ts : List T} {vs : List V} (r : RepL K F ρ ts vs) : RepL K F ρ (sortT ts) (srtV vs (toPyL ts)) := by
  have hl := r.length
  have e1 : ((ts.zip vs).mergeSort fun p q => !tLt q.1 p.1).map Prod.fst = sortT ts := by
    rw [PySem.W.sort_maps (r := fun p q : T × V => !tLt q.1 p.1) (s := fun a b => !tLt b a) Prod.fst (fun a _ b _ => rfl), List.map_fst_zip (by omega)]
    rfl
  have e2 : ((ts.zip vs).mergeSort fun p q => !tLt q.1 p.1).map Prod.snd = srtV vs (toPyL ts) := by
    have e3 : (ts.zip vs).map (fun p => (p.2, toPy p.1)) = vs.zip (toPyL ts) := by
      rw [toPyL_map]
      clear e1 r
      induction ts generalizing vs with
      | nil => simp
      | cons t ts ih =>
        cases vs with
        | nil => simp
        | cons v vs => simp only [List.zip_cons_cons, List.map_cons]; rw [ih (by simpa using hl)]
    unfold srtV
    rw [← e3, ← PySem.W.sort_maps (r := fun p q : T × V => !tLt q.1 p.1) (s := PySem.W.dataLe false Prod.snd) (fun p : T × V => (p.2, toPy p.1)) (fun a _ b _ => rfl), List.map_map]
    rfl
  have h := repL_of (K := K) (F := F) (ρ := ρ) (zs := (ts.zip vs).mergeSort fun p q => !tLt q.1 p.1) fun p hp => repL_zip r p ((List.mergeSort_perm _ _).mem_iff.mp hp)
  rw [e1, e2] at h
  exact h
section
variable {X : Cx} {pX : List (Addr × Obj)} {σ : L2.St} {A : Around}
/-- what is asked of the items that are sorted -/
def SrtOk (K : PySem.W.Frag) (H : Hp) (vs : List V) (ds : List PyData) : Prop := DpAll K H vs ds ∧ vs.length = ds.length ∧ PySem.W.AlikeAll ds ∧ PySem.W.Sortable ds ∧ PyData.depthAll ds ≤ 50
theorem depth_mem : ∀ {ds : List PyData} {d : PyData}, d ∈ ds → d.depth ≤ PyData.depthAll ds
  | x :: ds, d, h => by
    rw [PyData.depthAll]
    rcases List.mem_cons.mp h with e | h
    · rw [e]; exact Nat.le_max_left _ _
    · exact Nat.le_trans (depth_mem h) (Nat.le_max_right _ _)
theorem zip_each {R : Value → V × PyData → Prop} : ∀ {vs : List V} {us : List Value} {ds : List PyData}, Vals vs us → vs.length = ds.length → (∀ (i : Nat) (v : V) (u : Value) (d : PyData), vs[i]? = some v → us[i]? = some u → ds[i]? = some d → RelV v u → R u (v, d)) → PySem.W.EachIs R us (vs.zip ds)
  | _, _, [], .nil, _, _ => .nil
  | _, _, _ :: _, .nil, h, _ => by simp at h
  | _, _, [], .cons _ _, h, _ => by simp at h
  | v :: vs, u :: us, d :: ds, .cons r t, h, f => .cons (f 0 v u d rfl rfl rfl r) (zip_each t (by simpa using h) fun i v u d h1 h2 h3 => f (i + 1) v u d (by simpa using h1) (by simpa using h2) (by simpa using h3))
theorem readsAll_ix {h : Heap} : ∀ {us : List Value} {ds : List PyData} {as : List Addr}, ReadsAll h us ds as → ∀ (i : Nat) u d, us[i]? = some u → ds[i]? = some d → ∃ as, Reads h u d as
  | _, _, _, .nil, _, _, _, hv, _ => by simp at hv
  | _, _, _, .cons r rs, 0, u, d, hu, hd => by
    have e := Option.some.inj (show some _ = some u from hu)
    have e2 := Option.some.inj (show some _ = some d from hd)
    subst e; subst e2
    exact ⟨_, r⟩
  | _, _, _, .cons r rs, i + 1, u, d, hu, hd => readsAll_ix rs i u d (by simpa using hu) (by simpa using hd)
theorem each_vals {R : Value → V × PyData → Prop} (h : ∀ u b, R u b → RelV b.1 u) : ∀ {us : List Value} {bs : List (V × PyData)}, PySem.W.EachIs R us bs → Vals (bs.map Prod.fst) us
  | _, _, .nil => .nil
  | _, _, .cons r t => .cons (h _ _ r) (each_vals h t)
theorem sorted_col {x : Value} {s : Shared} {Q' : Value → Shared → Prop} {E' : Value → Shared → Prop} (hu : A.units + 64 < cLine)
    (hcol : wpAny (model X.prog X.w) A.in1 (collect x) (fun us s1 => ∃ H vs ds, Inv X pX σ H s1 ∧ Vals vs us ∧ vs.length ≤ sizeLine ∧ SrtOk X.K H vs ds ∧ ∀ l h', (∀ b o, s1.heap.get? b = some o → h'.get? b = some o) → s1.heap.objs.size ≤ l → Inv X pX σ (upd H l (.lst (srtV vs ds))) { s1 with heap := h' } → H l = none → Q' (.ref l) { s1 with heap := h' }) E' s) :
    wpAny (model X.prog X.w) A (call (.builtin "sorted") [x]) Q' E' s := by
  refine Calls.call_function_entry PyProof.Rows.kind_sorted PyProof.Rows.plain_sorted PyProof.Rows.entry_sorted (PyProof.Rows.args_sorted1 _) ?_
  unfold Builtin.«sorted»
  refine wpAny_bind (m := checkCount "sorted" 1 1 _) (wpAny_pure ?_)
  refine wpAny_bind (wpAny_mono hcol (fun us s1 h1 => ?_) fun _ _ e => e)
  obtain ⟨H, vs, ds, I, rv, hz, ⟨hd, hlen, hal, hk, hdep⟩, q⟩ := h1
  have hl := rv.length
  refine wpAny_bind (wpAny_newList ?_ (by omega))
  have hat : (s1.heap.push (seqObj "list" us.toArray 0)).get? s1.heap.objs.size = some (seqObj "list" us.toArray 0) := Heap.get?_push_size _ rfl
  have k1 : ∀ b o, s1.heap.get? b = some o → b ≠ s1.heap.objs.size ∧ (s1.heap.push (seqObj "list" us.toArray 0)).get? b = some o := fun b o e => ⟨Nat.ne_of_lt (Heap.lt_size e), Heap.get?_push_of_some _ e⟩
  obtain ⟨as, rd⟩ := Dp.readsAll I ds vs us hd rv
  have e : PySem.W.EachIs (fun (u : Value) (b : V × PyData) => RelV b.1 u) us (vs.zip ds) := zip_each rv hlen fun i v u d _ _ _ r => r
  have er : PySem.W.EachIs (fun (u : Value) (b : V × PyData) => ∃ as, Reads (PySem.W.sortingHeap (s1.heap.push (seqObj "list" us.toArray 0)) s1.heap.objs.size us) u b.2 as) us (vs.zip ds) := zip_each rv hlen fun i v u d _ h2 h3 _ => by
    obtain ⟨as, r⟩ := readsAll_ix rd i u d h2 h3
    exact ⟨as, PyProof.Rows.Reads.keeps (fun b o eb => PySem.W.sortingHeap_old (k1 b o eb).1 (k1 b o eb).2) r⟩
  have emap : (vs.zip ds).map Prod.snd = ds := List.map_snd_zip (by omega)
  have hal2 : PySem.W.AllAlike ((vs.zip ds).map Prod.snd) := by rw [emap]; exact fun d hd d' hd' => hal.1 d hd d' hd'
  refine wpAny_bind (wpAny_holding (wpAny_call_entry slot_list_sort ⟨_, hat, rfl⟩ entry_list_sort (PySem.W.list_sort_vals (κ := PySem.W.dataKind (PySem.W.sortingHeap (s1.heap.push (seqObj "list" us.toArray 0)) s1.heap.objs.size us) ((vs.zip ds).map Prod.snd)) hat
    (PySem.W.SortsAt.data (s := { s1 with heap := PySem.W.sortingHeap (s1.heap.push (seqObj "list" us.toArray 0)) s1.heap.objs.size us }) (PySem.W.each_map (R := fun v d => ∃ as, Reads (PySem.W.sortingHeap (s1.heap.push (seqObj "list" us.toArray 0)) s1.heap.objs.size us) v d as) Prod.snd er) hal2 (by rw [emap]; exact hk) fun d hd => ?_) (by omega) ⟨_, rfl, ?_⟩) (args_list_sort _)))
  · rw [emap] at hd
    have := depth_mem hd
    show A.units + 1 + 1 + d.depth < cLine
    omega
  · refine wpAny_pure ⟨_, rfl, ?_⟩
    have hout := PySem.W.sortVals_data (h' := PySem.W.sortingHeap (s1.heap.push (seqObj "list" us.toArray 0)) s1.heap.objs.size us) false e er hal2
    have rv2 := each_vals (fun _ _ h => h) hout
    have kp : ∀ b o, s1.heap.get? b = some o → (sortedHeap (s1.heap.push (seqObj "list" us.toArray 0)) s1.heap.objs.size us (PySem.W.sortVals (PySem.W.dataKind (PySem.W.sortingHeap (s1.heap.push (seqObj "list" us.toArray 0)) s1.heap.objs.size us) ((vs.zip ds).map Prod.snd)) false us us).toArray).get? b = some o := fun b o eb => by
      rw [sortedHeap_old (k1 b o eb).1 (by rw [Heap.size_push]; exact Nat.lt_succ_of_lt (Heap.lt_size eb))]
      exact (k1 b o eb).2
    have hn : H s1.heap.objs.size = none := I.hok.fresh (Nat.le_refl _)
    obtain ⟨n, hat2⟩ := sortedHeap_at (out := (PySem.W.sortVals (PySem.W.dataKind (PySem.W.sortingHeap (s1.heap.push (seqObj "list" us.toArray 0)) s1.heap.objs.size us) ((vs.zip ds).map Prod.snd)) false us us).toArray) hat
    refine q _ _ kp (Nat.le_refl _) (I.laid (t' := s1.toks) kp (Nat.le_refl _) ⟨?_, _, n, rv2, hat2⟩) hn
    unfold srtV
    rw [List.length_map, List.length_mergeSort, List.length_zip]
    omega
end
end Mi
namespace Mi
open PySem PySem.Spec PyProof.Rows L2 GenW
open AutoSeq1 (wpAny_loadPart')

def rSortedG (K : PySem.W.Frag) : List V → Hp → VK → Prop := fun xs H Q => ∃ (a : Addr) (vs : List V) (ds : List PyData), xs = [.ref a] ∧ (SqL K H a vs ∨ SqT K H a vs) ∧ SrtOk K H vs ds ∧ ∀ p, H p = none → Q (.ref p) (upd H p (.lst (srtV vs ds)))
section
variable {X : Cx} {tb : Tb} {K : PySem.W.Frag} {W : WX}
theorem cr_sortedG (hu : X.A.units + 64 < cLine) : CallR X (.builtin "sorted") (rSortedG X.K) := fun pins s σ H xs us Q I r h => by
  obtain ⟨a, vs, ds, rfl, hs, ho, q⟩ := h
  obtain ⟨u, rfl, ru⟩ := vals1 r
  obtain rfl : u = Value.ref a := ru
  have fin : ∀ (its : List Value) (h' : Heap), Vals vs its → vs.length ≤ sizeLine → (∀ b o, s.heap.get? b = some o → h'.get? b = some o) → ∃ H vs ds, Inv X pins σ H { s with heap := h' } ∧ Vals vs its ∧ vs.length ≤ sizeLine ∧ SrtOk X.K H vs ds ∧
      ∀ l h2, (∀ b o, ({ s with heap := h' } : Shared).heap.get? b = some o → h2.get? b = some o) → ({ s with heap := h' } : Shared).heap.objs.size ≤ l → Inv X pins σ (upd H l (.lst (srtV vs ds))) { s with heap := h2 } → H l = none → EP X pins σ Q (.ref l) { s with heap := h2 } := fun its h' rv hz kp =>
    ⟨H, vs, ds, I.kept (t' := s.toks) kp, rv, hz, ho, fun l h2 _ _ I2 hn => ⟨.ref l, _, I2, rfl, q l hn⟩⟩
  rcases hs with hs | hs
  · obtain ⟨its, rv, pl, hl⟩ := I.list hs
    obtain ⟨o, e1, e2, n, e3⟩ := pl.isList
    refine sorted_col (pX := pins) (σ := σ) hu (wpAny_collect_seq a (.inl rfl) e1 e2 e3 (fun h' kp => fin its h' rv hl kp) ?_)
    rw [List.size_toArray, ← rv.length]; exact hl
  · obtain ⟨its, rv, pl, hl⟩ := I.tuple hs
    obtain ⟨o, e1, e2, n, e3⟩ := pl
    refine sorted_col (pX := pins) (σ := σ) hu (wpAny_collect_seq a (.inr rfl) e1 e2 e3 (fun h' kp => fin its h' rv hl kp) ?_)
    rw [List.size_toArray, ← rv.length]; exact hl
def fSortedG : List T → Hs → Res T
  | [x], M => match lsOrT x M with
    | some ts => if okSort ts then .ok (.lst (sortT ts)) M else .bad
    | none => .bad
  | _, _ => .bad
theorem srtOk_of {ρ : List Addr} {F : Hp} {M : Hs} {H : Hp} {ts : List T} {vs : List V} (S : Sim tb K ρ F M H) (h : okSort ts = true) (rl : RepL K F ρ ts vs) : SrtOk K H vs (toPyL ts) := by
  obtain ⟨h1, h2, h3⟩ := dp_DpL S.sub ts 50 vs (okOrd_dp (okSort_ord h)) rl
  exact ⟨h1, by rw [toPyL_map, List.length_map, rl.length], okOrd_alike (okSort_ord h), okSort_able h, h3⟩
theorem opn_sortedG : OpN tb K fSortedG (rSortedG K) := fun E ρ F M H Q a x S r p => by
  unfold fSortedG at p
  split at p
  case h_2 => exact p.elim
  cases r with
  | cons t _ v _ r1 r2 =>
  cases r2
  split at p
  case h_2 => exact p.elim
  rename_i ts hts
  split at p
  case isFalse => exact p.elim
  rename_i ho
  obtain ⟨a, vs, e, hs, rl⟩ := lsOrT_at S r1 hts
  exact ⟨a, vs, toPyL ts, by rw [e], hs, srtOk_of S ho rl, fun q hq => new_lst S (repL_sort rl) p q hq⟩
def mGSorted (cs : List Nat) (it : IM) (ws : List Nat) (g : TgP) (c : TM) (e : EM) : EM := fun τ M => (it τ M).bind fun src M1 => gxK cs (fun ts M2 => if okSort ts then .ok (.lst (sortT ts)) M2 else .bad) (gxS g c e (wipeT τ ws) src M1)
theorem mE_gsorted (cs : List Nat) {Pt c' : Addr} {nm : Nat → Nat → Str} {k : Nat} {own : List (Str × Nat)} {elt tg iter : Expr} {ifs : List Expr} {scope : Scope} {p gpos pos : Pos} {it : IM} {g : TgP} {c : TM} {e : EM} (TX : TabX X tb.T c' Pt nm) (hr : Room (k + 5) X.A) (hN : X.N.Nodup) (tk : Takes X W) (hns : NoSI X.K tb cs)
    (G : GxS X.N X.env.scope scope own) (hi : PI X tg iter (tI tb X.K W it)) (B : ∀ E, GxB X k E scope tg ifs elt (tGP X.K (own.map (·.2)) g) (tTM tb X.K (WE E) c) (tM tb X.K (WE E) e)) (hmg : X.mg "sorted" = none) (hg : Gl X "sorted" := by rfl) (hnm : nm gpos.line gpos.col = X.env.qual ++ "<genexpr>" := by rfl) (hs : ∀ v, genFold iter X.env v = pure v := by intro _; rfl)
    (he : starEach [.GeneratorExp elt [⟨tg, iter, ifs, 0⟩] scope gpos] X.env = (false, eval (.GeneratorExp elt [⟨tg, iter, ifs, 0⟩] scope gpos) X.env) :: starEach [] X.env := by rfl) :
    PE X (.Call (.Name "sorted" p) [.GeneratorExp elt [⟨tg, iter, ifs, 0⟩] scope gpos] [] pos) (tM tb X.K W (mGSorted cs it (own.map (·.2)) g c e)) := by
  refine ⟨fun pX s σ H Q I h => ?_⟩
  obtain ⟨ρ, F, M, τ, S, L, q⟩ := h
  refine wpAny_Call_Name_kw (ld_blt I hg hmg (by rfl) ?_)
  refine PyProof.Rows.callWith_builtin1 ?_ he (by rfl)
  rw [he]
  show wpAny _ _ (spliced ((false, eval (.GeneratorExp elt [⟨tg, iter, ifs, 0⟩] scope gpos) X.env) :: backTo pos (starEach [] X.env))) _ _ s
  refine Calls.spliced_cons (gx_make (own := own) (R := fun J H2 => ∃ Wv : Nat → Nat → List V → Hp → Prop, (∃ m, Wv 0 m [] H2) ∧ GxT (consL (fun _ _ _ => True) fun ys H => ∃ ds, SrtOk X.K H ys ds ∧ ∀ p, H p = none → Q (.ref p) (upd H p (.lst (srtV ys ds)))) J Wv (tGP X.K (own.map (·.2)) g) (tTM tb X.K (WE (EK X.K W σ)) c) (tM tb X.K (WE (EK X.K W σ)) e) (own.map (·.2)) σ)
    I TX G hi hnm (by have := hr.dp; omega) hs ⟨ρ, F, M, τ, S, L, (RP.bind q).imp fun src ρ1 F1 H1 e1 q1 J hJ => ?_⟩ fun J H4 it fp tn code a gn go s4 s5 Gm hR => ?_)
  · obtain ⟨M1, _, S1, p1⟩ := q1
    refine ⟨S1.tab, fun H2 eN T1 => ?_⟩
    obtain ⟨S2, e2⟩ := S1.grow eN T1
    have p2 := p1.mono e2
    generalize hR0 : gxS g c e (wipeT τ (own.map (·.2))) src M1 = R0 at p2
    refine gl_loop S2 (L.mono (e1.trans e2)) (hJ.mono e2) hR0 ?_ (.inl fun _ _ _ => trivial)
    cases R0 with
    | bad => exact p2.elim
    | ex cc M' =>
      unfold gxK at p2
      dsimp only at p2
      split at p2
      · rename_i hcc
        exact fun ρ' F' H' e' S' => ⟨p2 ρ' F' H' e' S', hns cc (List.contains_iff_mem.mp hcc)⟩
      · exact p2.elim
    | ok all M' =>
      unfold gxK at p2
      dsimp only at p2
      split at p2
      case isFalse => exact p2.elim
      rename_i ho
      exact fun ρ' F' H' e' S' vs rv => ⟨toPyL all, srtOk_of S' ho rv, fun p hp => new_lst S' (repL_sort rv) (p2.mono e') p hp⟩
  · obtain ⟨Wv, ⟨m, w⟩, turn⟩ := hR
    have hr2 : Room (k + 3) X.A.in1 := (hr.mono (by omega : k + 4 ≤ k + 5)).in1
    refine Calls.spliced_nil (sorted_col (pX := pX) (σ := σ) (by have := hr.un; omega) (gx_collect (E := EK X.K W σ) Gm (B _) hN hr2 I.ok.frames turn w (fun s' ys us H' I' rys hle hd => ?_) fun e s' hx => ⟨Gm.notStop (fun cls d H h => h.2) hx, Gm.exc tk (fun cls d H h => h.1) hx⟩))
    obtain ⟨ds, h1, h2⟩ := hd
    exact ⟨H', ys, ds, I', rys, hle, h1, fun l h' _ _ I2 hn => ⟨.ref l, _, I2, rfl, h2 l hn⟩⟩
end
end Mi
namespace Mi
open PySem PySem.Spec PyProof.Rows L2 GenW
open AutoSeq1 (wpAny_loadPart')

/-! ### min, max of a generator expression -/
abbrev bestObj (v : Value) (c : Nat) : Obj := { cls := .type "list", dict := none, data := .seq #[v, v] c, slots := #[] }
abbrev noneObj (c : Nat) : Obj := { cls := .type "list", dict := none, data := .seq #[] c, slots := #[] }
theorem vals_seq2 {v w : Value} {c d : Nat} (h : some (bestObj v c) = some (bestObj w d)) : v = w := by
  injection h with h
  injection h with _ _ h _
  injection h with h _
  have e4 := congrArg (fun x : Array Value => x[0]?) h
  simpa using e4
theorem dpAll_get {K : PySem.W.Frag} {H : Hp} : ∀ {vs : List V} {ds : List PyData} (i : Nat) {x : V}, DpAll K H vs ds → vs[i]? = some x → Dp K H x (ds.getD i .none) ∧ ds.getD i .none ∈ ds
  | _, _, _, _, .nil, h => by simp at h
  | _, _, 0, _, .cons a b, h => by
    simp only [List.getElem?_cons_zero, Option.some.injEq] at h
    subst h
    exact ⟨a, by simp⟩
  | _, _, i + 1, _, .cons a b, h => by
    obtain ⟨h1, h2⟩ := dpAll_get i b (by simpa using h)
    exact ⟨by simpa using h1, by simpa using List.mem_cons_of_mem _ h2⟩
theorem dp_depth : ∀ (t : T) (n : Nat), dp n t = true → (toPy t).depth ≤ n
  | .un, n, h => by cases n <;> simp [dp] at h
  | .non, n, h => by simp [toPy, PyData.depth]
  | .bl b, n, h => by simp [toPy, PyData.depth]
  | .int i, n, h => by simp [toPy, PyData.depth]
  | .str s, n, h => by simp [toPy, PyData.depth]
  | .lst ts, n, h => by
    obtain ⟨k, rfl, h⟩ := dp_lst h
    have : ∀ l : List T, (∀ t ∈ l, t ∈ ts) → l.all (dp k) = true → PyData.depthAll (toPyL l) ≤ k := fun l hm hl => by
      induction l with
      | nil => simp [toPyL, PyData.depthAll]
      | cons t l ih =>
        rw [List.all_cons, Bool.and_eq_true] at hl
        rw [toPyL, PyData.depthAll]
        have := hm t List.mem_cons_self
        exact Nat.max_le.mpr ⟨dp_depth t k hl.1, ih (fun x hx => hm x (List.mem_cons_of_mem _ hx)) hl.2⟩
    have := this ts (fun _ h => h) h
    simp [toPy, PyData.depth]; omega
  | .tup ts, n, h => by
    obtain ⟨k, rfl, h⟩ := dp_tup h
    have : ∀ l : List T, (∀ t ∈ l, t ∈ ts) → l.all (dp k) = true → PyData.depthAll (toPyL l) ≤ k := fun l hm hl => by
      induction l with
      | nil => simp [toPyL, PyData.depthAll]
      | cons t l ih =>
        rw [List.all_cons, Bool.and_eq_true] at hl
        rw [toPyL, PyData.depthAll]
        have := hm t List.mem_cons_self
        exact Nat.max_le.mpr ⟨dp_depth t k hl.1, ih (fun x hx => hm x (List.mem_cons_of_mem _ hx)) hl.2⟩
    have := this ts (fun _ h => h) h
    simp [toPy, PyData.depth]; omega
  | .fix ts, n, h => by cases n <;> simp [dp] at h
  | .dct kvs, n, h => by cases n <;> simp [dp] at h
  | .ref i, n, h => by cases n <;> simp [dp] at h
termination_by t => sizeOf t
theorem getD_take {α : Type} {l : List α} {d : α} {i n : Nat} (h : i < n) : (l.take n).getD i d = l.getD i d := by
  rw [List.getD_eq_getElem?_getD, List.getD_eq_getElem?_getD, List.getElem?_take_of_lt h]

/-! #### min -/
def PinMin (S : Addr) (ds : List PyData) : List V → List (Addr × Obj) → Prop := fun ys pins => (ys = [] ∧ ∃ c, pins = [(S, noneObj c)]) ∨ ∃ x v c, ys[argBest (btmin ds) (ys.length - 1)]? = some x ∧ RelV x v ∧ pins = [(S, bestObj v c)]
/-- the items that came stand for the first data -/
def PrMMin (K : PySem.W.Frag) (ds : List PyData) : List V → V → Hp → Prop := fun ys y H => ys.length < ds.length ∧ DpAll K H (ys ++ [y]) (ds.take (ys.length + 1))
section
variable {X : Cx} {pX : List (Addr × Obj)} {σ : L2.St} {elt tg iter : Expr} {ifs : List Expr} {scope : Scope} {own : List (Str × Nat)} {pos : Pos} {J : It} {H4 : Hp} {it : Addr} {fp : List Addr} {tn : Nat → Heap → Prop} {code : Value} {a : Addr} {gn : Nat} {go : Obj} {s4 s5 : Shared}
theorem gx_min {A : Around} {ds : List PyData} {Dn : List V → Hp → Prop} {Rr : Result → Shared → Prop} {S : Addr} (Gm : GxMade X pX σ elt tg iter ifs scope own pos J H4 it fp tn code a gn go s4 s5) (hh : A.handled = none) (hd : A.depth < recursionLimit) (hu : A.units + 64 < cLine) (hS : s5.heap.objs.size ≤ S) (hal : PySem.W.AlikeAll ds) (hdep : PyData.depthAll ds ≤ 50)
    (hend : ∀ s' H ys x v, Inv X pX σ H s' → Dn ys H → ys[argBest (btmin ds) (ys.length - 1)]? = some x → RelV x v → Rr (.ok (.ret v)) s') (hne : ∀ H, ¬ Dn [] H) :
    ∀ (n : Nat) (s : Shared), 0 < n → s.heap.IsGen a gn → s.heap.NoLimit → ((∃ c, s.heap.get? S = some (noneObj c)) ∨ ∃ v c, s.heap.get? S = some (bestObj v c)) →
      (∃ gs, s.gens[gn]? = some gs ∧ GxRest X σ scope own H4 fp tn code a gn go s4 E00 (PinMin S ds) (consL (PrMMin X.K ds) Dn) A.in1 n gs (s.setGen gn .running)) → codeAny (model X.prog X.w) A (.builtin "min.loop" ⟨[.ref a, .none, .ref S], []⟩) Rr s := by
  have hname : (toString "min" ++ toString ".loop" : String) = "min.loop" := by decide
  intro n
  induction n using Nat.strongRecOn with
  | ind n ih =>
  intro s hn hg hl hS0 ⟨gs, hgs, hgo⟩
  have hfin : ∀ {s2 s₁ : Shared} {gs' : GenState} {i : Nat} {ys : List V} {y : V} {v w : Value} {H : Hp} {Nx : List V → Hp → Prop} {c : Nat}, gs'.bare = true → gn < s₁.gens.size → GxI (gxCx X A.in1.in1 s4 H4 E00 scope s4.heap.objs.size code fp [(a, go)]) fp tn (wipe σ (own.map (·.2))) (PinMin S ds) s i ys H s₁ → Nx (ys ++ [y]) H →
      (∀ c' H' s', Nx c' H' → GxI (gxCx X A.in1.in1 s4 H4 E00 scope s4.heap.objs.size code fp [(a, go)]) fp tn (wipe σ (own.map (·.2))) (PinMin S ds) s' i c' H' s' → ∃ m, 0 < m ∧ m < n ∧ GxRest X σ scope own H4 fp tn code a gn go s4 E00 (PinMin S ds) (consL (PrMMin X.K ds) Dn) A.in1 m gs' s') →
      s2.os = s₁.os → s2.gens = (s₁.setGen gn gs').gens → (∀ b o, b ∉ [S] → s₁.heap.get? b = some o → s2.heap.get? b = some o) → s2.heap.get? S = some (bestObj w c) → (∃ x, (ys ++ [y])[argBest (btmin ds) ((ys ++ [y]).length - 1)]? = some x ∧ RelV x w) →
      codeAny (model X.prog X.w) A (.builtin "min.loop" ⟨[.ref a, .none, .ref S], []⟩) Rr s2 := by
    intro s2 s₁ gs' i ys y v w H Nx c hb hsz gi nx0 nx hos hgens keep hS2 ⟨x, hx, rx⟩
    obtain ⟨pins1, I1, _⟩ := id gi
    have b1 : AllBare (s₁.setGen gn gs').gens := allBare_setGen I1.bare hb
    have gi2 : GxI (gxCx X A.in1.in1 s4 H4 E00 scope s4.heap.objs.size code fp [(a, go)]) fp tn (wipe σ (own.map (·.2))) (PinMin S ds) (s2.setGen gn .running) i (ys ++ [y]) H (s2.setGen gn .running) :=
      Gm.slept (Ss := [S]) (fun b hb => by rw [List.mem_singleton.mp hb]; exact hS) (fun c pins hp b hb => by
        rcases hp with ⟨_, c, e⟩ | ⟨x, v, c, _, _, e⟩ <;> exact ⟨_, by rw [e]; exact List.mem_singleton.mpr rfl, (List.mem_singleton.mp hb).symm⟩) gi hos (allBare_setGen (by rw [hgens]; exact b1) rfl) keep
        (fun b hb => by rw [List.mem_singleton.mp hb]; exact ⟨_, hS2⟩) (.inr ⟨x, w, c, hx, rx, rfl⟩) fun p hp => by
          rw [List.mem_singleton.mp hp]; exact ⟨List.mem_singleton.mpr rfl, hS2, fun v q => by cases q⟩
    obtain ⟨pins2, I2, _⟩ := id gi2
    have g2 := Gm.isGen I2
    have l2 := I2.nolimit
    obtain ⟨m, m0, mn, q⟩ := nx _ H _ nx0 gi2
    exact ih m mn s2 m0 g2 l2 (.inr ⟨w, c, hS2⟩) ⟨gs', by rw [hgens]; exact setGen_at hsz, q⟩
  have other : ∀ {s₁ : Shared} (f : Obj → Obj), ∀ b o, b ∉ [S] → s₁.heap.get? b = some o → (s₁.heap.update S f).get? b = some o := fun f b o hb e => (Heap.get?_update_other _ _ (fun z => hb (List.mem_singleton.mpr z.symm))).trans e
  refine codeAny_builtin F.entry_min_loop ?_
  rw [Around.under_plainId F.plain_min_loop _]
  show wpAny _ A.in1 (seqItems? (.ref S) >>= _) _ _ s
  rcases hS0 with ⟨c0, hS0⟩ | ⟨v0, c0, hS0⟩
  · refine wpAny_bind (wpAny_seqItems hS0 rfl ?_)
    show wpAny _ A.in1 (tryCatch (pyNext (.ref a)) _ >>= _) _ _ s
    refine wpAny_bind (wpAny_tryCatch (gx_pull (A := A.in1) Gm hh hd hn hg hl hgs hgo (fun v s₁ gs' i ys y H Nx hb hsz rv gi ⟨hlen, ⟨hlt, hdp⟩, nx0⟩ nx => ?_) (fun s₁ ys H pins I pc hpin dn => ?_) (fun e s' hx => (cxx_false hx).elim)))
    · obtain ⟨pins, I1, pc, st1, nf1, h0⟩ := id gi
      have eys : ys = [] := by
        rcases pc with ⟨e, _⟩ | ⟨x, w, c, _, _, e⟩
        · exact e
        · have z := h0 (S, bestObj w c) (by rw [e]; exact List.mem_singleton.mpr rfl)
          rw [hS0] at z
          injection z with z
          injection z with _ _ z _
          injection z with z _
          have := congrArg Array.size z
          simp at this
      have hS1 : ∃ c, s₁.heap.get? S = some (noneObj c) := by
        rcases pc with ⟨_, c, e⟩ | ⟨x, w, c, hx, _, _⟩
        · exact ⟨c, (I1.pin (S, noneObj c) (List.mem_append_right _ (by rw [e]; exact List.mem_singleton.mpr rfl))).1⟩
        · rw [eys] at hx; simp at hx
      obtain ⟨c1, hS1⟩ := hS1
      have hS1' : (s₁.setGen gn gs').heap.get? S = some (noneObj c1) := hS1
      show wpAny _ A.in1 (updateSeq S (fun _ => #[v, v]) >>= _) _ _ _
      refine wpAny_bind (wpAny_updateSeq hS1' rfl ?_)
      rw [hname]
      refine wpAny_pure ⟨plainId_quiet F.plain_min_loop _, ?_⟩
      refine hfin (v := v) (w := v) (y := y) hb hsz gi nx0 nx rfl rfl (other _) (Heap.get?_update_self _ hS1' rfl) ⟨y, ?_, rv⟩
      subst eys
      rfl
    · rcases pc with ⟨e, _⟩ | ⟨x, w, c, hx, _, e⟩
      · subst e
        exact absurd dn.2 (hne H)
      · have z := (hpin (S, bestObj w c) (by rw [e]; exact List.mem_singleton.mpr rfl)).1
        rw [hS0] at z
        injection z with z
        injection z with _ _ z _
        injection z with z _
        have := congrArg Array.size z
        simp at this
  · refine wpAny_bind (wpAny_seqItems hS0 rfl ?_)
    show wpAny _ A.in1 (tryCatch (pyNext (.ref a)) _ >>= _) _ _ s
    refine wpAny_bind (wpAny_tryCatch (gx_pull (A := A.in1) Gm hh hd hn hg hl hgs hgo (fun v s₁ gs' i ys y H Nx hb hsz rv gi ⟨hlen, ⟨hlt, hdp⟩, nx0⟩ nx => ?_) (fun s₁ ys H pins I pc hpin dn => ?_) (fun e s' hx => (cxx_false hx).elim)))
    · obtain ⟨pins, I1, pc, st1, nf1, h0⟩ := id gi
      have hbest : ∃ x c, ys[argBest (btmin ds) (ys.length - 1)]? = some x ∧ RelV x v0 ∧ s₁.heap.get? S = some (bestObj v0 c) := by
        rcases pc with ⟨_, c, e⟩ | ⟨x, w, c, hx, rx, e⟩
        · have z := h0 (S, noneObj c) (by rw [e]; exact List.mem_singleton.mpr rfl)
          rw [hS0] at z
          injection z with z
          injection z with _ _ z _
          injection z with z _
          have := congrArg Array.size z
          simp at this
        · have hm : (S, bestObj w c) ∈ pins := by rw [e]; exact List.mem_singleton.mpr rfl
          have z := h0 (S, bestObj w c) hm
          rw [hS0] at z
          have ew := vals_seq2 z
          subst ew
          exact ⟨x, c, hx, rx, (I1.pin (S, bestObj v0 c) (List.mem_append_right _ hm)).1⟩
      obtain ⟨x, c1, hx, rx, hS1⟩ := hbest
      have hS1' : (s₁.setGen gn gs').heap.get? S = some (bestObj v0 c1) := hS1
      have hys : ys ≠ [] := fun z => by rw [z] at hx; simp at hx
      obtain ⟨k, hk⟩ : ∃ k, ys.length = k + 1 := ⟨ys.length - 1, by have := List.length_pos_iff.mpr hys; omega⟩
      have e1 : ys.length - 1 = k := by omega
      rw [e1] at hx
      have hble := argBest_le (btmin ds) k
      have hx' : (ys ++ [y])[argBest (btmin ds) k]? = some x := by rw [List.getElem?_append_left (by omega)]; exact hx
      have hy' : (ys ++ [y])[k + 1]? = some y := by rw [List.getElem?_append_right (by omega), hk, Nat.sub_self]; rfl
      obtain ⟨d1, m1⟩ := dpAll_get _ hdp hx'
      obtain ⟨d2, m2⟩ := dpAll_get _ hdp hy'
      have t1 : (ds.take (ys.length + 1)).getD (argBest (btmin ds) k) .none = ds.getD (argBest (btmin ds) k) .none := getD_take (by omega)
      have t2 : (ds.take (ys.length + 1)).getD (k + 1) .none = ds.getD (k + 1) .none := getD_take (by omega)
      rw [t1] at d1 m1
      rw [t2] at d2 m2
      have m1 := List.mem_of_mem_take m1
      have m2 := List.mem_of_mem_take m2
      obtain ⟨as1, r1⟩ := Dp.reads I1 _ x v0 d1 rx
      obtain ⟨as2, r2⟩ := Dp.reads I1 _ y v d2 rv
      have hdep1 := Nat.le_trans (depth_mem m1) hdep
      have hdep2 := Nat.le_trans (depth_mem m2) hdep
      show wpAny _ A.in1 (tryCatch (holding [v, v] (richCompare .Lt v v0 >>= _)) _ >>= _) _ _ _
      refine wpAny_bind (wpAny_tryCatch (wpAny_holding (wpAny_bind (PySem.W.rcLt_alike _ _ A.in1 (s₁.setGen gn gs') v v0 as2 as1 r2 r1 (hal.1 _ m2 _ m1) (hal.2 _ m2) ?_ _ _ _ _ ?_))))
      · have := Nat.min_le_left (ds.getD (k + 1) .none).depth (ds.getD (argBest (btmin ds) k) .none).depth
        show A.units + 1 + _ < cLine
        omega
      refine wpAny_bind (wpAny_holding (wpAny_truthy_bool ?_))
      refine wpAny_bind (wpAny_letGo (wpAny_pure ?_))
      have ebt : btmin ds (k + 1) (argBest (btmin ds) k) = PySem.W.dataLt (ds.getD (k + 1) .none) (ds.getD (argBest (btmin ds) k) .none) := rfl
      have elen : (ys ++ [y]).length - 1 = k + 1 := by rw [List.length_append, List.length_singleton]; omega
      cases hbb : PySem.W.dataLt (ds.getD (k + 1) .none) (ds.getD (argBest (btmin ds) k) .none) with
      | true =>
        simp only [if_true]
        refine wpAny_bind (wpAny_updateSeq hS1' rfl (wpAny_bind (wpAny_letGo ?_)))
        rw [hname]
        refine wpAny_pure ⟨plainId_quiet F.plain_min_loop _, ?_⟩
        refine hfin (v := v) (w := v) (y := y) hb hsz gi nx0 nx rfl rfl (other _) (Heap.get?_update_self _ hS1' rfl) ⟨y, ?_, rv⟩
        rw [elen]
        unfold argBest
        rw [ebt, hbb, if_pos rfl]
        exact hy'
      | false =>
        simp only [Bool.false_eq_true, if_false]
        refine wpAny_bind (wpAny_letGo ?_)
        rw [hname]
        refine wpAny_pure ⟨plainId_quiet F.plain_min_loop _, ?_⟩
        refine hfin (v := v) (w := v0) (y := y) hb hsz gi nx0 nx rfl rfl (fun b o _ e => e) hS1' ⟨x, ?_, rx⟩
        rw [elen]
        unfold argBest
        rw [ebt, hbb, if_neg Bool.false_ne_true]
        exact hx'
    · have hbest : ∃ x c, ys[argBest (btmin ds) (ys.length - 1)]? = some x ∧ RelV x v0 ∧ s₁.heap.get? S = some (bestObj v0 c) ∧ H S = none := by
        rcases pc with ⟨_, c, e⟩ | ⟨x, w, c, hx, rx, e⟩
        · have z := (hpin (S, noneObj c) (by rw [e]; exact List.mem_singleton.mpr rfl)).1
          rw [hS0] at z
          injection z with z
          injection z with _ _ z _
          injection z with z _
          have := congrArg Array.size z
          simp at this
        · have hm : (S, bestObj w c) ∈ pins := by rw [e]; exact List.mem_singleton.mpr rfl
          have z := (hpin (S, bestObj w c) hm).1
          rw [hS0] at z
          have ew := vals_seq2 z
          subst ew
          exact ⟨x, c, hx, rx, (hpin (S, bestObj v0 c) hm).2⟩
      obtain ⟨x, c1, hx, rx, hS1, hSn⟩ := hbest
      show wpAny _ A.in1 (updateSeq S (fun _ => #[]) >>= _) _ _ _
      refine wpAny_bind (wpAny_updateSeq hS1 rfl (wpAny_bind (wpAny_letGo (wpAny_pure ?_))))
      obtain ⟨f0, f1, f2, f3, f4, f5⟩ := Gm.I.fpOk (H' := H) (b := S) (Nat.le_trans (Nat.le_of_lt (Nat.lt_trans Gm.lt Gm.sz)) hS) hSn
      exact hend { s₁ with heap := s₁.heap.update S (Obj.mapSeq fun _ => #[]) } H ys x v0 (I.turned (t' := s₁.toks) (fun b o hb e => (Heap.get?_update_other _ _ (Ne.symm hb)).trans e) f0 f1 f3 f4 f5) dn.2 hx rx
end

def mGMin (it : IM) (ws : List Nat) (g : TgP) (c : TM) (e : EM) : EM := fun τ M => (it τ M).bind fun src M1 => gxK [] (fun ts M2 => if okOrd ts && !ts.isEmpty then .ok (bestmin ts) M2 else .bad) (gxS g c e (wipeT τ ws) src M1)
section
variable {X : Cx} {tb : Tb} {W : WX}
theorem mE_gmin {Pt c' : Addr} {nm : Nat → Nat → Str} {k : Nat} {own : List (Str × Nat)} {elt tg iter : Expr} {ifs : List Expr} {scope : Scope} {p gpos pos : Pos} {it : IM} {g : TgP} {c : TM} {e : EM} (TX : TabX X tb.T c' Pt nm) (hr : Room (k + 5) X.A) (hN : X.N.Nodup)
    (G : GxS X.N X.env.scope scope own) (hi : PI X tg iter (tI tb X.K W it)) (B : ∀ E, GxB X k E scope tg ifs elt (tGP X.K (own.map (·.2)) g) (tTM tb X.K (WE E) c) (tM tb X.K (WE E) e)) (hmg : X.mg "min" = none) (hg : Gl X "min" := by rfl) (hnm : nm gpos.line gpos.col = X.env.qual ++ "<genexpr>" := by rfl) (hs : ∀ v, genFold iter X.env v = pure v := by intro _; rfl)
    (he : starEach [.GeneratorExp elt [⟨tg, iter, ifs, 0⟩] scope gpos] X.env = (false, eval (.GeneratorExp elt [⟨tg, iter, ifs, 0⟩] scope gpos) X.env) :: starEach [] X.env := by rfl) :
    PE X (.Call (.Name "min" p) [.GeneratorExp elt [⟨tg, iter, ifs, 0⟩] scope gpos] [] pos) (tM tb X.K W (mGMin it (own.map (·.2)) g c e)) := by
  refine ⟨fun pX s σ H Q I h => ?_⟩
  obtain ⟨ρ, F, M, τ, S, L, q⟩ := h
  refine wpAny_Call_Name_kw (ld_blt I hg hmg (by rfl) ?_)
  refine PyProof.Rows.callWith_builtin1 ?_ he (by rfl)
  rw [he]
  show wpAny _ _ (spliced ((false, eval (.GeneratorExp elt [⟨tg, iter, ifs, 0⟩] scope gpos) X.env) :: backTo pos (starEach [] X.env))) _ _ s
  refine Calls.spliced_cons (gx_make (own := own) (R := fun J H2 => ∃ ds : List PyData, PySem.W.AlikeAll ds ∧ PyData.depthAll ds ≤ 50 ∧ ds ≠ [] ∧ ∃ Wv : Nat → Nat → List V → Hp → Prop, (∃ m, Wv 0 m [] H2) ∧ GxT (consL (PrMMin X.K ds) fun ys H => ys.length = ds.length ∧ ∀ x, ys[argBest (btmin ds) (ys.length - 1)]? = some x → Q x H) J Wv (tGP X.K (own.map (·.2)) g) (tTM tb X.K (WE E00) c) (tM tb X.K (WE E00) e) (own.map (·.2)) σ)
    I TX G hi hnm (by have := hr.dp; omega) hs ⟨ρ, F, M, τ, S, L, (RP.bind q).imp fun src ρ1 F1 H1 e1 q1 J hJ => ?_⟩ fun J H4 it fp tn code a gn go s4 s5 Gm hR => ?_)
  · obtain ⟨M1, _, S1, p1⟩ := q1
    refine ⟨S1.tab, fun H2 eN T1 => ?_⟩
    obtain ⟨S2, e2⟩ := S1.grow eN T1
    have p2 := p1.mono e2
    generalize hR0 : gxS g c e (wipeT τ (own.map (·.2))) src M1 = R0 at p2
    cases R0 with
    | bad => exact p2.elim
    | ex cc M' => exact p2.elim
    | ok all M' =>
      unfold gxK at p2
      dsimp only at p2
      split at p2
      case isFalse => exact p2.elim
      rename_i ho
      rw [Bool.and_eq_true] at ho
      have hdp := okOrd_dp ho.1
      have hdl : PyData.depthAll (toPyL all) ≤ 50 := by
        rw [toPyL_map]
        have : ∀ l : List T, l.all (dp 50) = true → PyData.depthAll (l.map toPy) ≤ 50 := fun l hl => by
          induction l with
          | nil => simp [PyData.depthAll]
          | cons t l ih =>
            rw [List.all_cons, Bool.and_eq_true] at hl
            rw [List.map_cons, PyData.depthAll]
            exact Nat.max_le.mpr ⟨dp_depth t 50 hl.1, ih hl.2⟩
        exact this all hdp
      refine ⟨toPyL all, okOrd_alike ho.1, hdl, fun z => ?_, ?_⟩
      · rw [toPyL_map] at z
        cases all with
        | nil => simp at ho
        | cons _ _ => simp at z
      refine gl_loop S2 (L.mono (e1.trans e2)) (hJ.mono e2) hR0 (fun ρ' F' H' e' S' vs rv => ⟨by rw [toPyL_map, List.length_map, rv.length], fun x hx => ?_⟩) (.inr ⟨all, M', rfl, fun accT v rest ρ' F' M' H' ys y ea _ S' ra ry => ⟨?_, ?_⟩⟩)
      · cases all with
        | nil => simp at ho
        | cons t ts =>
          have hl := rv.length
          have e3 : vs.length - 1 = ts.length := by rw [← hl]; simp
          rw [e3] at hx
          obtain ⟨w', g1, g2⟩ := rv.get bestmin_at
          rw [hx] at g1
          cases g1
          exact RP.here S' (p2.mono e') x g2
      · rw [toPyL_map, List.length_map, ea, ← ra.length]
        simp
      · have hd2 : (accT ++ [v]).all (dp 50) = true := by
          rw [ea] at hdp
          simp only [List.all_append, List.all_cons, Bool.and_eq_true] at hdp ⊢
          exact ⟨hdp.1, hdp.2.1, by simp⟩
        have h1 := (dp_DpL S'.sub (accT ++ [v]) 50 (ys ++ [y]) hd2 (ra.append (.cons _ _ _ _ ry .nil))).1
        have e4 : (toPyL all).take (ys.length + 1) = toPyL (accT ++ [v]) := by
          rw [toPyL_map, toPyL_map, ea, ← ra.length, ← List.map_take]
          congr 1
          rw [List.take_append, List.take_of_length_le (by omega)]
          simp
        rw [e4]
        exact h1
  · obtain ⟨ds, hal, hdep, hne, Wv, ⟨m, w⟩, turn⟩ := hR
    have hname : (toString "min" ++ toString ".loop" : String) = "min.loop" := by decide
    have hr4 : Room k (X.A.in1.in1.deeper (gxEnv X scope s4.heap.objs.size code)) := (hr.in1.in1.mono (by omega)).deeper _
    refine Calls.spliced_nil (call_function_tree PySem.F.kind_min PySem.F.plain_min PySem.F.entry_min (PySem.F.args_min1 _) ?_)
    show wpAny _ X.A.in1 (Builtin.Builtins.bindParams "min" ["key", "default"] 0 ⟨[], []⟩ >>= _) _ _ _
    refine wpAny_bind (wpAny_of_eq (show Builtin.Builtins.bindParams "min" ["key", "default"] 0 ⟨[], []⟩ = pure [none, none] from rfl) ?_)
    refine wpAny_bind (wpAny_pure ?_)
    refine wpAny_bind (wpAny_pyIter_gen (Gm.gen _ Gm.at_) ?_)
    refine wpAny_bind (wpAny_newObj_type ?_)
    have k1 : ∀ b o, s5.heap.get? b = some o → (s5.heap.push (noneObj 0)).get? b = some o := fun b o e => Heap.get?_push_of_some _ e
    have hS : (s5.heap.push (noneObj 0)).get? s5.heap.objs.size = some (noneObj 0) := Heap.get?_push_size _ rfl
    rw [hname]
    refine wpAny_pure ⟨plainId_quiet PySem.F.plain_min_loop _, gx_min (A := X.A) (ds := ds) (Dn := fun ys H => ys.length = ds.length ∧ ∀ x, ys[argBest (btmin ds) (ys.length - 1)]? = some x → Q x H) Gm hr.hd (by have := hr.dp; omega) (by have := hr.un; omega) (Nat.le_refl _) hal hdep (fun s' H' ys x v I' hd hx rx => ⟨x, H', I', rx, hd.2 x hx⟩) (fun H h => hne (List.length_eq_zero_iff.mp h.1.symm)) (m + 1) _ (Nat.succ_pos m) ((Gm.gen _ Gm.at_).keeps k1) ((Gm.I.nolimit.keeps Gm.kp).keeps k1) (.inl ⟨0, hS⟩) ⟨_, Gm.gs, rfl, ?_⟩⟩
    exact gx_wake (C := List V) (K := consL _ _) (P := PinMin s5.heap.objs.size ds) (A := X.A.in1.in1) (E := E00) (pins0 := [(s5.heap.objs.size, noneObj 0)]) Gm hN hr.hd I.ok.frames ((B _).pg _ _ _ _ _ _ _ hr4) ((B _).pt _ _ _ _ _ _ _ hr4) ((B _).pe _ _ _ _ _ _ _ hr4) turn w (Nat.lt_succ_self m) k1 rfl (allBare_setGen (s := { s5 with heap := _ }) Gm.bare rfl)
      (fun c pins hp p hp2 => by rcases hp with ⟨_, c, e⟩ | ⟨x, v, c, _, _, e⟩ <;> (rw [e] at hp2; rw [List.mem_singleton.mp hp2]; exact Nat.le_refl _)) (.inl ⟨rfl, 0, rfl⟩) fun p hp => by rw [List.mem_singleton.mp hp]; exact ⟨hS, fun v q => by cases q⟩
end

/-! #### max -/
def PinMax (S : Addr) (ds : List PyData) : List V → List (Addr × Obj) → Prop := fun ys pins => (ys = [] ∧ ∃ c, pins = [(S, noneObj c)]) ∨ ∃ x v c, ys[argBest (btmax ds) (ys.length - 1)]? = some x ∧ RelV x v ∧ pins = [(S, bestObj v c)]
/-- the items that came stand for the first data -/
def PrMMax (K : PySem.W.Frag) (ds : List PyData) : List V → V → Hp → Prop := fun ys y H => ys.length < ds.length ∧ DpAll K H (ys ++ [y]) (ds.take (ys.length + 1))
section
variable {X : Cx} {pX : List (Addr × Obj)} {σ : L2.St} {elt tg iter : Expr} {ifs : List Expr} {scope : Scope} {own : List (Str × Nat)} {pos : Pos} {J : It} {H4 : Hp} {it : Addr} {fp : List Addr} {tn : Nat → Heap → Prop} {code : Value} {a : Addr} {gn : Nat} {go : Obj} {s4 s5 : Shared}
theorem gx_max {A : Around} {ds : List PyData} {Dn : List V → Hp → Prop} {Rr : Result → Shared → Prop} {S : Addr} (Gm : GxMade X pX σ elt tg iter ifs scope own pos J H4 it fp tn code a gn go s4 s5) (hh : A.handled = none) (hd : A.depth < recursionLimit) (hu : A.units + 64 < cLine) (hS : s5.heap.objs.size ≤ S) (hal : PySem.W.AlikeAll ds) (hdep : PyData.depthAll ds ≤ 50)
    (hend : ∀ s' H ys x v, Inv X pX σ H s' → Dn ys H → ys[argBest (btmax ds) (ys.length - 1)]? = some x → RelV x v → Rr (.ok (.ret v)) s') (hne : ∀ H, ¬ Dn [] H) :
    ∀ (n : Nat) (s : Shared), 0 < n → s.heap.IsGen a gn → s.heap.NoLimit → ((∃ c, s.heap.get? S = some (noneObj c)) ∨ ∃ v c, s.heap.get? S = some (bestObj v c)) →
      (∃ gs, s.gens[gn]? = some gs ∧ GxRest X σ scope own H4 fp tn code a gn go s4 E00 (PinMax S ds) (consL (PrMMax X.K ds) Dn) A.in1 n gs (s.setGen gn .running)) → codeAny (model X.prog X.w) A (.builtin "max.loop" ⟨[.ref a, .none, .ref S], []⟩) Rr s := by
  have hname : (toString "max" ++ toString ".loop" : String) = "max.loop" := by decide
  intro n
  induction n using Nat.strongRecOn with
  | ind n ih =>
  intro s hn hg hl hS0 ⟨gs, hgs, hgo⟩
  have hfin : ∀ {s2 s₁ : Shared} {gs' : GenState} {i : Nat} {ys : List V} {y : V} {v w : Value} {H : Hp} {Nx : List V → Hp → Prop} {c : Nat}, gs'.bare = true → gn < s₁.gens.size → GxI (gxCx X A.in1.in1 s4 H4 E00 scope s4.heap.objs.size code fp [(a, go)]) fp tn (wipe σ (own.map (·.2))) (PinMax S ds) s i ys H s₁ → Nx (ys ++ [y]) H →
      (∀ c' H' s', Nx c' H' → GxI (gxCx X A.in1.in1 s4 H4 E00 scope s4.heap.objs.size code fp [(a, go)]) fp tn (wipe σ (own.map (·.2))) (PinMax S ds) s' i c' H' s' → ∃ m, 0 < m ∧ m < n ∧ GxRest X σ scope own H4 fp tn code a gn go s4 E00 (PinMax S ds) (consL (PrMMax X.K ds) Dn) A.in1 m gs' s') →
      s2.os = s₁.os → s2.gens = (s₁.setGen gn gs').gens → (∀ b o, b ∉ [S] → s₁.heap.get? b = some o → s2.heap.get? b = some o) → s2.heap.get? S = some (bestObj w c) → (∃ x, (ys ++ [y])[argBest (btmax ds) ((ys ++ [y]).length - 1)]? = some x ∧ RelV x w) →
      codeAny (model X.prog X.w) A (.builtin "max.loop" ⟨[.ref a, .none, .ref S], []⟩) Rr s2 := by
    intro s2 s₁ gs' i ys y v w H Nx c hb hsz gi nx0 nx hos hgens keep hS2 ⟨x, hx, rx⟩
    obtain ⟨pins1, I1, _⟩ := id gi
    have b1 : AllBare (s₁.setGen gn gs').gens := allBare_setGen I1.bare hb
    have gi2 : GxI (gxCx X A.in1.in1 s4 H4 E00 scope s4.heap.objs.size code fp [(a, go)]) fp tn (wipe σ (own.map (·.2))) (PinMax S ds) (s2.setGen gn .running) i (ys ++ [y]) H (s2.setGen gn .running) :=
      Gm.slept (Ss := [S]) (fun b hb => by rw [List.mem_singleton.mp hb]; exact hS) (fun c pins hp b hb => by
        rcases hp with ⟨_, c, e⟩ | ⟨x, v, c, _, _, e⟩ <;> exact ⟨_, by rw [e]; exact List.mem_singleton.mpr rfl, (List.mem_singleton.mp hb).symm⟩) gi hos (allBare_setGen (by rw [hgens]; exact b1) rfl) keep
        (fun b hb => by rw [List.mem_singleton.mp hb]; exact ⟨_, hS2⟩) (.inr ⟨x, w, c, hx, rx, rfl⟩) fun p hp => by
          rw [List.mem_singleton.mp hp]; exact ⟨List.mem_singleton.mpr rfl, hS2, fun v q => by cases q⟩
    obtain ⟨pins2, I2, _⟩ := id gi2
    have g2 := Gm.isGen I2
    have l2 := I2.nolimit
    obtain ⟨m, m0, mn, q⟩ := nx _ H _ nx0 gi2
    exact ih m mn s2 m0 g2 l2 (.inr ⟨w, c, hS2⟩) ⟨gs', by rw [hgens]; exact setGen_at hsz, q⟩
  have other : ∀ {s₁ : Shared} (f : Obj → Obj), ∀ b o, b ∉ [S] → s₁.heap.get? b = some o → (s₁.heap.update S f).get? b = some o := fun f b o hb e => (Heap.get?_update_other _ _ (fun z => hb (List.mem_singleton.mpr z.symm))).trans e
  refine codeAny_builtin F.entry_max_loop ?_
  rw [Around.under_plainId F.plain_max_loop _]
  show wpAny _ A.in1 (seqItems? (.ref S) >>= _) _ _ s
  rcases hS0 with ⟨c0, hS0⟩ | ⟨v0, c0, hS0⟩
  · refine wpAny_bind (wpAny_seqItems hS0 rfl ?_)
    show wpAny _ A.in1 (tryCatch (pyNext (.ref a)) _ >>= _) _ _ s
    refine wpAny_bind (wpAny_tryCatch (gx_pull (A := A.in1) Gm hh hd hn hg hl hgs hgo (fun v s₁ gs' i ys y H Nx hb hsz rv gi ⟨hlen, ⟨hlt, hdp⟩, nx0⟩ nx => ?_) (fun s₁ ys H pins I pc hpin dn => ?_) (fun e s' hx => (cxx_false hx).elim)))
    · obtain ⟨pins, I1, pc, st1, nf1, h0⟩ := id gi
      have eys : ys = [] := by
        rcases pc with ⟨e, _⟩ | ⟨x, w, c, _, _, e⟩
        · exact e
        · have z := h0 (S, bestObj w c) (by rw [e]; exact List.mem_singleton.mpr rfl)
          rw [hS0] at z
          injection z with z
          injection z with _ _ z _
          injection z with z _
          have := congrArg Array.size z
          simp at this
      have hS1 : ∃ c, s₁.heap.get? S = some (noneObj c) := by
        rcases pc with ⟨_, c, e⟩ | ⟨x, w, c, hx, _, _⟩
        · exact ⟨c, (I1.pin (S, noneObj c) (List.mem_append_right _ (by rw [e]; exact List.mem_singleton.mpr rfl))).1⟩
        · rw [eys] at hx; simp at hx
      obtain ⟨c1, hS1⟩ := hS1
      have hS1' : (s₁.setGen gn gs').heap.get? S = some (noneObj c1) := hS1
      show wpAny _ A.in1 (updateSeq S (fun _ => #[v, v]) >>= _) _ _ _
      refine wpAny_bind (wpAny_updateSeq hS1' rfl ?_)
      rw [hname]
      refine wpAny_pure ⟨plainId_quiet F.plain_max_loop _, ?_⟩
      refine hfin (v := v) (w := v) (y := y) hb hsz gi nx0 nx rfl rfl (other _) (Heap.get?_update_self _ hS1' rfl) ⟨y, ?_, rv⟩
      subst eys
      rfl
    · rcases pc with ⟨e, _⟩ | ⟨x, w, c, hx, _, e⟩
      · subst e
        exact absurd dn.2 (hne H)
      · have z := (hpin (S, bestObj w c) (by rw [e]; exact List.mem_singleton.mpr rfl)).1
        rw [hS0] at z
        injection z with z
        injection z with _ _ z _
        injection z with z _
        have := congrArg Array.size z
        simp at this
  · refine wpAny_bind (wpAny_seqItems hS0 rfl ?_)
    show wpAny _ A.in1 (tryCatch (pyNext (.ref a)) _ >>= _) _ _ s
    refine wpAny_bind (wpAny_tryCatch (gx_pull (A := A.in1) Gm hh hd hn hg hl hgs hgo (fun v s₁ gs' i ys y H Nx hb hsz rv gi ⟨hlen, ⟨hlt, hdp⟩, nx0⟩ nx => ?_) (fun s₁ ys H pins I pc hpin dn => ?_) (fun e s' hx => (cxx_false hx).elim)))
    · obtain ⟨pins, I1, pc, st1, nf1, h0⟩ := id gi
      have hbest : ∃ x c, ys[argBest (btmax ds) (ys.length - 1)]? = some x ∧ RelV x v0 ∧ s₁.heap.get? S = some (bestObj v0 c) := by
        rcases pc with ⟨_, c, e⟩ | ⟨x, w, c, hx, rx, e⟩
        · have z := h0 (S, noneObj c) (by rw [e]; exact List.mem_singleton.mpr rfl)
          rw [hS0] at z
          injection z with z
          injection z with _ _ z _
          injection z with z _
          have := congrArg Array.size z
          simp at this
        · have hm : (S, bestObj w c) ∈ pins := by rw [e]; exact List.mem_singleton.mpr rfl
          have z := h0 (S, bestObj w c) hm
          rw [hS0] at z
          have ew := vals_seq2 z
          subst ew
          exact ⟨x, c, hx, rx, (I1.pin (S, bestObj v0 c) (List.mem_append_right _ hm)).1⟩
      obtain ⟨x, c1, hx, rx, hS1⟩ := hbest
      have hS1' : (s₁.setGen gn gs').heap.get? S = some (bestObj v0 c1) := hS1
      have hys : ys ≠ [] := fun z => by rw [z] at hx; simp at hx
      obtain ⟨k, hk⟩ : ∃ k, ys.length = k + 1 := ⟨ys.length - 1, by have := List.length_pos_iff.mpr hys; omega⟩
      have e1 : ys.length - 1 = k := by omega
      rw [e1] at hx
      have hble := argBest_le (btmax ds) k
      have hx' : (ys ++ [y])[argBest (btmax ds) k]? = some x := by rw [List.getElem?_append_left (by omega)]; exact hx
      have hy' : (ys ++ [y])[k + 1]? = some y := by rw [List.getElem?_append_right (by omega), hk, Nat.sub_self]; rfl
      obtain ⟨d1, m1⟩ := dpAll_get _ hdp hx'
      obtain ⟨d2, m2⟩ := dpAll_get _ hdp hy'
      have t1 : (ds.take (ys.length + 1)).getD (argBest (btmax ds) k) .none = ds.getD (argBest (btmax ds) k) .none := getD_take (by omega)
      have t2 : (ds.take (ys.length + 1)).getD (k + 1) .none = ds.getD (k + 1) .none := getD_take (by omega)
      rw [t1] at d1 m1
      rw [t2] at d2 m2
      have m1 := List.mem_of_mem_take m1
      have m2 := List.mem_of_mem_take m2
      obtain ⟨as1, r1⟩ := Dp.reads I1 _ x v0 d1 rx
      obtain ⟨as2, r2⟩ := Dp.reads I1 _ y v d2 rv
      have hdep1 := Nat.le_trans (depth_mem m1) hdep
      have hdep2 := Nat.le_trans (depth_mem m2) hdep
      show wpAny _ A.in1 (tryCatch (holding [v, v] (richCompare .Gt v v0 >>= _)) _ >>= _) _ _ _
      refine wpAny_bind (wpAny_tryCatch (wpAny_holding (wpAny_bind (PySem.W.rcGt_alike _ _ A.in1 (s₁.setGen gn gs') v v0 as2 as1 r2 r1 (hal.1 _ m2 _ m1) (hal.2 _ m2) ?_ _ _ _ _ ?_))))
      · have := Nat.min_le_left (ds.getD (k + 1) .none).depth (ds.getD (argBest (btmax ds) k) .none).depth
        show A.units + 1 + _ < cLine
        omega
      refine wpAny_bind (wpAny_holding (wpAny_truthy_bool ?_))
      refine wpAny_bind (wpAny_letGo (wpAny_pure ?_))
      have ebt : btmax ds (k + 1) (argBest (btmax ds) k) = PySem.W.dataLt (ds.getD (argBest (btmax ds) k) .none) (ds.getD (k + 1) .none) := rfl
      have elen : (ys ++ [y]).length - 1 = k + 1 := by rw [List.length_append, List.length_singleton]; omega
      cases hbb : PySem.W.dataLt (ds.getD (argBest (btmax ds) k) .none) (ds.getD (k + 1) .none) with
      | true =>
        simp only [if_true]
        refine wpAny_bind (wpAny_updateSeq hS1' rfl (wpAny_bind (wpAny_letGo ?_)))
        rw [hname]
        refine wpAny_pure ⟨plainId_quiet F.plain_max_loop _, ?_⟩
        refine hfin (v := v) (w := v) (y := y) hb hsz gi nx0 nx rfl rfl (other _) (Heap.get?_update_self _ hS1' rfl) ⟨y, ?_, rv⟩
        rw [elen]
        unfold argBest
        rw [ebt, hbb, if_pos rfl]
        exact hy'
      | false =>
        simp only [Bool.false_eq_true, if_false]
        refine wpAny_bind (wpAny_letGo ?_)
        rw [hname]
        refine wpAny_pure ⟨plainId_quiet F.plain_max_loop _, ?_⟩
        refine hfin (v := v) (w := v0) (y := y) hb hsz gi nx0 nx rfl rfl (fun b o _ e => e) hS1' ⟨x, ?_, rx⟩
        rw [elen]
        unfold argBest
        rw [ebt, hbb, if_neg Bool.false_ne_true]
        exact hx'
    · have hbest : ∃ x c, ys[argBest (btmax ds) (ys.length - 1)]? = some x ∧ RelV x v0 ∧ s₁.heap.get? S = some (bestObj v0 c) ∧ H S = none := by
        rcases pc with ⟨_, c, e⟩ | ⟨x, w, c, hx, rx, e⟩
        · have z := (hpin (S, noneObj c) (by rw [e]; exact List.mem_singleton.mpr rfl)).1
          rw [hS0] at z
          injection z with z
          injection z with _ _ z _
          injection z with z _
          have := congrArg Array.size z
          simp at this
        · have hm : (S, bestObj w c) ∈ pins := by rw [e]; exact List.mem_singleton.mpr rfl
          have z := (hpin (S, bestObj w c) hm).1
          rw [hS0] at z
          have ew := vals_seq2 z
          subst ew
          exact ⟨x, c, hx, rx, (hpin (S, bestObj v0 c) hm).2⟩
      obtain ⟨x, c1, hx, rx, hS1, hSn⟩ := hbest
      show wpAny _ A.in1 (updateSeq S (fun _ => #[]) >>= _) _ _ _
      refine wpAny_bind (wpAny_updateSeq hS1 rfl (wpAny_bind (wpAny_letGo (wpAny_pure ?_))))
      obtain ⟨f0, f1, f2, f3, f4, f5⟩ := Gm.I.fpOk (H' := H) (b := S) (Nat.le_trans (Nat.le_of_lt (Nat.lt_trans Gm.lt Gm.sz)) hS) hSn
      exact hend { s₁ with heap := s₁.heap.update S (Obj.mapSeq fun _ => #[]) } H ys x v0 (I.turned (t' := s₁.toks) (fun b o hb e => (Heap.get?_update_other _ _ (Ne.symm hb)).trans e) f0 f1 f3 f4 f5) dn.2 hx rx
end

def mGMax (it : IM) (ws : List Nat) (g : TgP) (c : TM) (e : EM) : EM := fun τ M => (it τ M).bind fun src M1 => gxK [] (fun ts M2 => if okOrd ts && !ts.isEmpty then .ok (bestmax ts) M2 else .bad) (gxS g c e (wipeT τ ws) src M1)
section
variable {X : Cx} {tb : Tb} {W : WX}
theorem mE_gmax {Pt c' : Addr} {nm : Nat → Nat → Str} {k : Nat} {own : List (Str × Nat)} {elt tg iter : Expr} {ifs : List Expr} {scope : Scope} {p gpos pos : Pos} {it : IM} {g : TgP} {c : TM} {e : EM} (TX : TabX X tb.T c' Pt nm) (hr : Room (k + 5) X.A) (hN : X.N.Nodup)
    (G : GxS X.N X.env.scope scope own) (hi : PI X tg iter (tI tb X.K W it)) (B : ∀ E, GxB X k E scope tg ifs elt (tGP X.K (own.map (·.2)) g) (tTM tb X.K (WE E) c) (tM tb X.K (WE E) e)) (hmg : X.mg "max" = none) (hg : Gl X "max" := by rfl) (hnm : nm gpos.line gpos.col = X.env.qual ++ "<genexpr>" := by rfl) (hs : ∀ v, genFold iter X.env v = pure v := by intro _; rfl)
    (he : starEach [.GeneratorExp elt [⟨tg, iter, ifs, 0⟩] scope gpos] X.env = (false, eval (.GeneratorExp elt [⟨tg, iter, ifs, 0⟩] scope gpos) X.env) :: starEach [] X.env := by rfl) :
    PE X (.Call (.Name "max" p) [.GeneratorExp elt [⟨tg, iter, ifs, 0⟩] scope gpos] [] pos) (tM tb X.K W (mGMax it (own.map (·.2)) g c e)) := by
  refine ⟨fun pX s σ H Q I h => ?_⟩
  obtain ⟨ρ, F, M, τ, S, L, q⟩ := h
  refine wpAny_Call_Name_kw (ld_blt I hg hmg (by rfl) ?_)
  refine PyProof.Rows.callWith_builtin1 ?_ he (by rfl)
  rw [he]
  show wpAny _ _ (spliced ((false, eval (.GeneratorExp elt [⟨tg, iter, ifs, 0⟩] scope gpos) X.env) :: backTo pos (starEach [] X.env))) _ _ s
  refine Calls.spliced_cons (gx_make (own := own) (R := fun J H2 => ∃ ds : List PyData, PySem.W.AlikeAll ds ∧ PyData.depthAll ds ≤ 50 ∧ ds ≠ [] ∧ ∃ Wv : Nat → Nat → List V → Hp → Prop, (∃ m, Wv 0 m [] H2) ∧ GxT (consL (PrMMax X.K ds) fun ys H => ys.length = ds.length ∧ ∀ x, ys[argBest (btmax ds) (ys.length - 1)]? = some x → Q x H) J Wv (tGP X.K (own.map (·.2)) g) (tTM tb X.K (WE E00) c) (tM tb X.K (WE E00) e) (own.map (·.2)) σ)
    I TX G hi hnm (by have := hr.dp; omega) hs ⟨ρ, F, M, τ, S, L, (RP.bind q).imp fun src ρ1 F1 H1 e1 q1 J hJ => ?_⟩ fun J H4 it fp tn code a gn go s4 s5 Gm hR => ?_)
  · obtain ⟨M1, _, S1, p1⟩ := q1
    refine ⟨S1.tab, fun H2 eN T1 => ?_⟩
    obtain ⟨S2, e2⟩ := S1.grow eN T1
    have p2 := p1.mono e2
    generalize hR0 : gxS g c e (wipeT τ (own.map (·.2))) src M1 = R0 at p2
    cases R0 with
    | bad => exact p2.elim
    | ex cc M' => exact p2.elim
    | ok all M' =>
      unfold gxK at p2
      dsimp only at p2
      split at p2
      case isFalse => exact p2.elim
      rename_i ho
      rw [Bool.and_eq_true] at ho
      have hdp := okOrd_dp ho.1
      have hdl : PyData.depthAll (toPyL all) ≤ 50 := by
        rw [toPyL_map]
        have : ∀ l : List T, l.all (dp 50) = true → PyData.depthAll (l.map toPy) ≤ 50 := fun l hl => by
          induction l with
          | nil => simp [PyData.depthAll]
          | cons t l ih =>
            rw [List.all_cons, Bool.and_eq_true] at hl
            rw [List.map_cons, PyData.depthAll]
            exact Nat.max_le.mpr ⟨dp_depth t 50 hl.1, ih hl.2⟩
        exact this all hdp
      refine ⟨toPyL all, okOrd_alike ho.1, hdl, fun z => ?_, ?_⟩
      · rw [toPyL_map] at z
        cases all with
        | nil => simp at ho
        | cons _ _ => simp at z
      refine gl_loop S2 (L.mono (e1.trans e2)) (hJ.mono e2) hR0 (fun ρ' F' H' e' S' vs rv => ⟨by rw [toPyL_map, List.length_map, rv.length], fun x hx => ?_⟩) (.inr ⟨all, M', rfl, fun accT v rest ρ' F' M' H' ys y ea _ S' ra ry => ⟨?_, ?_⟩⟩)
      · cases all with
        | nil => simp at ho
        | cons t ts =>
          have hl := rv.length
          have e3 : vs.length - 1 = ts.length := by rw [← hl]; simp
          rw [e3] at hx
          obtain ⟨w', g1, g2⟩ := rv.get bestmax_at
          rw [hx] at g1
          cases g1
          exact RP.here S' (p2.mono e') x g2
      · rw [toPyL_map, List.length_map, ea, ← ra.length]
        simp
      · have hd2 : (accT ++ [v]).all (dp 50) = true := by
          rw [ea] at hdp
          simp only [List.all_append, List.all_cons, Bool.and_eq_true] at hdp ⊢
          exact ⟨hdp.1, hdp.2.1, by simp⟩
        have h1 := (dp_DpL S'.sub (accT ++ [v]) 50 (ys ++ [y]) hd2 (ra.append (.cons _ _ _ _ ry .nil))).1
        have e4 : (toPyL all).take (ys.length + 1) = toPyL (accT ++ [v]) := by
          rw [toPyL_map, toPyL_map, ea, ← ra.length, ← List.map_take]
          congr 1
          rw [List.take_append, List.take_of_length_le (by omega)]
          simp
        rw [e4]
        exact h1
  · obtain ⟨ds, hal, hdep, hne, Wv, ⟨m, w⟩, turn⟩ := hR
    have hname : (toString "max" ++ toString ".loop" : String) = "max.loop" := by decide
    have hr4 : Room k (X.A.in1.in1.deeper (gxEnv X scope s4.heap.objs.size code)) := (hr.in1.in1.mono (by omega)).deeper _
    refine Calls.spliced_nil (call_function_tree PySem.F.kind_max PySem.F.plain_max PySem.F.entry_max (PySem.F.args_max1 _) ?_)
    show wpAny _ X.A.in1 (Builtin.Builtins.bindParams "max" ["key", "default"] 0 ⟨[], []⟩ >>= _) _ _ _
    refine wpAny_bind (wpAny_of_eq (show Builtin.Builtins.bindParams "max" ["key", "default"] 0 ⟨[], []⟩ = pure [none, none] from rfl) ?_)
    refine wpAny_bind (wpAny_pure ?_)
    refine wpAny_bind (wpAny_pyIter_gen (Gm.gen _ Gm.at_) ?_)
    refine wpAny_bind (wpAny_newObj_type ?_)
    have k1 : ∀ b o, s5.heap.get? b = some o → (s5.heap.push (noneObj 0)).get? b = some o := fun b o e => Heap.get?_push_of_some _ e
    have hS : (s5.heap.push (noneObj 0)).get? s5.heap.objs.size = some (noneObj 0) := Heap.get?_push_size _ rfl
    rw [hname]
    refine wpAny_pure ⟨plainId_quiet PySem.F.plain_max_loop _, gx_max (A := X.A) (ds := ds) (Dn := fun ys H => ys.length = ds.length ∧ ∀ x, ys[argBest (btmax ds) (ys.length - 1)]? = some x → Q x H) Gm hr.hd (by have := hr.dp; omega) (by have := hr.un; omega) (Nat.le_refl _) hal hdep (fun s' H' ys x v I' hd hx rx => ⟨x, H', I', rx, hd.2 x hx⟩) (fun H h => hne (List.length_eq_zero_iff.mp h.1.symm)) (m + 1) _ (Nat.succ_pos m) ((Gm.gen _ Gm.at_).keeps k1) ((Gm.I.nolimit.keeps Gm.kp).keeps k1) (.inl ⟨0, hS⟩) ⟨_, Gm.gs, rfl, ?_⟩⟩
    exact gx_wake (C := List V) (K := consL _ _) (P := PinMax s5.heap.objs.size ds) (A := X.A.in1.in1) (E := E00) (pins0 := [(s5.heap.objs.size, noneObj 0)]) Gm hN hr.hd I.ok.frames ((B _).pg _ _ _ _ _ _ _ hr4) ((B _).pt _ _ _ _ _ _ _ hr4) ((B _).pe _ _ _ _ _ _ _ hr4) turn w (Nat.lt_succ_self m) k1 rfl (allBare_setGen (s := { s5 with heap := _ }) Gm.bare rfl)
      (fun c pins hp p hp2 => by rcases hp with ⟨_, c, e⟩ | ⟨x, v, c, _, _, e⟩ <;> (rw [e] at hp2; rw [List.mem_singleton.mp hp2]; exact Nat.le_refl _)) (.inl ⟨rfl, 0, rfl⟩) fun p hp => by rw [List.mem_singleton.mp hp]; exact ⟨hS, fun v q => by cases q⟩
end
end Mi
namespace Mi
open PySem PySem.Spec PyProof.Rows L2

/-! ### str(i), f-strings -/
/-- an int's figures -/
def decT (i : Int) : List Nat := (PySem.Str.ofString (toString i)).cps.toList
def okDec (i : Int) : Bool := decide (i.natAbs.log2 < 1920)
theorem decT_is (i : Int) : PySem.Str.ofString (toString i) = ⟨(decT i).toArray⟩ := by unfold decT; simp
section
variable {X : Cx} {tb : Tb} {W : WX} {σ : L2.St} {K : PySem.W.Frag}
def fStr : List T → Hs → Res T
  | [.int i], M => if okDec i then .ok (.str (decT i)) M else .bad
  | _, _ => .bad
theorem opn_str : OpN tb K fStr (fun xs H Q => ∃ i, xs = [.int i] ∧ i.natAbs.log2 < 1920 ∧ Q (.str (toString i)) H) := fun E ρ F M H Q a x S r p => by
  unfold fStr at p
  split at p
  case h_2 => exact p.elim
  split at p
  case isFalse => exact p.elim
  rename_i i hi
  cases r with
  | cons _ _ _ _ r1 r2 =>
  cases r1; cases r2
  refine ⟨i, rfl, of_decide_eq_true hi, ?_⟩
  rw [decT_is]
  exact RP.here S p _ (.str _)
def mFmt (m : EM) : EM := fun τ M => (m τ M).bind fun t M1 => match t with
  | .str s => if s.length ≤ lineN then .ok (.str s) M1 else .bad
  | .int i => if okDec i then .ok (.str (decT i)) M1 else .bad
  | _ => .bad
theorem mE_fmt {e : Expr} {m : EM} {pos : Pos} (he : PE X e (tM tb X.K W m)) : PE X (.FormattedValue e (-1) none pos) (tM tb X.K W (mFmt m)) := by
  refine pe_imp (pe_fmt he) fun σ H Q h => ?_
  obtain ⟨ρ, F, M, τ, S, L, p⟩ := h
  refine ⟨ρ, F, M, τ, S, L, (RP.bind p).imp fun t ρ1 F1 H1 e1 ⟨M1, _, S1, p1⟩ v r1 => ?_⟩
  split at p1
  · split at p1
    case isFalse => exact p1.elim
    rename_i s hs
    cases r1
    exact .inl ⟨_, rfl, by rw [str_len, ← lineN_eq]; exact hs, RP.here S1 p1 _ (.str _)⟩
  · split at p1
    case isFalse => exact p1.elim
    rename_i i hi
    cases r1
    refine .inr ⟨_, rfl, of_decide_eq_true hi, ?_⟩
    rw [decT_is]
    exact RP.here S1 p1 _ (.str _)
  · exact p1.elim
def mJs : List EM → List Nat → EM
  | [], acc, _, M => .ok (.str acc) M
  | m :: ms, acc, τ, M => (m τ M).bind fun t M1 => match t with
    | .str s => if acc.length + s.length ≤ lineN then mJs ms (acc ++ s) τ M1 else .bad
    | _ => .bad
inductive PJm (X : Cx) (tb : Tb) (W : WX) : List Expr → List EM → Prop where
  | nil : PJm X tb W [] []
  | cons {e : Expr} {m : EM} {es : List Expr} {ms : List EM} (h : PE X e (tM tb X.K W m)) (r : PJm X tb W es ms) : PJm X tb W (e :: es) (m :: ms)
theorem PJm.pj {es : List Expr} {ms : List EM} (h : PJm X tb W es ms) : PJ X es (ms.map (tM tb X.K W)) := by
  induction h with
  | nil => exact .nil
  | cons h _ ih => exact .cons h ih
theorem js_of {Q : VK} {τ : Mi.Loc} : ∀ (ms : List EM) (acc : List Nat) {ρ : List Addr} {F : Hp} {M : Hs} {H : Hp}, Sim tb K ρ F M H → LocR K F ρ τ σ → RP tb K ρ F H (WE1 tb W σ) (GM K Q) (mJs ms acc τ M) →
    tJs (ms.map (tM tb K W)) ⟨acc.toArray⟩ σ H fun out H1 => Q (.str out) H1
  | [], acc, ρ, F, M, H, S, L, p => RP.here S p _ (.str _)
  | m :: ms, acc, ρ, F, M, H, S, L, p => by
    refine ⟨ρ, F, M, τ, S, L, (RP.bind p).imp fun t ρ1 F1 H1 e1 ⟨M1, _, S1, p1⟩ v r1 => ?_⟩
    split at p1
    case h_2 => exact p1.elim
    split at p1
    case isFalse => exact p1.elim
    rename_i s hs
    cases r1
    refine ⟨_, rfl, ?_, ?_⟩
    · rw [str_app, str_len, List.length_append, ← lineN_eq]; exact hs
    · rw [str_app]
      exact js_of ms _ S1 (L.mono e1) p1
theorem mE_joined {v1 v2 : Expr} {rest : List Expr} {ms : List EM} {pos : Pos} (h : PJm X tb W (v1 :: v2 :: rest) ms) : PE X (.JoinedStr (v1 :: v2 :: rest) pos) (tM tb X.K W (mJs ms [])) :=
  pe_imp (pe_joined h.pj) fun σ H Q h => by
    obtain ⟨ρ, F, M, τ, S, L, p⟩ := h
    exact js_of ms [] S L p
theorem mE_joined1 {e : Expr} {m : EM} {pos : Pos} (he : PE X e (tM tb X.K W m)) : PE X (.JoinedStr [e] pos) (tM tb X.K W m) := pe_joined1 he
end

/-! ### xs.count(x), xs.index(x) -/
def isLs (t : T) (M : Hs) : Bool := (lsOf t M).isSome
theorem ty_ls {tb : Tb} {K : PySem.W.Frag} : TyM tb K isLs "list" := fun ρ F M H t v S r h => by
  unfold isLs at h
  obtain ⟨ts, e⟩ := Option.isSome_iff_exists.mp h
  obtain ⟨a, vs, rfl, hs, _⟩ := ls_at S r e
  exact .inl ⟨rfl, vs, hs⟩
section
variable {X : Cx} {tb : Tb} {K : PySem.W.Frag}
def rCountD (K : PySem.W.Frag) : V → List V → Hp → VK → Prop := fun x xs H Q => ∃ (a : Addr) (y : V) (vs : List V) (d : PyData) (ds : List PyData), x = V.ref a ∧ xs = [y] ∧ SqL K H a vs ∧ DpAll K H vs ds ∧ Dp K H y d ∧
  PyData.plainAll ds = true ∧ d.plain = true ∧ PyData.depthAll ds ≤ 50 ∧ Q (.int ((ds.countP fun z => PyData.eqv z d : Nat) : Int)) H
theorem mt_countD (hu : X.A.units + 64 < cLine) : MtR X "list.count" (rCountD X.K) := fun pins s σ H x xs v us Q I rx rxs h => by
  obtain ⟨a, y, vs, d, ds, rfl, rfl, hs, ha, hy, pl, pd, dd, q⟩ := h
  cases rx
  obtain ⟨u, rfl, ry⟩ := rxs.one
  obtain ⟨bs, r1⟩ := Dp.reads I d y u hy ry
  obtain ⟨its, rv, ⟨⟨cls, di, data, sls⟩, n, ho, hc, hdn, hdt⟩, hlen⟩ := I.list hs
  simp only at hc hdt
  subst hc hdt
  obtain ⟨as, h4⟩ := Dp.readsAll I ds _ its ha rv
  have h4' : ReadsAll s.heap its.toArray.toList ds as := h4
  refine SeqAt.count_list_data (vs := its.toArray) ⟨_, ho, rfl, n, rfl⟩ h4' r1 pl pd ?_ ⟨.int _, H, I.tok _, ⟨_, rfl⟩, q⟩
  have : min (PyData.depthAll ds) d.depth ≤ 50 := Nat.le_trans (Nat.min_le_left _ _) dd
  omega
def rIndexP (K : PySem.W.Frag) : V → List V → Hp → VK → Prop := fun x xs H Q => ∃ (a : Addr) (y : V) (vs : List V) (d : PyData) (ds : List PyData) (j : Nat), x = V.ref a ∧ xs = [y] ∧ SqL K H a vs ∧ DpAll K H vs ds ∧ Dp K H y d ∧
  PyData.plainAll ds = true ∧ d.plain = true ∧ PyData.depthAll ds ≤ 50 ∧ SeqAt.dataPlace ds d = some j ∧ Q (.int (j : Nat)) H
theorem mt_indexP (hu : X.A.units + 64 < cLine) : MtR X "list.index" (rIndexP X.K) := fun pins s σ H x xs v us Q I rx rxs h => by
  obtain ⟨a, y, vs, d, ds, j, rfl, rfl, hs, ha, hy, pl, pd, dd, hp, q⟩ := h
  cases rx
  obtain ⟨u, rfl, ry⟩ := rxs.one
  obtain ⟨bs, r1⟩ := Dp.reads I d y u hy ry
  obtain ⟨its, rv, ⟨⟨cls, di, data, sls⟩, n, ho, hc, hdn, hdt⟩, hlen⟩ := I.list hs
  simp only at hc hdt
  subst hc hdt
  obtain ⟨as, h4⟩ := Dp.readsAll I ds _ its ha rv
  have h4' : ReadsAll s.heap its.toArray.toList ds as := h4
  obtain ⟨hj, hit, hno⟩ := SeqAt.hit_at h4' pl hp
  have hvl := rv.length
  have hsl := sizeLine_eq
  have hroom : min (PyData.depthAll ds) d.depth ≤ 50 := Nat.le_trans (Nat.min_le_left _ _) dd
  refine call_meets PySem.F.slot_list_index ⟨_, ho, rfl⟩ PySem.F.entry_list_index (PySem.F.args_list_index_2 _ _)
    (SeqAt.list_indexAt a its.toArray n di sls u (fun z => PyData.eqv (SeqAt.readOf s.heap z) d) j hj (by have : its.toArray.size = its.length := by simp
                                                                                                          omega) hit hno)
    ⟨ho, SeqAt.items_plain h4' r1 pl pd (by omega), .int (j : Nat), H, I.tok _, ⟨_, rfl⟩, q⟩
def okDt (ts : List T) (y : T) : Bool := ts.all (dp 50) && dp 50 y
def cntT (ts : List T) (y : T) : Nat := ts.countP fun x => teq x y
def fCount : T → List T → Hs → Res T := fun t xs M => match xs with
  | [y] => match lsOf t M with
    | some ts => if okDt ts y then .ok (.int (cntT ts y : Nat)) M else .bad
    | none => .bad
  | _ => .bad
def plcT (ts : List T) (y : T) : Option Nat := ts.findIdx? fun x => teq x y
def fIndex : T → List T → Hs → Res T := fun t xs M => match xs with
  | [y] => match lsOf t M with
    | some ts => if okDt ts y then (match plcT ts y with
      | some j => .ok (.int (j : Nat)) M
      | none => .bad) else .bad
    | none => .bad
  | _ => .bad
theorem opm_count : OpM tb K fCount (rCountD K) := fun E ρ F M H Q t v xs vs S r rs p => by
  unfold fCount at p
  split at p
  case h_2 => exact p.elim
  rename_i y
  split at p
  case h_2 => exact p.elim
  rename_i ts hts
  split at p
  case isFalse => exact p.elim
  rename_i hk
  unfold okDt at hk
  rw [Bool.and_eq_true] at hk
  cases rs with
  | cons _ _ w _ ry rn =>
  cases rn
  obtain ⟨a, us, rfl, hs, rl⟩ := ls_at S r hts
  obtain ⟨h1, h2, h3⟩ := dp_DpL S.sub ts 50 us hk.1 rl
  obtain ⟨g1, g2, g3⟩ := dp_Dp S.sub y 50 w hk.2 ry
  refine ⟨a, w, us, toPy y, toPyL ts, rfl, rfl, hs, h1, g1, h2, g2, h3, ?_⟩
  have e : (toPyL ts).countP (fun z => PyData.eqv z (toPy y)) = cntT ts y := by
    unfold cntT
    rw [toPyL_map, List.countP_map]
    refine List.countP_congr fun x hx => ?_
    rw [teq_py x y 50 50 (List.all_eq_true.mp hk.1 x hx) hk.2]
    exact Iff.rfl
  rw [e]
  exact RP.here S p _ (.int _)
theorem opm_index : OpM tb K fIndex (rIndexP K) := fun E ρ F M H Q t v xs vs S r rs p => by
  unfold fIndex at p
  split at p
  case h_2 => exact p.elim
  rename_i y
  split at p
  case h_2 => exact p.elim
  rename_i ts hts
  split at p
  case isFalse => exact p.elim
  rename_i hk
  split at p
  case h_2 => exact p.elim
  rename_i j hj
  unfold okDt at hk
  rw [Bool.and_eq_true] at hk
  cases rs with
  | cons _ _ w _ ry rn =>
  cases rn
  obtain ⟨a, us, rfl, hs, rl⟩ := ls_at S r hts
  obtain ⟨h1, h2, h3⟩ := dp_DpL S.sub ts 50 us hk.1 rl
  obtain ⟨g1, g2, g3⟩ := dp_Dp S.sub y 50 w hk.2 ry
  refine ⟨a, w, us, toPy y, toPyL ts, j, rfl, rfl, hs, h1, g1, h2, g2, h3, ?_, RP.here S p _ (.int _)⟩
  unfold SeqAt.dataPlace
  rw [toPyL_map, List.findIdx?_map, ← hj]
  unfold plcT
  have : ∀ l : List T, (∀ x ∈ l, x ∈ ts) → l.findIdx? ((fun z => PyData.eqv z (toPy y)) ∘ toPy) = l.findIdx? fun x => teq x y := by
    intro l
    induction l with
    | nil => intro _; rfl
    | cons x l ih =>
      intro hm
      rw [List.findIdx?_cons, List.findIdx?_cons, ih fun z hz => hm z (List.mem_cons_of_mem _ hz), teq_py x y 50 50 (List.all_eq_true.mp hk.1 x (hm x List.mem_cons_self)) hk.2]
      rfl
  exact this ts fun _ h => h
end
end Mi
namespace Mi
open PySem PySem.Spec PyProof.Rows L2

/-! ### == where lists that may change lie within -/
def drF (M : Hs) : Nat → T → T
  | n + 1, .tup ts => .tup (ts.map (drF M n))
  | n + 1, .lst ts => .lst (ts.map (drF M n))
  | n + 1, .fix ts => .lst (ts.map (drF M n))
  | n + 1, .ref r => match M[r]? with
    | some (.lst ts) => .lst (ts.map (drF M n))
    | _ => .ref r
  | _, t => t
section
variable {X : Cx} {tb : Tb} {K : PySem.W.Frag} {F : Hp} {ρ : List Addr} {M : Hs} {H : Hp}
theorem drF_L {n : Nat} (ih : ∀ t v, dp n (drF M n t) = true → Rep K F ρ t v → Dp K H v (toPy (drF M n t)) ∧ (toPy (drF M n t)).plain = true ∧ (toPy (drF M n t)).depth ≤ n) :
    ∀ (ts : List T) (vs : List V), (ts.map (drF M n)).all (dp n) = true → RepL K F ρ ts vs → DpAll K H vs (toPyL (ts.map (drF M n))) ∧ PyData.plainAll (toPyL (ts.map (drF M n))) = true ∧ PyData.depthAll (toPyL (ts.map (drF M n))) ≤ n
  | [], vs, h, r => by cases r; exact ⟨by rw [List.map_nil, toPyL]; exact .nil, by simp [toPyL, PyData.plainAll], by simp [toPyL, PyData.depthAll]⟩
  | t :: ts, vs, h, r => by
    rw [List.map_cons, List.all_cons, Bool.and_eq_true] at h
    cases r with
    | cons _ _ v vs r1 r2 =>
      obtain ⟨h1, h2, h3⟩ := ih t v h.1 r1
      obtain ⟨g1, g2, g3⟩ := drF_L ih ts vs h.2 r2
      rw [List.map_cons, toPyL]
      exact ⟨.cons h1 g1, by simp [PyData.plainAll, h2, g2], by simp [PyData.depthAll]; omega⟩
theorem drF_at (S : Sim tb K ρ F M H) : ∀ (n : Nat) (t : T) (v : V), dp n (drF M n t) = true → Rep K F ρ t v → Dp K H v (toPy (drF M n t)) ∧ (toPy (drF M n t)).plain = true ∧ (toPy (drF M n t)).depth ≤ n := by
  intro n
  induction n with
  | zero =>
    intro t v h r
    have e : drF M 0 t = t := by cases t <;> rfl
    rw [e] at h ⊢
    exact dp_Dp S.sub t 0 v h r
  | succ n ih =>
    intro t v h r
    cases t with
    | tup ts =>
      have e : drF M (n + 1) (.tup ts) = .tup (ts.map (drF M n)) := rfl
      rw [e] at h ⊢
      simp only [dp] at h
      cases r with
      | tup _ vs a hF rl =>
        obtain ⟨h1, h2, h3⟩ := drF_L ih ts vs h rl
        exact ⟨by rw [toPy]; exact .tup (hd_sqT S.sub hF) h1, by simp [toPy, PyData.plain, h2], by simp [toPy, PyData.depth]; omega⟩
    | lst ts =>
      have e : drF M (n + 1) (.lst ts) = .lst (ts.map (drF M n)) := rfl
      rw [e] at h ⊢
      simp only [dp] at h
      cases r with
      | lst _ vs a hF rl =>
        obtain ⟨h1, h2, h3⟩ := drF_L ih ts vs h rl
        exact ⟨by rw [toPy]; exact .lst (.inl (.inl (hd_lst S.sub hF))) h1, by simp [toPy, PyData.plain, h2], by simp [toPy, PyData.depth]; omega⟩
    | fix ts =>
      have e : drF M (n + 1) (.fix ts) = .lst (ts.map (drF M n)) := rfl
      rw [e] at h ⊢
      simp only [dp] at h
      cases r with
      | fix _ vs a hF rl =>
        obtain ⟨h1, h2, h3⟩ := drF_L ih ts vs h rl
        exact ⟨by rw [toPy]; exact .lst (hd_sqL S.sub hF) h1, by simp [toPy, PyData.plain, h2], by simp [toPy, PyData.depth]; omega⟩
    | ref i =>
      cases hm : M[i]? with
      | none => simp [drF, hm, dp] at h
      | some ob =>
        cases ob with
        | lst ts =>
          have e : drF M (n + 1) (.ref i) = .lst (ts.map (drF M n)) := by simp [drF, hm]
          rw [e] at h ⊢
          simp only [dp] at h
          cases r with
          | ref _ a hρ =>
            obtain ⟨vs, hH, rl⟩ := S.ob i _ a hm hρ
            obtain ⟨h1, h2, h3⟩ := drF_L ih ts vs h rl
            exact ⟨by rw [toPy]; exact .lst (.inl (.inl hH)) h1, by simp [toPy, PyData.plain, h2], by simp [toPy, PyData.depth]; omega⟩
        | _ => simp [drF, hm, dp] at h
    | un => cases r
    | non => exact dp_Dp S.sub _ (n + 1) v h r
    | bl b => exact dp_Dp S.sub _ (n + 1) v h r
    | int i => exact dp_Dp S.sub _ (n + 1) v h r
    | str s => exact dp_Dp S.sub _ (n + 1) v h r
    | dct k => simp [drF, dp] at h
def fEqG (neg : Bool) : T → T → Hs → Res T := fun x y M => if dp 60 (drF M 60 x) && dp 60 (drF M 60 y) then .ok (.bl (xor neg (teq (drF M 60 x) (drF M 60 y)))) M else .bad
theorem op2_eqG {neg : Bool} : Op2 tb K (fEqG neg) (rEqP K neg) := fun E ρ F M H Q a b x y S ra rb p => by
  unfold fEqG at p
  split at p
  case isFalse => exact p.elim
  rename_i h
  rw [Bool.and_eq_true] at h
  obtain ⟨h1, h2, h3⟩ := drF_at S 60 a x h.1 ra
  obtain ⟨g1, g2, g3⟩ := drF_at S 60 b y h.2 rb
  refine ⟨_, _, h1, g1, h2, g2, h3, ?_⟩
  rw [← teq_py _ _ 60 60 h.1 h.2]
  exact RP.here S p _ (.bl _)
end
theorem drF_non {M n} : drF M n .non = .non := by cases n <;> rfl
theorem drF_bl {M n b} : drF M n (.bl b) = .bl b := by cases n <;> rfl
theorem drF_int {M n i} : drF M n (.int i) = .int i := by cases n <;> rfl
theorem drF_str {M n s} : drF M n (.str s) = .str s := by cases n <;> rfl
end Mi
namespace Mi
open PySem PySem.Spec PyProof.Rows L2
/-! ### the head where tables stand, too -/
def bears : Value → Bool
  | .none => false
  | _ => true
/-- what never changes: all but what has no class -/
def still (p : Addr × Obj) : Bool := bears p.2.cls || Nat.beq p.1 2 || Nat.beq p.1 3
def cutF (K : PySem.W.Frag) : PySem.W.Frag := K.filter still
theorem lookup_filter {q : Addr × Obj → Bool} {a : Addr} {o : Obj} : ∀ {K : PySem.W.Frag}, (K.map (·.1)).Nodup → (K.filter q).lookup a = some o → K.lookup a = some o
  | [], _, h => h
  | (b, x) :: r, hn, h => by
    rw [List.map_cons, List.nodup_cons] at hn
    rw [List.filter_cons] at h
    split at h
    · rw [List.lookup_cons] at h ⊢
      by_cases e : a == b
      · rw [e] at h ⊢; exact h
      · rw [Bool.eq_false_iff.mpr e] at h ⊢; exact lookup_filter hn.2 h
    · have h2 := lookup_filter hn.2 h
      rw [List.lookup_cons]
      by_cases e : a == b
      · exfalso
        rw [beq_iff_eq] at e
        subst e
        refine hn.1 ?_
        have : ∀ {L : PySem.W.Frag}, L.lookup a = some o → a ∈ L.map (·.1) := by
          intro L
          induction L with
          | nil => intro z; cases z
          | cons p L ih =>
            intro z
            rw [List.lookup_cons] at z
            by_cases e : a == p.1
            · rw [List.map_cons, beq_iff_eq.mp e]; exact List.mem_cons_self
            · rw [Bool.eq_false_iff.mpr e] at z
              rw [List.map_cons]
              exact List.mem_cons_of_mem _ (ih z)
        exact this h2
      · rw [Bool.eq_false_iff.mpr e]; exact h2
theorem cutF_in {K : PySem.W.Frag} {h : Heap} (hn : (K.map (·.1)).Nodup) (X : K.In h) : (cutF K).In h := fun a o e => X a o (lookup_filter hn e)
/-- one behind the other, ever greater -/
def asc : List Nat → Bool
  | [] => true
  | [_] => true
  | a :: b :: r => Nat.blt a b && asc (b :: r)
theorem asc_lt : ∀ {a : Nat} {l : List Nat}, asc (a :: l) = true → ∀ b ∈ l, a < b
  | a, [], _, b, h => by cases h
  | a, c :: r, e, b, h => by
    unfold asc at e
    rw [Bool.and_eq_true] at e
    have ac : a < c := by have z := e.1; rw [Nat.blt_eq] at z; exact z
    rcases List.mem_cons.mp h with z | z
    · rw [z]; exact ac
    · exact Nat.lt_trans ac (asc_lt e.2 b z)
theorem asc_nd : ∀ {l : List Nat}, asc l = true → l.Nodup
  | [], _ => List.nodup_nil
  | [a], _ => by simp
  | a :: b :: r, e => by
    have h := asc_lt e
    unfold asc at e
    rw [Bool.and_eq_true] at e
    rw [List.nodup_cons]
    exact ⟨fun z => Nat.lt_irrefl _ (h a z), asc_nd e.2⟩
theorem walk_cut {l : PySem.W.OpenLaw} {n k : Nat} {q : Program} {loose : List Str} {XP : (Str → Option Value) → Heap → Prop} {d : DefRec} {K1 : Params → PySem.W.Frag} {as : List Addr} {e : ∀ P, as = (K1 P).map (·.1)} {CX : World → CXT} {x : Str}
    (hn : l.most = some n) (hn2 : n ≤ sizeLine) (hdf : d.params.defaults = []) (hr : Room k callerA) (nd : asc as = true)
    (F : ∀ (w : World) (mg : Str → Option Value) (fa : Addr) (h : Heap), (K1 w.params).In h → (cutF (K1 w.params)).In h → h.Ns mainGlobals mg → mg d.name = some (.ref fa) → LamX.LawAtS l w (cutF (K1 w.params)) (CX w) k n x mg fa h)
    (hCX : ∀ (w : World) (H : Hp) (s : Shared) (e : Value) (s' : Shared), CX w [] H s (fun _ _ _ => False) e s' → False) : PySem.W.WalkO q loose XP (PySem.W.kHook K1 as e).says l.row.toRowW d [] (fun f vs => PySem.call f vs) :=
  LamX.walk_ofTs (K := fun P => cutF (K1 P)) hn hn2 hdf hr (fun w h Y => cutF_in (by rw [← e]; exact asc_nd nd) (PySem.W.kIn_of Y)) (fun w mg fa h Y KX G hm => F w mg fa h (PySem.W.kIn_of Y) KX G hm) hCX
/-- the place of a code object's table -/
theorem tab_at {K1 : PySem.W.Frag} {h : Heap} {P : Addr} (X : K1.In h) (e : K1.lookup P = some { cls := .none, data := .fields #[] }) : h.get? P = some { cls := .none, data := .fields #[] } := X _ _ e
end Mi
namespace Mi
open PySem PySem.Spec PyProof.Rows
/-! ### for the plain laws -/
theorem teq_ss (a b : List Nat) : teq (.str a) (.str b) = decide (a = b) := rfl
theorem teq_ii (a b : Int) : teq (.int a) (.int b) = decide (a = b) := rfl
theorem teq_bb (a b : Bool) : teq (.bl a) (.bl b) = decide (a = b) := rfl
theorem teq_nn : teq .non .non = true := rfl
theorem teq_sn (a : List Nat) : teq (.str a) .non = false := rfl
theorem teq_ns (a : List Nat) : teq .non (.str a) = false := rfl
theorem teq_in (a : Int) : teq (.int a) .non = false := rfl
theorem teq_ni (a : Int) : teq .non (.int a) = false := rfl
theorem teq_bn (a : Bool) : teq (.bl a) .non = false := rfl
theorem teq_nb (a : Bool) : teq .non (.bl a) = false := rfl
theorem teq_si (a : List Nat) (b : Int) : teq (.str a) (.int b) = false := rfl
theorem teq_is (a : List Nat) (b : Int) : teq (.int b) (.str a) = false := rfl
theorem teq_sb (a : List Nat) (b : Bool) : teq (.str a) (.bl b) = false := rfl
theorem teq_bs (a : List Nat) (b : Bool) : teq (.bl b) (.str a) = false := rfl
theorem teq_ll (a b : List T) : teq (.lst a) (.lst b) = teqL a b := rfl
theorem teq_tt (a b : List T) : teq (.tup a) (.tup b) = teqL a b := rfl
theorem teq_ln (a : List T) : teq (.lst a) .non = false := rfl
theorem teq_tn (a : List T) : teq (.tup a) .non = false := rfl
theorem teqL_nn : teqL [] [] = true := rfl
theorem teqL_cc (a b : T) (x y : List T) : teqL (a :: x) (b :: y) = (teq a b && teqL x y) := rfl
theorem teqL_nc (a : T) (x : List T) : teqL [] (a :: x) = false := rfl
theorem teqL_cn (a : T) (x : List T) : teqL (a :: x) [] = false := rfl
theorem get_set {M : Hs} {i : Nat} {x y : Ob} (h : M[i]? = some x) : (M.set i y)[i]? = some y := by
  have := (List.getElem?_eq_some_iff.mp h).1
  rw [List.getElem?_set_self this]
theorem set_same {M : Hs} {i : Nat} {x : Ob} (h : M[i]? = some x) : M.set i x = M := by
  obtain ⟨h1, h2⟩ := List.getElem?_eq_some_iff.mp h
  rw [← h2, List.set_getElem_self]
theorem drF_s {M : Hs} {n : Nat} {t : T} : drF M (n + 1) t = match t with
  | .tup ts => .tup (ts.map (drF M n))
  | .lst ts => .lst (ts.map (drF M n))
  | .fix ts => .lst (ts.map (drF M n))
  | .ref r => match M[r]? with
    | some (.lst ts) => .lst (ts.map (drF M n))
    | _ => .ref r
  | t => t := by cases t <;> rfl
theorem lt_line {n : Nat} (h : n < 16777216) : n < lineN := h
theorem le_line {n : Nat} (h : n ≤ 16777216) : n ≤ lineN := h
def okTrue (r : Res T) : Bool := match r with
  | .ok (.bl true) _ => true
  | _ => false
theorem okTrue_is {r : Res T} (h : okTrue r = true) : ∃ M, r = .ok (.bl true) M := by
  unfold okTrue at h
  split at h
  · exact ⟨_, rfl⟩
  · cases h
/-! dice -/
structure Di where
  a : Int
  b : Int
  c : Int
def Di.ob (D : Di) : Ob := .lst [.int D.a, .int D.b, .int D.c]
def Di.big (D : Di) : Bool := decide (D.c = 2) || (decide (D.c = 1) && decide (0 < D.a))
def Di.na (D : Di) : Int := (D.a * 48271 + D.b * 69621 + 11).fmod 2147483647
def Di.k (D : Di) (m : Int) : Int := if D.big then D.a.fmod m else (D.na.fdiv 7).fmod m
def Di.n (D : Di) (m : Int) : Di := if D.big then ⟨D.a.fdiv m, D.b, D.c⟩ else ⟨D.na, D.b + 1, 0⟩
theorem Di.lo (D : Di) {m : Int} (h : 0 < m) : 0 ≤ D.k m := by
  unfold Di.k
  split <;> exact Int.fmod_nonneg_of_pos _ h
theorem Di.hi (D : Di) {m : Int} (h : 0 < m) : D.k m < m := by
  unfold Di.k
  split <;> exact Int.fmod_lt_of_pos _ h
/-! loops -/
theorem forL_inv {g : TgP} {b : SM} (I : Mi.Loc → Hs → Prop) : ∀ (ts : List T), (∀ t ∈ ts, ∀ τ M, I τ M → ∃ τ1 τ2 M2, g t τ = some τ1 ∧ I τ2 M2 ∧ (b τ1 M = .nx τ2 M2 ∨ b τ1 M = .ct τ2 M2)) → ∀ τ M, I τ M → ∃ τ' M', forL g b ts τ M = .nx τ' M' ∧ I τ' M'
  | [], _, τ, M, i => ⟨τ, M, rfl, i⟩
  | t :: ts, h, τ, M, i => by
    obtain ⟨τ1, τ2, M2, e1, i2, e2⟩ := h t List.mem_cons_self τ M i
    obtain ⟨τ3, M3, e3, i3⟩ := forL_inv I ts (fun t ht => h t (List.mem_cons_of_mem _ ht)) τ2 M2 i2
    refine ⟨τ3, M3, ?_, i3⟩
    unfold forL
    simp only [e1]
    rcases e2 with e2 | e2 <;> simp only [e2] <;> exact e3
/-- a comprehension whose test and item only read -/
theorem lcL_map {α : Type} {g : TgP} {c : TM} {e : EM} {τ : Mi.Loc} {M : Hs} {enc : α → T} {p : α → Bool} {f : α → T} : ∀ (xs : List α), (∀ x ∈ xs, ∀ k, lcT g c e τ (enc x) k M = if p x then (k M).bind fun r M3 => .ok (f x :: r) M3 else k M) → lcL g c e τ (xs.map enc) M = .ok ((xs.filter p).map f) M
  | [], _ => rfl
  | x :: xs, h => by
    have ih := lcL_map xs fun y hy => h y (List.mem_cons_of_mem _ hy)
    rw [List.map_cons]
    unfold lcL
    rw [h x List.mem_cons_self, ih, List.filter_cons]
    split <;> rfl
theorem lcL_all {α : Type} {g : TgP} {c : TM} {e : EM} {τ : Mi.Loc} {M : Hs} {enc : α → T} {f : α → T} (xs : List α) (h : ∀ x ∈ xs, ∀ k, lcT g c e τ (enc x) k M = (k M).bind fun r M3 => .ok (f x :: r) M3) : lcL g c e τ (xs.map enc) M = .ok (xs.map f) M := by
  have := lcL_map (p := fun _ => true) (f := f) xs (fun x hx k => by rw [if_pos rfl]; exact h x hx k)
  rwa [List.filter_eq_self.mpr fun _ _ => rfl] at this
end Mi
namespace Mi
open PySem PySem.Spec PyProof.Rows
/-! ### the mirrors, one step at a time (used as rules on the way down) -/
section
variable {τ : Mi.Loc} {M : Hs}
theorem p_bind {α β : Type} {x : Res α} {k : α → Hs → Res β} : x.bind k = match x with
  | .ok a M => k a M
  | .ex c M => .ex c M
  | .bad => .bad := by cases x <;> rfl
theorem p_st {α : Type} {x : Res α} {k : α → Hs → SRes} : x.st k = match x with
  | .ok a M => k a M
  | .ex c M => .ex c M
  | .bad => .bad := by cases x <;> rfl
theorem p_seq {a b : SM} : mSeq a b τ M = match a τ M with
  | .nx τ' M' => b τ' M'
  | r => r := rfl
theorem p_if {c : TM} {a b : SM} : mIf c a b τ M = match c τ M with
  | .ok true M1 => a τ M1
  | .ok false M1 => b τ M1
  | .ex c M => .ex c M
  | .bad => .bad := by
  show (c τ M).st _ = _
  rw [p_st]
  try dsimp only
  cases c τ M with
  | ok x => cases x <;> rfl
  | _ => rfl
theorem p_ifE {c : TM} {a b : EM} : mIfE c a b τ M = match c τ M with
  | .ok true M1 => a τ M1
  | .ok false M1 => b τ M1
  | .ex c M => .ex c M
  | .bad => .bad := by
  show (c τ M).bind _ = _
  rw [p_bind]
  try dsimp only
  cases c τ M with
  | ok x => cases x <;> rfl
  | _ => rfl
theorem p_and {a b : TM} : mAnd a b τ M = match a τ M with
  | .ok true M1 => b τ M1
  | .ok false M1 => .ok false M1
  | .ex c M => .ex c M
  | .bad => .bad := by
  show (a τ M).bind _ = _
  rw [p_bind]
  try dsimp only
  cases a τ M with
  | ok x => cases x <;> rfl
  | _ => rfl
theorem p_or {a b : TM} : mOr a b τ M = match a τ M with
  | .ok true M1 => .ok true M1
  | .ok false M1 => b τ M1
  | .ex c M => .ex c M
  | .bad => .bad := by
  show (a τ M).bind _ = _
  rw [p_bind]
  try dsimp only
  cases a τ M with
  | ok x => cases x <;> rfl
  | _ => rfl
theorem p_not {a : TM} : mNot a τ M = match a τ M with
  | .ok b M1 => .ok (!b) M1
  | .ex c M => .ex c M
  | .bad => .bad := by
  show (a τ M).bind _ = _
  rw [p_bind]
  (try dsimp only)
  cases a τ M <;> rfl
theorem p_bool {a : EM} : mBool a τ M = match a τ M with
  | .ok (.bl b) M1 => .ok b M1
  | .ok _ _ => .bad
  | .ex c M => .ex c M
  | .bad => .bad := by
  show (a τ M).bind _ = _
  rw [p_bind]
  try dsimp only
  cases a τ M with
  | ok x => cases x <;> rfl
  | _ => rfl
theorem p_ofB {a : TM} : mOfB a τ M = match a τ M with
  | .ok b M1 => .ok (.bl b) M1
  | .ex c M => .ex c M
  | .bad => .bad := by
  show (a τ M).bind _ = _
  rw [p_bind]
  (try dsimp only)
  cases a τ M <;> rfl
theorem p_C {t : T} : mC t τ M = .ok t M := rfl
theorem p_var {i : Nat} : mVar i τ M = okT (τ.getD i .un) M := rfl
theorem p_op2 {f : T → T → Hs → Res T} {a b : EM} : mOp2 f a b τ M = match a τ M with
  | .ok x M1 => (match b τ M1 with
    | .ok y M2 => f x y M2
    | .ex c M => .ex c M
    | .bad => .bad)
  | .ex c M => .ex c M
  | .bad => .bad := by
  show (a τ M).bind _ = _
  rw [p_bind]
  try dsimp only
  cases a τ M with
  | ok x M1 => show (b τ M1).bind _ = _; rw [p_bind]; (try dsimp only); cases b τ M1 <;> rfl
  | _ => rfl
theorem p_op1 {f : T → Hs → Res T} {a : EM} : mOp1 f a τ M = match a τ M with
  | .ok x M1 => f x M1
  | .ex c M => .ex c M
  | .bad => .bad := by
  show (a τ M).bind _ = _
  rw [p_bind]
  (try dsimp only)
  cases a τ M <;> rfl
theorem p_nil : mNil τ M = .ok [] M := rfl
theorem p_cons {a : EM} {b : AM} : mCons a b τ M = match a τ M with
  | .ok x M1 => (match b τ M1 with
    | .ok y M2 => .ok (x :: y) M2
    | .ex c M => .ex c M
    | .bad => .bad)
  | .ex c M => .ex c M
  | .bad => .bad := by
  show (a τ M).bind _ = _
  rw [p_bind]
  try dsimp only
  cases a τ M with
  | ok x M1 => show (b τ M1).bind _ = _; rw [p_bind]; (try dsimp only); cases b τ M1 <;> rfl
  | _ => rfl
theorem p_app {f : List T → Hs → Res T} {a : AM} : mApp f a τ M = match a τ M with
  | .ok x M1 => f x M1
  | .ex c M => .ex c M
  | .bad => .bad := by
  show (a τ M).bind _ = _
  rw [p_bind]
  (try dsimp only)
  cases a τ M <;> rfl
theorem p_call {f : FnM} {a : AM} : mCall f a τ M = match a τ M with
  | .ok x M1 => f x M1
  | .ex c M => .ex c M
  | .bad => .bad := by
  show (a τ M).bind _ = _
  rw [p_bind]
  (try dsimp only)
  cases a τ M <;> rfl
theorem p_tup {a : AM} : mTup a τ M = match a τ M with
  | .ok x M1 => .ok (.tup x) M1
  | .ex c M => .ex c M
  | .bad => .bad := by
  show (a τ M).bind _ = _
  rw [p_bind]
  (try dsimp only)
  cases a τ M <;> rfl
theorem p_lst {a : AM} : mLst a τ M = match a τ M with
  | .ok x M1 => .ok (.lst x) M1
  | .ex c M => .ex c M
  | .bad => .bad := by
  show (a τ M).bind _ = _
  rw [p_bind]
  (try dsimp only)
  cases a τ M <;> rfl
theorem p_lstR {a : AM} : mLstR a τ M = match a τ M with
  | .ok x M1 => .ok (.ref M1.length) (M1 ++ [.lst x])
  | .ex c M => .ex c M
  | .bad => .bad := by
  show (a τ M).bind _ = _
  rw [p_bind]
  (try dsimp only)
  cases a τ M <;> rfl
theorem p_fld {tab : List (Nat × Nat)} {a : EM} : mFld tab a τ M = match a τ M with
  | .ok o M1 => (match o with
    | .ref i => match M1[i]? with
      | some (.ins c fs) => match tab.lookup c with
        | some j => okT (fs.getD j .un) M1
        | none => .bad
      | _ => .bad
    | _ => .bad)
  | .ex c M => .ex c M
  | .bad => .bad := by
  show (a τ M).bind _ = _
  rw [p_bind]
  try dsimp only
  cases a τ M with
  | ok x M1 => rfl
  | _ => rfl
theorem p_meth {tab : List (Nat × FnM)} {mo : EM} {ma : AM} : mMeth tab mo ma τ M = match mo τ M with
  | .ok o M1 => (match o with
    | .ref i => match M1[i]? with
      | some (.ins c _) => match tab.lookup c with
        | some g => (match ma τ M1 with
          | .ok ts M2 => g (o :: ts) M2
          | .ex c M => .ex c M
          | .bad => .bad)
        | none => .bad
      | _ => .bad
    | _ => .bad)
  | .ex c M => .ex c M
  | .bad => .bad := by
  show (mo τ M).bind _ = _
  rw [p_bind]
  try dsimp only
  cases mo τ M with
  | ok x M1 =>
    cases x <;> try rfl
    rename_i i
    dsimp only
    cases M1[i]? with
    | none => rfl
    | some ob =>
      cases ob <;> try rfl
      rename_i c fs
      dsimp only
      cases tab.lookup c with
      | none => rfl
      | some g =>
        dsimp only
        rw [p_bind]
        cases ma τ M1 <;> rfl
  | _ => rfl
theorem p_make {c nf : Nat} {g : FnM} {ma : AM} : mMake c nf g ma τ M = match ma τ M with
  | .ok ts M1 => (match g (.ref M1.length :: ts) (M1 ++ [.ins c (List.replicate nf .un)]) with
    | .ok .non M2 => .ok (.ref M1.length) M2
    | .ok _ _ => .bad
    | .ex c M => .ex c M
    | .bad => .bad)
  | .ex c M => .ex c M
  | .bad => .bad := by
  show (ma τ M).bind _ = _
  rw [p_bind]
  try dsimp only
  cases ma τ M with
  | ok x M1 =>
    show (g (.ref M1.length :: x) (M1 ++ [.ins c (List.replicate nf .un)])).bind _ = _
    rw [p_bind]
    dsimp only
    cases g (.ref M1.length :: x) (M1 ++ [.ins c (List.replicate nf .un)]) with
    | ok r M2 => cases r <;> rfl
    | _ => rfl
  | _ => rfl
theorem p_tru {a : EM} : mTru a τ M = match a τ M with
  | .ok t M1 => (match tru t M1 with
    | some b => .ok b M1
    | none => .bad)
  | .ex c M => .ex c M
  | .bad => .bad := by
  show (a τ M).bind _ = _
  rw [p_bind]
  (try dsimp only)
  cases a τ M <;> rfl
theorem p_orV {a b : EM} : mOrV a b τ M = match a τ M with
  | .ok t M1 => (match tru t M1 with
    | some true => .ok t M1
    | some false => b τ M1
    | none => .bad)
  | .ex c M => .ex c M
  | .bad => .bad := by
  show (a τ M).bind _ = _
  rw [p_bind]
  (try dsimp only)
  cases a τ M <;> rfl
theorem p_andV {a b : EM} : mAndV a b τ M = match a τ M with
  | .ok t M1 => (match tru t M1 with
    | some true => b τ M1
    | some false => .ok t M1
    | none => .bad)
  | .ex c M => .ex c M
  | .bad => .bad := by
  show (a τ M).bind _ = _
  rw [p_bind]
  (try dsimp only)
  cases a τ M <;> rfl
theorem p_bm {ok : T → Hs → Bool} {f : T → List T → Hs → Res T} {mo : EM} {ma : AM} : mBm ok f mo ma τ M = match mo τ M with
  | .ok x M1 => (match ok x M1 with
    | true => (match ma τ M1 with
      | .ok xs M2 => f x xs M2
      | .ex c M => .ex c M
      | .bad => .bad)
    | false => .bad)
  | .ex c M => .ex c M
  | .bad => .bad := by
  show (mo τ M).bind _ = _
  rw [p_bind]
  try dsimp only
  cases mo τ M with
  | ok x M1 =>
    show (if ok x M1 then (ma τ M1).bind fun xs M2 => f x xs M2 else .bad) = _
    rw [p_bind]
    (try dsimp only)
    cases ok x M1
    · rfl
    · rw [if_pos rfl]; cases ma τ M1 <;> rfl
  | _ => rfl
theorem p_told {cs ret : List Nat} {m : EM} : mTold cs ret m τ M = match m τ M with
  | .ok t M1 => .ok t M1
  | .ex c M1 => if cs.contains c then .ok (.str ret) M1 else .bad
  | .bad => .bad := rfl
theorem p_set {i : Nat} {e : EM} : mSet i e τ M = match e τ M with
  | .ok t M1 => .nx (τ.set i t) M1
  | .ex c M => .ex c M
  | .bad => .bad := by
  show (e τ M).st _ = _
  rw [p_st]
  (try dsimp only)
  cases e τ M <;> rfl
theorem p_exp {e : EM} : mExp e τ M = match e τ M with
  | .ok _ M1 => .nx τ M1
  | .ex c M => .ex c M
  | .bad => .bad := by
  show (e τ M).st _ = _
  rw [p_st]
  (try dsimp only)
  cases e τ M <;> rfl
theorem p_ret {e : EM} : mRet e τ M = match e τ M with
  | .ok t M1 => .rt t M1
  | .ex c M => .ex c M
  | .bad => .bad := by
  show (e τ M).st _ = _
  rw [p_st]
  (try dsimp only)
  cases e τ M <;> rfl
theorem p_retN : mRetN τ M = .rt .non M := rfl
theorem p_skip : mSkip τ M = .nx τ M := rfl
theorem p_raise {c : Nat} : mRaise c τ M = .ex c M := rfl
theorem p_brk : mBrk τ M = .bk τ M := rfl
theorem p_cnt : mCnt τ M = .ct τ M := rfl
theorem p_body {n : Nat} {b : SM} {ts : List T} : mBody n b ts M = match b (ts ++ List.replicate (n - ts.length) .un) M with
  | .nx _ M' => .ok .non M'
  | .rt t M' => .ok t M'
  | .ex c M' => .ex c M'
  | _ => .bad := rfl
theorem p_asg {g : TgP} {e : EM} : mAsg g e τ M = match e τ M with
  | .ok t M1 => (match g t τ with
    | some τ' => .nx τ' M1
    | none => .bad)
  | .ex c M => .ex c M
  | .bad => .bad := by
  show (e τ M).st _ = _
  rw [p_st]
  (try dsimp only)
  cases e τ M <;> rfl
theorem p_par {is : List Nat} {a : AM} : mPar is a τ M = match a τ M with
  | .ok ts M1 => (match stL is ts τ with
    | some τ' => .nx τ' M1
    | none => .bad)
  | .ex c M => .ex c M
  | .bad => .bad := by
  show (a τ M).st _ = _
  rw [p_st]
  (try dsimp only)
  cases a τ M <;> rfl
theorem p_setFld {tab : List (Nat × Nat)} {mo mv : EM} : mSetFld tab mo mv τ M = match mv τ M with
  | .ok t M1 => (match mo τ M1 with
    | .ok o M2 => (match putFld tab o t M2 with
      | some M3 => .nx τ M3
      | none => .bad)
    | .ex c M => .ex c M
    | .bad => .bad)
  | .ex c M => .ex c M
  | .bad => .bad := by
  show (mv τ M).st _ = _
  rw [p_st]
  try dsimp only
  cases mv τ M with
  | ok t M1 =>
    show (mo τ M1).st _ = _
    rw [p_st]
    try dsimp only
    cases mo τ M1 with
    | ok o M2 =>
      show Res.putTo _ (putFld tab o t M2) = _
      (try dsimp only)
      try dsimp only
      cases putFld tab o t M2 <;> rfl
    | _ => rfl
  | _ => rfl
theorem p_setSub {mo mi mv : EM} : mSetSub mo mi mv τ M = match mv τ M with
  | .ok t M1 => (match mo τ M1 with
    | .ok o M2 => (match mi τ M2 with
      | .ok i M3 => (match fPut o i t M3 with
        | some M4 => .nx τ M4
        | none => .bad)
      | .ex c M => .ex c M
      | .bad => .bad)
    | .ex c M => .ex c M
    | .bad => .bad)
  | .ex c M => .ex c M
  | .bad => .bad := by
  show (mv τ M).st _ = _
  rw [p_st]
  try dsimp only
  cases mv τ M with
  | ok t M1 =>
    show (mo τ M1).st _ = _
    rw [p_st]
    try dsimp only
    cases mo τ M1 with
    | ok o M2 =>
      show (mi τ M2).st _ = _
      rw [p_st]
      try dsimp only
      cases mi τ M2 with
      | ok i M3 =>
        show Res.putTo _ (fPut o i t M3) = _
        (try dsimp only)
        try dsimp only
        cases fPut o i t M3 <;> rfl
      | _ => rfl
    | _ => rfl
  | _ => rfl
theorem p_augVar {i : Nat} {f : T → T → Hs → Res T} {mv : EM} : mAugVar i f mv τ M = match mVar i τ M with
  | .ok x _ => (match mv τ M with
    | .ok y M1 => (match f x y M1 with
      | .ok z M2 => .nx (τ.set i z) M2
      | .ex c M => .ex c M
      | .bad => .bad)
    | .ex c M => .ex c M
    | .bad => .bad)
  | .ex c M => .ex c M
  | .bad => .bad := by
  show (mVar i τ M).st _ = _
  rw [p_st]
  try dsimp only
  cases mVar i τ M with
  | ok x M0 =>
    show (mv τ M).st _ = _
    rw [p_st]
    try dsimp only
    cases mv τ M with
    | ok y M1 =>
      show (f x y M1).st _ = _
      rw [p_st]
      (try dsimp only)
      cases f x y M1 <;> rfl
    | _ => rfl
  | _ => rfl
theorem p_chain {f g : T → T → Hs → Res T} {a b c : EM} : mChain f g a b c τ M = match a τ M with
  | .ok x M1 => (match b τ M1 with
    | .ok y M2 => (match f x y M2 with
      | .ok (.bl true) M3 => (match c τ M3 with
        | .ok w M4 => g y w M4
        | .ex c M => .ex c M
        | .bad => .bad)
      | .ok (.bl false) M3 => .ok (.bl false) M3
      | .ok _ _ => .bad
      | .ex c M => .ex c M
      | .bad => .bad)
    | .ex c M => .ex c M
    | .bad => .bad)
  | .ex c M => .ex c M
  | .bad => .bad := by
  show (a τ M).bind _ = _
  rw [p_bind]
  try dsimp only
  cases a τ M with
  | ok x M1 =>
    show (b τ M1).bind _ = _
    rw [p_bind]
    try dsimp only
    cases b τ M1 with
    | ok y M2 =>
      show (f x y M2).bind _ = _
      rw [p_bind]
      try dsimp only
      cases f x y M2 with
      | ok z M3 =>
        cases z with
        | bl q =>
          cases q
          · rfl
          · show (c τ M3).bind _ = _
            rw [p_bind]
            (try dsimp only)
            cases c τ M3 <;> rfl
        | _ => rfl
      | _ => rfl
    | _ => rfl
  | _ => rfl
theorem p_fmt {m : EM} : mFmt m τ M = match m τ M with
  | .ok t M1 => (match t with
    | .str s => if s.length ≤ lineN then .ok (.str s) M1 else .bad
    | .int i => if okDec i then .ok (.str (decT i)) M1 else .bad
    | _ => .bad)
  | .ex c M => .ex c M
  | .bad => .bad := by
  show (m τ M).bind _ = _
  rw [p_bind]
  try dsimp only
  cases m τ M with
  | ok t M1 => cases t <;> rfl
  | _ => rfl
theorem p_js0 {acc : List Nat} : mJs [] acc τ M = .ok (.str acc) M := rfl
theorem p_js1 {m : EM} {ms : List EM} {acc : List Nat} : mJs (m :: ms) acc τ M = match m τ M with
  | .ok t M1 => (match t with
    | .str s => if acc.length + s.length ≤ lineN then mJs ms (acc ++ s) τ M1 else .bad
    | _ => .bad)
  | .ex c M => .ex c M
  | .bad => .bad := by
  show (m τ M).bind _ = _
  rw [p_bind]
  try dsimp only
  cases m τ M with
  | ok t M1 => cases t <;> rfl
  | _ => rfl
theorem p_iv {e : EM} : mIV e τ M = match e τ M with
  | .ok t M1 => srcV t M1
  | .ex c M => .ex c M
  | .bad => .bad := by
  show (e τ M).bind _ = _
  rw [p_bind]
  (try dsimp only)
  cases e τ M <;> rfl
theorem p_ia {f : List T → Hs → Res Src} {a : AM} : mIA f a τ M = match a τ M with
  | .ok t M1 => f t M1
  | .ex c M => .ex c M
  | .bad => .bad := by
  show (a τ M).bind _ = _
  rw [p_bind]
  (try dsimp only)
  cases a τ M <;> rfl
theorem p_for {it : IM} {g : TgP} {b : SM} : mFor it g b τ M = match it τ M with
  | .ok src M1 => forS g b src τ M1
  | .ex c M => .ex c M
  | .bad => .bad := by
  show (it τ M).st _ = _
  rw [p_st]
  (try dsimp only)
  cases it τ M <;> rfl
theorem p_noP : mNoP τ M = .ok none M := rfl
theorem p_pt {e : EM} : mPt e τ M = match e τ M with
  | .ok t M1 => (match t with
    | .int i => .ok (some i) M1
    | _ => .bad)
  | .ex c M => .ex c M
  | .bad => .bad := by
  show (e τ M).bind _ = _
  rw [p_bind]
  try dsimp only
  cases e τ M with
  | ok t M1 => cases t <;> rfl
  | _ => rfl
theorem p_sl {e : EM} {lo hi : OM} : mSl e lo hi τ M = match e τ M with
  | .ok x M1 => (match lo τ M1 with
    | .ok l M2 => (match hi τ M2 with
      | .ok h M3 => fSl x l h M3
      | .ex c M => .ex c M
      | .bad => .bad)
    | .ex c M => .ex c M
    | .bad => .bad)
  | .ex c M => .ex c M
  | .bad => .bad := by
  show (e τ M).bind _ = _
  rw [p_bind]
  try dsimp only
  cases e τ M with
  | ok x M1 =>
    show (lo τ M1).bind _ = _
    rw [p_bind]
    try dsimp only
    cases lo τ M1 with
    | ok l M2 =>
      show (hi τ M2).bind _ = _
      rw [p_bind]
      (try dsimp only)
      cases hi τ M2 <;> rfl
    | _ => rfl
  | _ => rfl
theorem p_pairs0 : mPairs [] τ M = .ok [] M := rfl
theorem p_pairs1 {k v : EM} {r : List (EM × EM)} : mPairs ((k, v) :: r) τ M = match k τ M with
  | .ok a M1 => (match v τ M1 with
    | .ok b M2 => (match mPairs r τ M2 with
      | .ok l M3 => .ok ((a, b) :: l) M3
      | .ex c M => .ex c M
      | .bad => .bad)
    | .ex c M => .ex c M
    | .bad => .bad)
  | .ex c M => .ex c M
  | .bad => .bad := by
  show (k τ M).bind _ = _
  rw [p_bind]
  try dsimp only
  cases k τ M with
  | ok x M1 =>
    show (v τ M1).bind _ = _
    rw [p_bind]
    try dsimp only
    cases v τ M1 with
    | ok l M2 =>
      show (mPairs r τ M2).bind _ = _
      rw [p_bind]
      (try dsimp only)
      cases mPairs r τ M2 <;> rfl
    | _ => rfl
  | _ => rfl
theorem p_dct {ps : List (EM × EM)} : mDct ps τ M = match mPairs ps τ M with
  | .ok kvs M1 => (match okD kvs with
    | true => .ok (.dct (dMerge [] kvs)) M1
    | false => .bad)
  | .ex c M => .ex c M
  | .bad => .bad := by
  show (mPairs ps τ M).bind _ = _
  rw [p_bind]
  try dsimp only
  cases mPairs ps τ M with
  | ok x M1 =>
    show (if okD x then _ else _) = _
    (try dsimp only)
    cases okD x <;> rfl
  | _ => rfl
theorem p_dctR {ps : List (EM × EM)} : mDctR ps τ M = match mPairs ps τ M with
  | .ok kvs M1 => (match okD kvs with
    | true => .ok (.ref M1.length) (M1 ++ [.dct (dMerge [] kvs)])
    | false => .bad)
  | .ex c M => .ex c M
  | .bad => .bad := by
  show (mPairs ps τ M).bind _ = _
  rw [p_bind]
  try dsimp only
  cases mPairs ps τ M with
  | ok x M1 =>
    show (if okD x then _ else _) = _
    (try dsimp only)
    cases okD x <;> rfl
  | _ => rfl
theorem p_dctR0 : mDctR0 τ M = .ok (.ref M.length) (M ++ [.dct []]) := rfl
theorem p_yes : mYes τ M = .ok true M := rfl
theorem p_lc {it : IM} {ws : List Nat} {g : TgP} {c : TM} {e : EM} : mLC it ws g c e τ M = match it τ M with
  | .ok src M1 => (match lcS g c e (wipeT τ ws) src M1 with
    | .ok ts M2 => if ts.length ≤ lineN then .ok (.lst ts) M2 else .bad
    | _ => .bad)
  | .ex c M => .ex c M
  | .bad => .bad := by
  show (it τ M).bind _ = _
  rw [p_bind]
  try dsimp only
  cases it τ M with
  | ok x M1 =>
    show lcK _ (lcS g c e (wipeT τ ws) x M1) = _
    (try dsimp only)
    cases lcS g c e (wipeT τ ws) x M1 <;> rfl
  | _ => rfl
theorem p_lcS {ts : List T} {g : TgP} {c : TM} {e : EM} : lcS g c e τ (.l ts) M = lcL g c e τ ts M := rfl
theorem p_lcT {g : TgP} {c : TM} {e : EM} {t : T} {k : Hs → Res (List T)} : lcT g c e τ t k M = match g t τ with
  | none => .bad
  | some τ1 => (match c τ1 M with
    | .ok true M1 => (match e τ1 M1 with
      | .ok v M2 => (k M2).bind fun r M3 => .ok (v :: r) M3
      | .ex c M => .ex c M
      | .bad => .bad)
    | .ok false M1 => k M1
    | .ex c M => .ex c M
    | .bad => .bad) := by
  unfold lcT
  cases g t τ with
  | none => rfl
  | some τ1 =>
    show (c τ1 M).bind _ = _
    rw [p_bind]
    try dsimp only
    cases c τ1 M with
    | ok x M1 =>
      cases x
      · rfl
      · show (e τ1 M1).bind _ = _
        rw [p_bind]
        (try dsimp only)
        cases e τ1 M1 <;> rfl
    | _ => rfl
end
theorem decT_len {i : Int} (h0 : 0 ≤ i) (h1 : i < 10 ^ 10) : (decT i).length ≤ 10 := by
  have h := PySem.W.KT.len_num h0 h1
  unfold PySem.Str.length at h
  unfold decT
  simpa using h
theorem okDec_of {i : Int} (h0 : 0 ≤ i) (h1 : i < 10 ^ 10) : okDec i = true := by
  unfold okDec
  rw [decide_eq_true_eq]
  have : i.natAbs < 2 ^ 40 := by omega
  by_cases z : i.natAbs = 0
  · rw [z]; decide
  · exact Nat.lt_trans ((Nat.log2_lt z).mpr this) (by decide)
/-! plain data: itself, and equal to itself -/
theorem teqL_of {p : T → Bool} (h : ∀ t, p t = true → teq t t = true) : ∀ ts : List T, ts.all p = true → teqL ts ts = true
  | [], _ => rfl
  | t :: ts, a => by
    rw [List.all_cons, Bool.and_eq_true] at a
    rw [teqL_cc, h t a.1, teqL_of h ts a.2]
    rfl
theorem teq_refl : ∀ (n : Nat) (t : T), dp n t = true → teq t t = true
  | n, .non, _ => rfl
  | n, .bl b, _ => by simp [teq]
  | n, .int i, _ => by simp [teq]
  | n, .str s, _ => by simp [teq]
  | n, .lst ts, h => by
    obtain ⟨k, rfl, a⟩ := dp_lst h
    rw [teq_ll]
    exact teqL_of (teq_refl k) ts a
  | n, .tup ts, h => by
    obtain ⟨k, rfl, a⟩ := dp_tup h
    rw [teq_tt]
    exact teqL_of (teq_refl k) ts a
  | n, .un, h => by cases n <;> simp [dp] at h
  | n, .fix _, h => by cases n <;> simp [dp] at h
  | n, .dct _, h => by cases n <;> simp [dp] at h
  | n, .ref _, h => by cases n <;> simp [dp] at h
theorem teqL_refl {n : Nat} {ts : List T} (h : ts.all (dp n) = true) : teqL ts ts = true := teqL_of (teq_refl n) ts h
theorem dp_mono : ∀ (n m : Nat) (t : T), n ≤ m → dp n t = true → dp m t = true
  | n, m, .non, _, _ => by cases m <;> rfl
  | n, m, .bl b, _, _ => by cases m <;> rfl
  | n, m, .int i, _, _ => by cases m <;> rfl
  | n, m, .str s, _, _ => by cases m <;> rfl
  | n, m, .lst ts, l, h => by
    obtain ⟨k, rfl, a⟩ := dp_lst h
    obtain ⟨j, rfl⟩ : ∃ j, m = j + 1 := ⟨m - 1, by omega⟩
    simp only [dp]
    exact List.all_eq_true.mpr fun x hx => dp_mono k j x (by omega) (List.all_eq_true.mp a x hx)
  | n, m, .tup ts, l, h => by
    obtain ⟨k, rfl, a⟩ := dp_tup h
    obtain ⟨j, rfl⟩ : ∃ j, m = j + 1 := ⟨m - 1, by omega⟩
    simp only [dp]
    exact List.all_eq_true.mpr fun x hx => dp_mono k j x (by omega) (List.all_eq_true.mp a x hx)
  | n, m, .un, _, h => by cases n <;> simp [dp] at h
  | n, m, .fix _, _, h => by cases n <;> simp [dp] at h
  | n, m, .dct _, _, h => by cases n <;> simp [dp] at h
  | n, m, .ref _, _, h => by cases n <;> simp [dp] at h
theorem dpL_mono {n m : Nat} {ts : List T} (l : n ≤ m) (h : ts.all (dp n) = true) : ts.all (dp m) = true := List.all_eq_true.mpr fun x hx => dp_mono n m x l (List.all_eq_true.mp h x hx)
theorem drF_id {M : Hs} : ∀ (n : Nat) (t : T), dp n t = true → drF M n t = t
  | n, .non, _ => drF_non
  | n, .bl b, _ => drF_bl
  | n, .int i, _ => drF_int
  | n, .str s, _ => drF_str
  | n, .lst ts, h => by
    obtain ⟨k, rfl, a⟩ := dp_lst h
    show T.lst (ts.map (drF M k)) = _
    congr 1
    rw [List.map_congr_left fun x hx => drF_id k x (List.all_eq_true.mp a x hx), List.map_id']
  | n, .tup ts, h => by
    obtain ⟨k, rfl, a⟩ := dp_tup h
    show T.tup (ts.map (drF M k)) = _
    congr 1
    rw [List.map_congr_left fun x hx => drF_id k x (List.all_eq_true.mp a x hx), List.map_id']
  | n, .un, h => by cases n <;> simp [dp] at h
  | n, .fix _, h => by cases n <;> simp [dp] at h
  | n, .dct _, h => by cases n <;> simp [dp] at h
  | n, .ref _, h => by cases n <;> simp [dp] at h
theorem drFL_id {M : Hs} {n : Nat} {ts : List T} (h : ts.all (dp n) = true) : ts.map (drF M n) = ts := by
  rw [List.map_congr_left fun x hx => drF_id n x (List.all_eq_true.mp h x hx), List.map_id']
/-- a loop, turn by turn -/
theorem forL_ix {g : TgP} {b : SM} (N : Nat) (I : Nat → Mi.Loc → Hs → Prop) : ∀ (ts : List T) (k : Nat), k + ts.length ≤ N → (∀ t ∈ ts, ∀ k τ M, k < N → I k τ M → ∃ τ1 τ2 M2, g t τ = some τ1 ∧ I (k + 1) τ2 M2 ∧ (b τ1 M = .nx τ2 M2 ∨ b τ1 M = .ct τ2 M2)) → ∀ τ M, I k τ M → ∃ τ' M', forL g b ts τ M = .nx τ' M' ∧ I (k + ts.length) τ' M'
  | [], k, _, _, τ, M, i => ⟨τ, M, rfl, i⟩
  | t :: ts, k, hl, h, τ, M, i => by
    rw [List.length_cons] at hl
    obtain ⟨τ1, τ2, M2, e1, i2, e2⟩ := h t List.mem_cons_self k τ M (by omega) i
    obtain ⟨τ3, M3, e3, i3⟩ := forL_ix N I ts (k + 1) (by omega) (fun t ht => h t (List.mem_cons_of_mem _ ht)) τ2 M2 i2
    refine ⟨τ3, M3, ?_, by rw [List.length_cons, Nat.add_comm ts.length, ← Nat.add_assoc]; exact i3⟩
    unfold forL
    simp only [e1]
    rcases e2 with e2 | e2 <;> simp only [e2] <;> exact e3
theorem lcF_map {α : Type} {g : TgP} {c : TM} {e : EM} {τ : Mi.Loc} {M : Hs} {r : Nat} {enc : α → T} {p : α → Bool} {f : α → T} {xs : List α} (hM : M[r]? = some (.lst (xs.map enc))) (h : ∀ x ∈ xs, ∀ k, lcT g c e τ (enc x) k M = if p x then (k M).bind fun r M3 => .ok (f x :: r) M3 else k M) :
    ∀ (n i : Nat), xs.length - i < n → lcF g c e τ (srcR r) n i M = .ok (((xs.drop i).filter p).map f) M
  | 0, i, hn => by omega
  | n + 1, i, hn => by
    have hs : srcR r i M = some ((xs.map enc)[i]?) := by unfold srcR; rw [hM]
    unfold lcF
    rw [hs]
    by_cases hi : i < xs.length
    · have ih := lcF_map hM h n (i + 1) (by omega)
      rw [List.getElem?_eq_getElem (by simpa using hi)]
      dsimp only
      rw [List.getElem_map, h _ (List.getElem_mem hi), ih, List.drop_eq_getElem_cons hi, List.filter_cons]
      split <;> rfl
    · rw [List.getElem?_eq_none (by simpa using hi), List.drop_eq_nil_of_le (by omega)]
      rfl
/-- a comprehension over an object's list -/
theorem lcR_map {α : Type} {g : TgP} {c : TM} {e : EM} {τ : Mi.Loc} {M : Hs} {r : Nat} {enc : α → T} (p : α → Bool) (f : α → T) {xs : List α} (hM : M[r]? = some (.lst (xs.map enc))) (hl : xs.length < 1000000) (h : ∀ x ∈ xs, ∀ k, lcT g c e τ (enc x) k M = if p x then (k M).bind fun r M3 => .ok (f x :: r) M3 else k M) :
    lcS g c e τ (.f (srcR r)) M = .ok ((xs.filter p).map f) M := by
  have := lcF_map hM h 1000000 0 (by omega)
  rwa [List.drop_zero] at this
theorem lcR_all {α : Type} {g : TgP} {c : TM} {e : EM} {τ : Mi.Loc} {M : Hs} {r : Nat} {enc : α → T} (f : α → T) {xs : List α} (hM : M[r]? = some (.lst (xs.map enc))) (hl : xs.length < 1000000) (h : ∀ x ∈ xs, ∀ k, lcT g c e τ (enc x) k M = (k M).bind fun r M3 => .ok (f x :: r) M3) :
    lcS g c e τ (.f (srcR r)) M = .ok (xs.map f) M := by
  have := lcR_map (fun _ => true) f hM hl fun x hx k => by rw [if_pos rfl]; exact h x hx k
  rwa [List.filter_eq_self.mpr fun _ _ => rfl] at this
theorem lcS_map {α : Type} {g : TgP} {c : TM} {e : EM} {τ : Mi.Loc} {M : Hs} {enc : α → T} (p : α → Bool) (f : α → T) (xs : List α) (h : ∀ x ∈ xs, ∀ k, lcT g c e τ (enc x) k M = if p x then (k M).bind fun r M3 => .ok (f x :: r) M3 else k M) : lcS g c e τ (.l (xs.map enc)) M = .ok ((xs.filter p).map f) M := lcL_map xs h
theorem lcS_all {α : Type} {g : TgP} {c : TM} {e : EM} {τ : Mi.Loc} {M : Hs} {enc : α → T} (f : α → T) (xs : List α) (h : ∀ x ∈ xs, ∀ k, lcT g c e τ (enc x) k M = (k M).bind fun r M3 => .ok (f x :: r) M3) : lcS g c e τ (.l (xs.map enc)) M = .ok (xs.map f) M := lcL_all xs h
theorem gxS_run {g : TgP} {c : TM} {e : EM} {τ : Mi.Loc} {M M1 : Hs} {src : Src} {ts : List T} (h : lcS g c e τ src M = .ok ts M1) (hl : ts.length ≤ lineN) : gxS g c e τ src M = .ok ts M1 := by
  unfold gxS
  rw [h]
  exact if_pos hl
theorem intsT_map {α : Type} (f : α → Int) : ∀ xs : List α, intsT (xs.map fun x => .int (f x)) = some (xs.map f)
  | [] => rfl
  | x :: xs => by simp [intsT, intsT_map f xs]
section
variable {τ : Mi.Loc} {M : Hs}
theorem p_gtup {cs : List Nat} {it : IM} {ws : List Nat} {g : TgP} {c : TM} {e : EM} : mGTup cs it ws g c e τ M = match it τ M with
  | .ok src M1 => (match gxS g c e (wipeT τ ws) src M1 with
    | .ok ts M2 => .ok (.tup ts) M2
    | .ex c M => if cs.contains c then .ex c M else .bad
    | .bad => .bad)
  | .ex c M => .ex c M
  | .bad => .bad := by
  show (it τ M).bind _ = _
  rw [p_bind]
  cases it τ M with
  | ok x M1 =>
    show gxK _ _ (gxS g c e (wipeT τ ws) x M1) = _
    dsimp only
    cases gxS g c e (wipeT τ ws) x M1 <;> rfl
  | _ => rfl
theorem p_gsum {it : IM} {ws : List Nat} {g : TgP} {c : TM} {e : EM} : mGSum it ws g c e τ M = match it τ M with
  | .ok src M1 => (match gxS g c e (wipeT τ ws) src M1 with
    | .ok ts M2 => (match intsT ts with
      | some ns => .ok (.int ns.sum) M2
      | none => .bad)
    | _ => .bad)
  | .ex c M => .ex c M
  | .bad => .bad := by
  show (it τ M).bind _ = _
  rw [p_bind]
  cases it τ M with
  | ok x M1 =>
    show gxK _ _ (gxS g c e (wipeT τ ws) x M1) = _
    dsimp only
    cases gxS g c e (wipeT τ ws) x M1 with
    | ok ts M2 =>
      show (match intsT ts with | some ns => _ | none => _) = _
      dsimp only
    | ex c M => rfl
    | bad => rfl
  | _ => rfl
theorem p_gsorted {cs : List Nat} {it : IM} {ws : List Nat} {g : TgP} {c : TM} {e : EM} : mGSorted cs it ws g c e τ M = match it τ M with
  | .ok src M1 => (match gxS g c e (wipeT τ ws) src M1 with
    | .ok ts M2 => if okSort ts then .ok (.lst (sortT ts)) M2 else .bad
    | .ex c M => if cs.contains c then .ex c M else .bad
    | .bad => .bad)
  | .ex c M => .ex c M
  | .bad => .bad := by
  show (it τ M).bind _ = _
  rw [p_bind]
  cases it τ M with
  | ok x M1 =>
    show gxK _ _ (gxS g c e (wipeT τ ws) x M1) = _
    dsimp only
    cases gxS g c e (wipeT τ ws) x M1 <;> rfl
  | _ => rfl
theorem p_gmin {it : IM} {ws : List Nat} {g : TgP} {c : TM} {e : EM} : mGMin it ws g c e τ M = match it τ M with
  | .ok src M1 => (match gxS g c e (wipeT τ ws) src M1 with
    | .ok ts M2 => if okOrd ts && !ts.isEmpty then .ok (bestmin ts) M2 else .bad
    | _ => .bad)
  | .ex c M => .ex c M
  | .bad => .bad := by
  show (it τ M).bind _ = _
  rw [p_bind]
  cases it τ M with
  | ok x M1 =>
    show gxK _ _ (gxS g c e (wipeT τ ws) x M1) = _
    dsimp only
    cases gxS g c e (wipeT τ ws) x M1 <;> rfl
  | _ => rfl
theorem p_gmax {it : IM} {ws : List Nat} {g : TgP} {c : TM} {e : EM} : mGMax it ws g c e τ M = match it τ M with
  | .ok src M1 => (match gxS g c e (wipeT τ ws) src M1 with
    | .ok ts M2 => if okOrd ts && !ts.isEmpty then .ok (bestmax ts) M2 else .bad
    | _ => .bad)
  | .ex c M => .ex c M
  | .bad => .bad := by
  show (it τ M).bind _ = _
  rw [p_bind]
  cases it τ M with
  | ok x M1 =>
    show gxK _ _ (gxS g c e (wipeT τ ws) x M1) = _
    dsimp only
    cases gxS g c e (wipeT τ ws) x M1 <;> rfl
  | _ => rfl
theorem p_gany {cs : List Nat} {it : IM} {ws : List Nat} {g : TgP} {c : TM} {e : EM} : mGAny cs it ws g c e τ M = match it τ M with
  | .ok src M1 => (match byS true g c e (wipeT τ ws) src M1 with
    | .ok b M2 => .ok (.bl b) M2
    | .ex c M => if cs.contains c then .ex c M else .bad
    | .bad => .bad)
  | .ex c M => .ex c M
  | .bad => .bad := by
  show (it τ M).bind _ = _
  rw [p_bind]
  cases it τ M with
  | ok x M1 =>
    show gxKB _ _ (byS true g c e (wipeT τ ws) x M1) = _
    dsimp only
    cases byS true g c e (wipeT τ ws) x M1 <;> rfl
  | _ => rfl
theorem p_gall {cs : List Nat} {it : IM} {ws : List Nat} {g : TgP} {c : TM} {e : EM} : mGAll cs it ws g c e τ M = match it τ M with
  | .ok src M1 => (match byS false g c e (wipeT τ ws) src M1 with
    | .ok b M2 => .ok (.bl (!b)) M2
    | .ex c M => if cs.contains c then .ex c M else .bad
    | .bad => .bad)
  | .ex c M => .ex c M
  | .bad => .bad := by
  show (it τ M).bind _ = _
  rw [p_bind]
  cases it τ M with
  | ok x M1 =>
    show gxKB _ _ (byS false g c e (wipeT τ ws) x M1) = _
    dsimp only
    cases byS false g c e (wipeT τ ws) x M1 <;> rfl
  | _ => rfl
theorem p_byT {st : Bool} {g : TgP} {c : TM} {e : EM} {t : T} {k : Hs → Res Bool} : byT st g c e τ t k M = match g t τ with
  | none => .bad
  | some τ1 => (match c τ1 M with
    | .ok true M1 => (match e τ1 M1 with
      | .ok v M2 => (match v with
        | .bl x => if x = st then .ok true M2 else k M2
        | _ => .bad)
      | .ex c M => .ex c M
      | .bad => .bad)
    | .ok false M1 => k M1
    | .ex c M => .ex c M
    | .bad => .bad) := by
  unfold byT
  cases g t τ with
  | none => rfl
  | some τ1 =>
    show (c τ1 M).bind _ = _
    rw [p_bind]
    dsimp only
    cases c τ1 M with
    | ok x M1 =>
      cases x
      · rfl
      · show (e τ1 M1).bind _ = _
        rw [p_bind]
        dsimp only
        cases e τ1 M1 with
        | ok v M2 => cases v <;> rfl
        | _ => rfl
    | _ => rfl
end
theorem byL_map {α : Type} {st : Bool} {g : TgP} {c : TM} {e : EM} {τ : Mi.Loc} {M : Hs} {enc : α → T} {q : α → Bool} : ∀ (xs : List α), (∀ x ∈ xs, ∀ k, byT st g c e τ (enc x) k M = if q x then .ok true M else k M) → byL st g c e τ (xs.map enc) M = .ok (xs.any q) M
  | [], _ => rfl
  | x :: xs, h => by
    have ih := byL_map xs fun y hy => h y (List.mem_cons_of_mem _ hy)
    rw [List.map_cons]
    unfold byL
    rw [h x List.mem_cons_self, ih, List.any_cons]
    cases q x <;> rfl
theorem byS_map {α : Type} {st : Bool} {g : TgP} {c : TM} {e : EM} {τ : Mi.Loc} {M : Hs} {enc : α → T} (q : α → Bool) (xs : List α) (h : ∀ x ∈ xs, ∀ k, byT st g c e τ (enc x) k M = if q x then .ok true M else k M) : byS st g c e τ (.l (xs.map enc)) M = .ok (xs.any q) M := byL_map xs h
theorem byF_map {α : Type} {st : Bool} {g : TgP} {c : TM} {e : EM} {τ : Mi.Loc} {M : Hs} {r : Nat} {enc : α → T} {q : α → Bool} {xs : List α} (hM : M[r]? = some (.lst (xs.map enc))) (h : ∀ x ∈ xs, ∀ k, byT st g c e τ (enc x) k M = if q x then .ok true M else k M) :
    ∀ (n i : Nat), xs.length - i < n → byF st g c e τ (srcR r) n i M = .ok ((xs.drop i).any q) M
  | 0, i, hn => by omega
  | n + 1, i, hn => by
    have hs : srcR r i M = some ((xs.map enc)[i]?) := by unfold srcR; rw [hM]
    unfold byF
    rw [hs]
    by_cases hi : i < xs.length
    · have ih := byF_map hM h n (i + 1) (by omega)
      rw [List.getElem?_eq_getElem (by simpa using hi)]
      dsimp only
      rw [List.getElem_map, h _ (List.getElem_mem hi), ih, List.drop_eq_getElem_cons hi, List.any_cons]
      cases q xs[i] <;> rfl
    · rw [List.getElem?_eq_none (by simpa using hi), List.drop_eq_nil_of_le (by omega)]
      rfl
theorem byR_map {α : Type} {st : Bool} {g : TgP} {c : TM} {e : EM} {τ : Mi.Loc} {M : Hs} {r : Nat} {enc : α → T} (q : α → Bool) {xs : List α} (hM : M[r]? = some (.lst (xs.map enc))) (hl : xs.length < 1000000) (h : ∀ x ∈ xs, ∀ k, byT st g c e τ (enc x) k M = if q x then .ok true M else k M) :
    byS st g c e τ (.f (srcR r)) M = .ok (xs.any q) M := by
  have := byF_map hM h 1000000 0 (by omega)
  rwa [List.drop_zero] at this
/-! places from behind -/
theorem atI_last {α : Type} (xs : List α) (x : α) : L2.atI (xs ++ [x]) (-1) = some x := by
  unfold L2.atI L2.ixN
  rw [if_neg (by decide), if_pos (by simp; omega)]
  have : ((-1 : Int) + ((xs ++ [x]).length : Nat)).toNat = xs.length := by simp; omega
  rw [this]
  simp
theorem atI_m1 {α : Type} (xs : List α) : L2.atI xs (-1) = xs.getLast? := by
  rcases List.eq_nil_or_concat xs with rfl | ⟨l, x, rfl⟩
  · rfl
  · rw [List.concat_eq_append, atI_last]; simp
section
variable {τ : Mi.Loc} {M M1 M2 : Hs} {it : IM} {ws : List Nat} {g : TgP} {c : TM} {e : EM} {src : Src} {ts : List T}
theorem lc_run (hi : it τ M = .ok src M1) (hs : lcS g c e (wipeT τ ws) src M1 = .ok ts M2) (hl : ts.length ≤ lineN) : mLC it ws g c e τ M = .ok (.lst ts) M2 := by
  rw [p_lc, hi]
  dsimp only
  rw [hs]
  exact if_pos hl
theorem gtup_run {cs : List Nat} (hi : it τ M = .ok src M1) (hs : lcS g c e (wipeT τ ws) src M1 = .ok ts M2) (hl : ts.length ≤ lineN) : mGTup cs it ws g c e τ M = .ok (.tup ts) M2 := by
  rw [p_gtup, hi]
  dsimp only
  rw [gxS_run hs hl]
theorem gsum_run {ns : List Int} (hi : it τ M = .ok src M1) (hs : lcS g c e (wipeT τ ws) src M1 = .ok ts M2) (hl : ts.length ≤ lineN) (hn : intsT ts = some ns) : mGSum it ws g c e τ M = .ok (.int ns.sum) M2 := by
  rw [p_gsum, hi]
  dsimp only
  rw [gxS_run hs hl]
  dsimp only
  rw [hn]
theorem gsorted_run {cs : List Nat} (hi : it τ M = .ok src M1) (hs : lcS g c e (wipeT τ ws) src M1 = .ok ts M2) (hl : ts.length ≤ lineN) (ho : okSort ts = true) : mGSorted cs it ws g c e τ M = .ok (.lst (sortT ts)) M2 := by
  rw [p_gsorted, hi]
  dsimp only
  rw [gxS_run hs hl]
  exact if_pos ho
theorem gmin_run (hi : it τ M = .ok src M1) (hs : lcS g c e (wipeT τ ws) src M1 = .ok ts M2) (hl : ts.length ≤ lineN) (ho : (okOrd ts && !ts.isEmpty) = true) : mGMin it ws g c e τ M = .ok (bestmin ts) M2 := by
  rw [p_gmin, hi]
  dsimp only
  rw [gxS_run hs hl]
  exact if_pos ho
theorem gmax_run (hi : it τ M = .ok src M1) (hs : lcS g c e (wipeT τ ws) src M1 = .ok ts M2) (hl : ts.length ≤ lineN) (ho : (okOrd ts && !ts.isEmpty) = true) : mGMax it ws g c e τ M = .ok (bestmax ts) M2 := by
  rw [p_gmax, hi]
  dsimp only
  rw [gxS_run hs hl]
  exact if_pos ho
theorem gany_run {cs : List Nat} {b : Bool} (hi : it τ M = .ok src M1) (hs : byS true g c e (wipeT τ ws) src M1 = .ok b M2) : mGAny cs it ws g c e τ M = .ok (.bl b) M2 := by
  rw [p_gany, hi]
  dsimp only
  rw [hs]
theorem gall_run {cs : List Nat} {b : Bool} (hi : it τ M = .ok src M1) (hs : byS false g c e (wipeT τ ws) src M1 = .ok b M2) : mGAll cs it ws g c e τ M = .ok (.bl (!b)) M2 := by
  rw [p_gall, hi]
  dsimp only
  rw [hs]
end
theorem atI_lit {α : Type} {xs : List α} {k : Nat} : L2.atI xs (no_index (OfNat.ofNat k) : Int) = xs[k]? := by
  show L2.atI xs (k : Int) = xs[k]?
  unfold L2.atI L2.ixN
  rw [if_pos (by omega)]
  by_cases h : (k : Int) < (xs.length : Int)
  · rw [if_pos h]; rfl
  · rw [if_neg h, List.getElem?_eq_none (by omega)]; rfl
theorem atI_0 {α : Type} {xs : List α} : L2.atI xs 0 = xs[0]? := atI_lit (k := 0)
theorem atI_1 {α : Type} {xs : List α} : L2.atI xs 1 = xs[1]? := atI_lit (k := 1)
theorem atI_nat {α : Type} {xs : List α} {k : Nat} : L2.atI xs (k : Int) = xs[k]? := atI_lit (k := k)
theorem teqL_e {ts : List T} : teqL ts [] = ts.isEmpty := by cases ts <;> rfl
theorem teqL_e2 {ts : List T} : teqL [] ts = ts.isEmpty := by cases ts <;> rfl
theorem emp_app {α : Type} {a b : List α} : (a ++ b).isEmpty = (a.isEmpty && b.isEmpty) := by cases a <;> simp
theorem cutL_from {α : Type} {xs : List α} {k : Nat} : cutL xs (some (no_index (OfNat.ofNat k) : Int)) none = xs.drop k := by
  show cutL xs (some (k : Int)) none = xs.drop k
  unfold cutL HT.sIx
  simp only
  rw [if_neg (by omega)]
  by_cases h : k ≤ xs.length
  · rw [Int.toNat_natCast, Nat.min_eq_left h]
    exact List.take_of_length_le (by simp)
  · rw [Int.toNat_natCast, Nat.min_eq_right (by omega), List.drop_eq_nil_of_le (Nat.le_refl _), List.drop_eq_nil_of_le (by omega), List.take_nil]
theorem cutL_to {α : Type} {xs : List α} {k : Nat} : cutL xs none (some (no_index (OfNat.ofNat k) : Int)) = xs.take k := by
  show cutL xs none (some (k : Int)) = xs.take k
  unfold cutL HT.sIx
  simp only
  rw [if_neg (by omega), List.drop_zero, Int.toNat_natCast, Nat.sub_zero]
  by_cases h : k ≤ xs.length
  · rw [Nat.min_eq_left h]
  · rw [Nat.min_eq_right (by omega), List.take_of_length_le (Nat.le_refl _), List.take_of_length_le (by omega)]
theorem cutL_from1 {α : Type} {xs : List α} : cutL xs (some 1) none = xs.tail := by rw [← List.drop_one]; exact cutL_from (k := 1)
theorem cutL_to1 {α : Type} {xs : List α} : cutL xs none (some 1) = xs.take 1 := cutL_to (k := 1)
theorem cutL_nat {α : Type} {xs : List α} {k : Nat} : cutL xs none (some (k : Int)) = xs.take k := cutL_to (k := k)
theorem zipT_map {α β : Type} {f : α → T} {g : β → T} : ∀ {xs : List α} {ys : List β}, zipT (xs.map f) (ys.map g) = (xs.zip ys).map fun z => .tup [f z.1, g z.2]
  | [], ys => by cases ys <;> rfl
  | x :: xs, [] => rfl
  | x :: xs, y :: ys => by
    have ih := zipT_map (f := f) (g := g) (xs := xs) (ys := ys)
    simp only [List.map_cons, List.zip_cons_cons]
    rw [← ih]
    rfl
/-- for (disch := omega) -/
theorem if_line {α : Type} {n : Nat} {a b : α} (h : n ≤ 16777216) : (if n ≤ lineN then a else b) = a := if_pos h
theorem if_lt_line {α : Type} {n : Nat} {a b : α} (h : n < 16777216) : (if n < lineN then a else b) = a := if_pos h
end Mi
namespace Mi
open PySem PySem.Spec PyProof.Rows L2
/-! ### the text by places -/
def top (i : Nat) : Stmt := PySem.Challenge.pw_liftstack_k13_modes_of_a_car.main.body.getD i (.Pass ⟨0, 0, 0, 0⟩)
abbrev st18 : Stmt := top 8
abbrev st20 : Stmt := top 10
abbrev st0 : Stmt := inClass (top 6) 0
abbrev st1 : Stmt := inClass (top 6) 1
abbrev st2 : Stmt := inClass (top 6) 2
abbrev st10 : Stmt := inClass (top 6) 10
abbrev st9 : Stmt := inClass (top 6) 9
abbrev st3 : Stmt := inClass (top 6) 3
abbrev st4 : Stmt := inClass (top 6) 4
abbrev st5 : Stmt := inClass (top 6) 5
abbrev st6 : Stmt := inClass (top 6) 6
abbrev st12 : Stmt := inClass (top 6) 12
abbrev st13 : Stmt := inClass (top 6) 13
abbrev st7 : Stmt := inClass (top 6) 7
abbrev st8 : Stmt := inClass (top 6) 8
abbrev st11 : Stmt := inClass (top 6) 11
abbrev st15 : Stmt := inClass (top 6) 15
abbrev st14 : Stmt := inClass (top 6) 14
abbrev st16 : Stmt := inClass (top 6) 16
abbrev st17 : Stmt := inClass (top 6) 17
abbrev st21 : Stmt := top 11
abbrev st25 : Stmt := top 15
abbrev st19 : Stmt := top 9
abbrev st23 : Stmt := top 13
abbrev st22 : Stmt := top 12
abbrev st24 : Stmt := top 14
abbrev st26 : Stmt := top 16
/-! ### the classes: fields by place -/
def flds (c : Nat) : List Str := ([[], [], ["mode", "place", "home", "other", "burns", "moves", "now"]] : List (List Str)).getD c []
def TBo (C cP : Nat → Addr) : Tb := ⟨C, flds, [(cP 0, fun _ _ => "Mode.seconds_in.<locals>.<genexpr>"), (cP 1, fun _ _ => "Mode.move_lines.<locals>.<genexpr>"), (cP 2, fun _ _ => "_law_plain.<locals>.<lambda>"), (cP 3, fun _ _ => "_law_deed.<locals>.<lambda>"), (cP 4, fun _ _ => "law.<locals>.<lambda>")]⟩
def c_MODES : T := (.tup [(.str [110, 111, 114, 109, 97, 108]), (.str [111, 119, 110]), (.str [114, 101, 99, 97, 108, 108]), (.str [102, 105, 114, 101]), (.str [99, 97, 114, 101]), (.str [111, 117, 116])])
def ss_MODES : List (List Nat) := [[110, 111, 114, 109, 97, 108], [111, 119, 110], [114, 101, 99, 97, 108, 108], [102, 105, 114, 101], [99, 97, 114, 101], [111, 117, 116]]
def c_MOST_MOVES : T := (.int 300)
abbrev cs_told : List Nat := [1]
abbrev ret_told : List Nat := [77, 111, 100, 101, 69, 114, 114, 111, 114]
/-! ### what the top has written -/
structure Fx (K : PySem.W.Frag) (mg : Str → Option Value) (C f g cc cP : Nat → Addr) (fd : Nat → FuncData) : Prop where
  xe0 : PySem.W.excIn K (C 0) [.type "ValueError", .type "Exception", .type "BaseException", .type "object"] "ValueError.__new__" = true
  xm0 : mg "LiftFault" = some (.ref (C 0))
  xk0 : PySem.W.keepIn K (.ref (C 0)) = true
  xs0 : PySem.W.subIn K (.ref (C 0)) (.type "BaseException") = some true
  xt0 : PySem.W.typeIn K (.ref (C 0)) = some (.type "type")
  xe1 : PySem.W.excIn K (C 1) [.type "ValueError", .type "Exception", .type "BaseException", .type "object"] "ValueError.__new__" = true
  xm1 : mg "ModeError" = some (.ref (C 1))
  xk1 : PySem.W.keepIn K (.ref (C 1)) = true
  xs1 : PySem.W.subIn K (.ref (C 1)) (.type "BaseException") = some true
  xt1 : PySem.W.typeIn K (.ref (C 1)) = some (.type "type")
  cl2 : Cls K (C 2)
  mk2 : Mk K (C 2) (f 0)
  mgc2 : mg "Mode" = some (.ref (C 2))
  na2_mode : NoAttr K (C 2) "mode"
  na2_place : NoAttr K (C 2) "place"
  na2_home : NoAttr K (C 2) "home"
  na2_other : NoAttr K (C 2) "other"
  na2_burns : NoAttr K (C 2) "burns"
  na2_moves : NoAttr K (C 2) "moves"
  na2_now : NoAttr K (C 2) "now"
  F18 : Fun K "_law_dice" "_law_dice" st18 (f 18) (fd 18)
  b18 : Binds K (fd 18) ["cell"] []
  mg18 : mg "_law_dice" = some (.ref (f 18))
  kp18 : PySem.W.keepIn K (.ref (f 18)) = true
  F20 : Fun K "_law_rounds" "_law_rounds" st20 (f 20) (fd 20)
  b20 : Binds K (fd 20) ["script", "most"] []
  mg20 : mg "_law_rounds" = some (.ref (f 20))
  kp20 : PySem.W.keepIn K (.ref (f 20)) = true
  F0 : Fun K "__init__" "Mode.__init__" st0 (f 0) (fd 0)
  b0 : Binds K (fd 0) ["self", "place", "home", "other"] []
  me0 : Meth K (C 2) "__init__" (f 0)
  F1 : Fun K "check_second" "Mode.check_second" st1 (f 1) (fd 1)
  b1 : Binds K (fd 1) ["self", "now"] []
  me1 : Meth K (C 2) "check_second" (f 1)
  F2 : Fun K "change_to" "Mode.change_to" st2 (f 2) (fd 2)
  b2 : Binds K (fd 2) ["self", "mode", "why", "now"] []
  me2 : Meth K (C 2) "change_to" (f 2)
  F10 : Fun K "take_care" "Mode.take_care" st10 (f 10) (fd 10)
  b10 : Binds K (fd 10) ["self", "now"] []
  me10 : Meth K (C 2) "take_care" (f 10)
  F9 : Fun K "give_back" "Mode.give_back" st9 (f 9) (fd 9)
  b9 : Binds K (fd 9) ["self", "now"] []
  me9 : Meth K (C 2) "give_back" (f 9)
  F3 : Fun K "put_alarm" "Mode.put_alarm" st3 (f 3) (fd 3)
  b3 : Binds K (fd 3) ["self", "place", "now"] []
  me3 : Meth K (C 2) "put_alarm" (f 3)
  F4 : Fun K "goal_now" "Mode.goal_now" st4 (f 4) (fd 4)
  b4 : Binds K (fd 4) ["self"] []
  me4 : Meth K (C 2) "goal_now" (f 4)
  F5 : Fun K "arrive_at" "Mode.arrive_at" st5 (f 5) (fd 5)
  b5 : Binds K (fd 5) ["self", "place", "now"] []
  me5 : Meth K (C 2) "arrive_at" (f 5)
  F6 : Fun K "turn_key" "Mode.turn_key" st6 (f 6) (fd 6)
  b6 : Binds K (fd 6) ["self", "now"] []
  me6 : Meth K (C 2) "turn_key" (f 6)
  F12 : Fun K "takes_calls" "Mode.takes_calls" st12 (f 12) (fd 12)
  b12 : Binds K (fd 12) ["self"] []
  me12 : Meth K (C 2) "takes_calls" (f 12)
  F13 : Fun K "door_by_itself" "Mode.door_by_itself" st13 (f 13) (fd 13)
  b13 : Binds K (fd 13) ["self"] []
  me13 : Meth K (C 2) "door_by_itself" (f 13)
  F7 : Fun K "all_clear" "Mode.all_clear" st7 (f 7) (fd 7)
  b7 : Binds K (fd 7) ["self", "now"] []
  me7 : Meth K (C 2) "all_clear" (f 7)
  F8 : Fun K "take_own" "Mode.take_own" st8 (f 8) (fd 8)
  b8 : Binds K (fd 8) ["self", "now"] []
  me8 : Meth K (C 2) "take_own" (f 8)
  F11 : Fun K "let_fail" "Mode.let_fail" st11 (f 11) (fd 11)
  b11 : Binds K (fd 11) ["self", "why", "now"] []
  me11 : Meth K (C 2) "let_fail" (f 11)
  F15 : Fun K "mode_at" "Mode.mode_at" st15 (f 15) (fd 15)
  b15 : Binds K (fd 15) ["self", "second"] []
  me15 : Meth K (C 2) "mode_at" (f 15)
  F14 : FunC K "seconds_in" "Mode.seconds_in" st14 (f 14) (fd 14) (cc 0)
  b14 : Binds K (fd 14) ["self", "mode", "first", "last"] []
  me14 : Meth K (C 2) "seconds_in" (f 14)
  F16 : Fun K "share_in_use" "Mode.share_in_use" st16 (f 16) (fd 16)
  b16 : Binds K (fd 16) ["self", "first", "last"] []
  me16 : Meth K (C 2) "share_in_use" (f 16)
  F17 : FunC K "move_lines" "Mode.move_lines" st17 (f 17) (fd 17) (cc 1)
  b17 : Binds K (fd 17) ["self"] []
  me17 : Meth K (C 2) "move_lines" (f 17)
  F25 : FunC K "_law_plain" "_law_plain" st25 (f 25) (fd 25) (cc 2)
  b25 : Binds K (fd 25) [] []
  mg25 : mg "_law_plain" = some (.ref (f 25))
  kp25 : PySem.W.keepIn K (.ref (f 25)) = true
  F19 : Fun K "_law_roll" "_law_roll" st19 (f 19) (fd 19)
  b19 : Binds K (fd 19) ["dice", "many"] []
  mg19 : mg "_law_roll" = some (.ref (f 19))
  kp19 : PySem.W.keepIn K (.ref (f 19)) = true
  F23 : Fun K "_law_to" "_law_to" st23 (f 23) (fd 23)
  b23 : Binds K (fd 23) ["own", "mode", "why", "now"] []
  mg23 : mg "_law_to" = some (.ref (f 23))
  kp23 : PySem.W.keepIn K (.ref (f 23)) = true
  F22 : Fun K "_law_goal" "_law_goal" st22 (f 22) (fd 22)
  b22 : Binds K (fd 22) ["own"] []
  mg22 : mg "_law_goal" = some (.ref (f 22))
  kp22 : PySem.W.keepIn K (.ref (f 22)) = true
  F24 : FunC K "_law_deed" "_law_deed" st24 (f 24) (fd 24) (cc 3)
  b24 : Binds K (fd 24) ["dice", "mode", "own"] []
  mg24 : mg "_law_deed" = some (.ref (f 24))
  kp24 : PySem.W.keepIn K (.ref (f 24)) = true
  F26 : FunC K "law" "law" st26 (f 26) (fd 26) (cc 4)
  b26 : Binds K (fd 26) ["script"] []
  mg26 : mg "law" = some (.ref (f 26))
  kp26 : PySem.W.keepIn K (.ref (f 26)) = true
  bi_abs : mg "abs" = none
  bi_int : mg "int" = none
  bi_len : mg "len" = none
  bi_list : mg "list" = none
  bi_min : mg "min" = none
  bi_range : mg "range" = none
  bi_str : mg "str" = none
  bi_sum : mg "sum" = none
  bi_tuple : mg "tuple" = none
  bi_zip : mg "zip" = none
  gm_MODES : mg "MODES" = some (.ref (g 0))
  go_MODES : ∃ (o : Obj) (its : Array Value) (n : Nat), K.lookup (g 0) = some o ∧ o.cls = .type "tuple" ∧ o.dict = none ∧ o.data = .seq its n ∧ its.size ≤ sizeLine ∧ Vals [.str ⟨[110, 111, 114, 109, 97, 108].toArray⟩, .str ⟨[111, 119, 110].toArray⟩, .str ⟨[114, 101, 99, 97, 108, 108].toArray⟩, .str ⟨[102, 105, 114, 101].toArray⟩, .str ⟨[99, 97, 114, 101].toArray⟩, .str ⟨[111, 117, 116].toArray⟩] its.toList
  gm_MOST_MOVES : ∃ t, mg "MOST_MOVES" = some (.int 300 t)
  told : ToldD K mg (TBo C cP) "_law_told" cs_told ret_told
  nP0_1 : cP 0 ≠ cP 1
  nP0_2 : cP 0 ≠ cP 2
  nP0_3 : cP 0 ≠ cP 3
  nP0_4 : cP 0 ≠ cP 4
  nP1_2 : cP 1 ≠ cP 2
  nP1_3 : cP 1 ≠ cP 3
  nP1_4 : cP 1 ≠ cP 4
  nP2_3 : cP 2 ≠ cP 3
  nP2_4 : cP 2 ≠ cP 4
  nP3_4 : cP 3 ≠ cP 4
/-- the tables of the code objects -/
structure Bx (base : Heap) (mg : Str → Option Value) (cc cP : Nat → Addr) : Prop where
  ok : True
  t0 : LamX.TabB base mg (cc 0) (cP 0)
  t1 : LamX.TabB base mg (cc 1) (cP 1)
  t2 : LamX.TabB base mg (cc 2) (cP 2)
  t3 : LamX.TabB base mg (cc 3) (cP 3)
  t4 : LamX.TabB base mg (cc 4) (cP 4)
section
variable {P : Program} {w : World} {K : PySem.W.Frag} {mg : Str → Option Value} {base : Heap} {C f g cc cP : Nat → Addr} {fd : Nat → FuncData} (Z : Fx K mg C f g cc cP fd)
theorem nf_2_check_second : ("check_second" : Str) ∉ flds 2 := by decide +kernel
theorem nf_2_change_to : ("change_to" : Str) ∉ flds 2 := by decide +kernel
theorem nf_2_put_alarm : ("put_alarm" : Str) ∉ flds 2 := by decide +kernel
theorem nf_2_goal_now : ("goal_now" : Str) ∉ flds 2 := by decide +kernel
theorem nf_2_arrive_at : ("arrive_at" : Str) ∉ flds 2 := by decide +kernel
theorem nf_2_turn_key : ("turn_key" : Str) ∉ flds 2 := by decide +kernel
theorem nf_2_all_clear : ("all_clear" : Str) ∉ flds 2 := by decide +kernel
theorem nf_2_take_own : ("take_own" : Str) ∉ flds 2 := by decide +kernel
theorem nf_2_give_back : ("give_back" : Str) ∉ flds 2 := by decide +kernel
theorem nf_2_take_care : ("take_care" : Str) ∉ flds 2 := by decide +kernel
theorem nf_2_let_fail : ("let_fail" : Str) ∉ flds 2 := by decide +kernel
theorem nf_2_takes_calls : ("takes_calls" : Str) ∉ flds 2 := by decide +kernel
theorem nf_2_door_by_itself : ("door_by_itself" : Str) ∉ flds 2 := by decide +kernel
theorem nf_2_seconds_in : ("seconds_in" : Str) ∉ flds 2 := by decide +kernel
theorem nf_2_mode_at : ("mode_at" : Str) ∉ flds 2 := by decide +kernel
theorem nf_2_share_in_use : ("share_in_use" : Str) ∉ flds 2 := by decide +kernel
theorem nf_2_move_lines : ("move_lines" : Str) ∉ flds 2 := by decide +kernel
abbrev N18 : List Str := ["cell"]
theorem sc18 : FnScope N18 ["cell"] (defScope st18) := ⟨rfl, rfl, rfl, by decide +kernel, rfl, by decide +kernel, by decide +kernel⟩
abbrev N20 : List Str := ["script", "most", "cells", "cell"]
theorem sc20 : FnScope N20 ["script", "most"] (defScope st20) := ⟨rfl, rfl, rfl, by decide +kernel, rfl, by decide +kernel, by decide +kernel⟩
abbrev N0 : List Str := ["self", "place", "home", "other"]
theorem sc0 : FnScope N0 ["self", "place", "home", "other"] (defScope st0) := ⟨rfl, rfl, rfl, by decide +kernel, rfl, by decide +kernel, by decide +kernel⟩
abbrev N1 : List Str := ["self", "now"]
theorem sc1 : FnScope N1 ["self", "now"] (defScope st1) := ⟨rfl, rfl, rfl, by decide +kernel, rfl, by decide +kernel, by decide +kernel⟩
abbrev N2 : List Str := ["self", "mode", "why", "now"]
theorem sc2 : FnScope N2 ["self", "mode", "why", "now"] (defScope st2) := ⟨rfl, rfl, rfl, by decide +kernel, rfl, by decide +kernel, by decide +kernel⟩
abbrev N10 : List Str := ["self", "now"]
theorem sc10 : FnScope N10 ["self", "now"] (defScope st10) := ⟨rfl, rfl, rfl, by decide +kernel, rfl, by decide +kernel, by decide +kernel⟩
abbrev N9 : List Str := ["self", "now"]
theorem sc9 : FnScope N9 ["self", "now"] (defScope st9) := ⟨rfl, rfl, rfl, by decide +kernel, rfl, by decide +kernel, by decide +kernel⟩
abbrev N3 : List Str := ["self", "place", "now"]
theorem sc3 : FnScope N3 ["self", "place", "now"] (defScope st3) := ⟨rfl, rfl, rfl, by decide +kernel, rfl, by decide +kernel, by decide +kernel⟩
abbrev N4 : List Str := ["self"]
theorem sc4 : FnScope N4 ["self"] (defScope st4) := ⟨rfl, rfl, rfl, by decide +kernel, rfl, by decide +kernel, by decide +kernel⟩
abbrev N5 : List Str := ["self", "place", "now"]
theorem sc5 : FnScope N5 ["self", "place", "now"] (defScope st5) := ⟨rfl, rfl, rfl, by decide +kernel, rfl, by decide +kernel, by decide +kernel⟩
abbrev N6 : List Str := ["self", "now"]
theorem sc6 : FnScope N6 ["self", "now"] (defScope st6) := ⟨rfl, rfl, rfl, by decide +kernel, rfl, by decide +kernel, by decide +kernel⟩
abbrev N12 : List Str := ["self"]
theorem sc12 : FnScope N12 ["self"] (defScope st12) := ⟨rfl, rfl, rfl, by decide +kernel, rfl, by decide +kernel, by decide +kernel⟩
abbrev N13 : List Str := ["self"]
theorem sc13 : FnScope N13 ["self"] (defScope st13) := ⟨rfl, rfl, rfl, by decide +kernel, rfl, by decide +kernel, by decide +kernel⟩
abbrev N7 : List Str := ["self", "now"]
theorem sc7 : FnScope N7 ["self", "now"] (defScope st7) := ⟨rfl, rfl, rfl, by decide +kernel, rfl, by decide +kernel, by decide +kernel⟩
abbrev N8 : List Str := ["self", "now"]
theorem sc8 : FnScope N8 ["self", "now"] (defScope st8) := ⟨rfl, rfl, rfl, by decide +kernel, rfl, by decide +kernel, by decide +kernel⟩
abbrev N11 : List Str := ["self", "why", "now"]
theorem sc11 : FnScope N11 ["self", "why", "now"] (defScope st11) := ⟨rfl, rfl, rfl, by decide +kernel, rfl, by decide +kernel, by decide +kernel⟩
abbrev N15 : List Str := ["self", "second", "told", "when", "mode", "why"]
theorem sc15 : FnScope N15 ["self", "second"] (defScope st15) := ⟨rfl, rfl, rfl, by decide +kernel, rfl, by decide +kernel, by decide +kernel⟩
abbrev N14 : List Str := ["self", "mode", "first", "last", "inside", "rows", "row", "one", "two"]
theorem sc14 : FnScope N14 ["self", "mode", "first", "last"] (defScope st14) := ⟨rfl, rfl, rfl, by decide +kernel, rfl, by decide +kernel, by decide +kernel⟩
abbrev N16 : List Str := ["self", "first", "last", "gone"]
theorem sc16 : FnScope N16 ["self", "first", "last"] (defScope st16) := ⟨rfl, rfl, rfl, by decide +kernel, rfl, by decide +kernel, by decide +kernel⟩
abbrev N17 : List Str := ["self", "now", "mode", "why"]
theorem sc17 : FnScope N17 ["self"] (defScope st17) := ⟨rfl, rfl, rfl, by decide +kernel, rfl, by decide +kernel, by decide +kernel⟩
abbrev N25 : List Str := ["bad", "full", "k", "mode", "told", "f"]
theorem sc25 : FnScope N25 [] (defScope st25) := ⟨rfl, rfl, rfl, by decide +kernel, rfl, by decide +kernel, by decide +kernel⟩
abbrev N19 : List Str := ["dice", "many", "found"]
theorem sc19 : FnScope N19 ["dice", "many"] (defScope st19) := ⟨rfl, rfl, rfl, by decide +kernel, rfl, by decide +kernel, by decide +kernel⟩
abbrev N23 : List Str := ["own", "mode", "why", "now"]
theorem sc23 : FnScope N23 ["own", "mode", "why", "now"] (defScope st23) := ⟨rfl, rfl, rfl, by decide +kernel, rfl, by decide +kernel, by decide +kernel⟩
abbrev N22 : List Str := ["own"]
theorem sc22 : FnScope N22 ["own"] (defScope st22) := ⟨rfl, rfl, rfl, by decide +kernel, rfl, by decide +kernel, by decide +kernel⟩
abbrev N24 : List Str := ["dice", "mode", "own", "fine", "good", "here", "now", "place", "sort", "told", "why"]
theorem sc24 : FnScope N24 ["dice", "mode", "own"] (defScope st24) := ⟨rfl, rfl, rfl, by decide +kernel, rfl, by decide +kernel, by decide +kernel⟩
abbrev N26 : List Str := ["script", "dice", "first", "gone", "home", "last", "mode", "other", "own", "seconds", "step", "second", "now", "one", "why", "row"]
theorem sc26 : FnScope N26 ["script"] (defScope st26) := ⟨rfl, rfl, rfl, by decide +kernel, rfl, by decide +kernel, by decide +kernel⟩
include Z
theorem xk0 : ∀ X : Cx, X.K = K → X.mg = mg → XOk X (TBo C cP) 0 "LiftFault" := fun X e1 e2 => ⟨e1 ▸ Z.xe0, e2 ▸ Z.xm0, e1 ▸ Z.xk0, e1 ▸ Z.xs0, e1 ▸ Z.xt0⟩
theorem xk1 : ∀ X : Cx, X.K = K → X.mg = mg → XOk X (TBo C cP) 1 "ModeError" := fun X e1 e2 => ⟨e1 ▸ Z.xe1, e2 ▸ Z.xm1, e1 ▸ Z.xk1, e1 ▸ Z.xs1, e1 ▸ Z.xt1⟩
theorem cf2 : CF K (TBo C cP) 2 := ⟨Z.cl2, by show (flds 2).Nodup; decide +kernel, by show (flds 2).length ≤ 100; decide⟩
abbrev ft_burns : List (Nat × Nat) := [(2, 4)]
theorem ftab_burns : FTab K (TBo C cP) "burns" ft_burns := (FTab.one rfl (cf2 Z) Z.na2_burns)
abbrev ft_home : List (Nat × Nat) := [(2, 2)]
theorem ftab_home : FTab K (TBo C cP) "home" ft_home := (FTab.one rfl (cf2 Z) Z.na2_home)
abbrev ft_mode : List (Nat × Nat) := [(2, 0)]
theorem ftab_mode : FTab K (TBo C cP) "mode" ft_mode := (FTab.one rfl (cf2 Z) Z.na2_mode)
abbrev ft_moves : List (Nat × Nat) := [(2, 5)]
theorem ftab_moves : FTab K (TBo C cP) "moves" ft_moves := (FTab.one rfl (cf2 Z) Z.na2_moves)
abbrev ft_now : List (Nat × Nat) := [(2, 6)]
theorem ftab_now : FTab K (TBo C cP) "now" ft_now := (FTab.one rfl (cf2 Z) Z.na2_now)
abbrev ft_other : List (Nat × Nat) := [(2, 3)]
theorem ftab_other : FTab K (TBo C cP) "other" ft_other := (FTab.one rfl (cf2 Z) Z.na2_other)
abbrev ft_place : List (Nat × Nat) := [(2, 1)]
theorem ftab_place : FTab K (TBo C cP) "place" ft_place := (FTab.one rfl (cf2 Z) Z.na2_place)
theorem gs_MODES (H : Hp) : SqT K H (g 0) (ss_MODES.map fun s => V.str ⟨s.toArray⟩) := by obtain ⟨o, its, n, h1, h2, h3, h4, h5, h6⟩ := Z.go_MODES; exact .inr ⟨o, its, n, h1, h2, h4, h5, h6⟩
theorem gk_MODES : ∃ o, K.lookup (g 0) = some o ∧ o.cls = .type "tuple" ∧ o.dict = none := by obtain ⟨o, its, n, h1, h2, h3, h4, h5, h6⟩ := Z.go_MODES; exact ⟨o, h1, h2, h3⟩
theorem gr_MODES : RelV (.ref (g 0)) (.ref (g 0)) := rfl
theorem gq_MODES (F : Hp) (ρ : List Addr) : Rep K F ρ c_MODES (.ref (g 0)) := .tup _ _ _ (gs_MODES Z F) (.cons _ _ _ _ (.str _) (.cons _ _ _ _ (.str _) (.cons _ _ _ _ (.str _) (.cons _ _ _ _ (.str _) (.cons _ _ _ _ (.str _) (.cons _ _ _ _ (.str _) (.nil)))))))
theorem tx14 (B : Bx base mg cc cP) {X : Cx} (h1 : X.base = base := by rfl) (h2 : X.mg = mg := by rfl) (h3 : X.env.code = .ref (cc 0) := by rfl) : TabX X (TBo C cP).T (cc 0) (cP 0) (fun _ _ => "Mode.seconds_in.<locals>.<genexpr>") := ⟨by rw [h1, h2]; exact B.t0, h3, by simp only [TBo, List.mem_cons, eq_self, true_or, or_true], by
  intro p hp e
  simp only [TBo, List.mem_cons, List.not_mem_nil, or_false] at hp
  rcases hp with rfl | rfl | rfl | rfl | rfl
  · rfl
  · exact absurd e (Ne.symm Z.nP0_1)
  · exact absurd e (Ne.symm Z.nP0_2)
  · exact absurd e (Ne.symm Z.nP0_3)
  · exact absurd e (Ne.symm Z.nP0_4)
  ⟩
theorem tx17 (B : Bx base mg cc cP) {X : Cx} (h1 : X.base = base := by rfl) (h2 : X.mg = mg := by rfl) (h3 : X.env.code = .ref (cc 1) := by rfl) : TabX X (TBo C cP).T (cc 1) (cP 1) (fun _ _ => "Mode.move_lines.<locals>.<genexpr>") := ⟨by rw [h1, h2]; exact B.t1, h3, by simp only [TBo, List.mem_cons, eq_self, true_or, or_true], by
  intro p hp e
  simp only [TBo, List.mem_cons, List.not_mem_nil, or_false] at hp
  rcases hp with rfl | rfl | rfl | rfl | rfl
  · exact absurd e Z.nP0_1
  · rfl
  · exact absurd e (Ne.symm Z.nP1_2)
  · exact absurd e (Ne.symm Z.nP1_3)
  · exact absurd e (Ne.symm Z.nP1_4)
  ⟩
theorem tx25 (B : Bx base mg cc cP) {X : Cx} (h1 : X.base = base := by rfl) (h2 : X.mg = mg := by rfl) (h3 : X.env.code = .ref (cc 2) := by rfl) : TabX X (TBo C cP).T (cc 2) (cP 2) (fun _ _ => "_law_plain.<locals>.<lambda>") := ⟨by rw [h1, h2]; exact B.t2, h3, by simp only [TBo, List.mem_cons, eq_self, true_or, or_true], by
  intro p hp e
  simp only [TBo, List.mem_cons, List.not_mem_nil, or_false] at hp
  rcases hp with rfl | rfl | rfl | rfl | rfl
  · exact absurd e Z.nP0_2
  · exact absurd e Z.nP1_2
  · rfl
  · exact absurd e (Ne.symm Z.nP2_3)
  · exact absurd e (Ne.symm Z.nP2_4)
  ⟩
theorem tx24 (B : Bx base mg cc cP) {X : Cx} (h1 : X.base = base := by rfl) (h2 : X.mg = mg := by rfl) (h3 : X.env.code = .ref (cc 3) := by rfl) : TabX X (TBo C cP).T (cc 3) (cP 3) (fun _ _ => "_law_deed.<locals>.<lambda>") := ⟨by rw [h1, h2]; exact B.t3, h3, by simp only [TBo, List.mem_cons, eq_self, true_or, or_true], by
  intro p hp e
  simp only [TBo, List.mem_cons, List.not_mem_nil, or_false] at hp
  rcases hp with rfl | rfl | rfl | rfl | rfl
  · exact absurd e Z.nP0_3
  · exact absurd e Z.nP1_3
  · exact absurd e Z.nP2_3
  · rfl
  · exact absurd e (Ne.symm Z.nP3_4)
  ⟩
theorem tx26 (B : Bx base mg cc cP) {X : Cx} (h1 : X.base = base := by rfl) (h2 : X.mg = mg := by rfl) (h3 : X.env.code = .ref (cc 4) := by rfl) : TabX X (TBo C cP).T (cc 4) (cP 4) (fun _ _ => "law.<locals>.<lambda>") := ⟨by rw [h1, h2]; exact B.t4, h3, by simp only [TBo, List.mem_cons, eq_self, true_or, or_true], by
  intro p hp e
  simp only [TBo, List.mem_cons, List.not_mem_nil, or_false] at hp
  rcases hp with rfl | rfl | rfl | rfl | rfl
  · exact absurd e Z.nP0_4
  · exact absurd e Z.nP1_4
  · exact absurd e Z.nP2_4
  · exact absurd e Z.nP3_4
  · rfl
  ⟩
/-! _law_dice -/
def b_law_dice : SM := mSeq (mIf (mBool (mChain (fLt) (fLt) (mOp2 fSub (mC (.int 0)) (mC (.int 10))) (mVar 0) (mC (.int 10)))) (mRet (mLstR (mCons (mApp fAbs (mCons (mVar 0) (mNil))) (mCons (mC (.int 0)) (mCons (mC (.int 2)) (mNil)))))) (mSkip)) (mRet (mLstR (mCons (mVar 0) (mCons (mOp2 fAdd (mC (.int 1)) (mOp2 fMod (mApp fInt (mCons (mVar 0) (mNil))) (mC (.int 1009)))) (mCons (mApp fInt (mCons (mOp2 (fGe) (mVar 0) (mOp2 fPow (mC (.int 10)) (mC (.int 18)))) (mNil))) (mNil))))))
def g_law_dice : FnM := mBody 1 b_law_dice
theorem ok18 (B : Bx base mg cc cP) : CallOk P w K mg base (TBo C cP) 1 (f 18) 1 g_law_dice := by
  refine CallOk.of (ps := ["cell"]) (fn_ok Z.F18 sc18 rfl fun cdv A outer s H E hr => ?_) Z.b18
  have hN : N18.Nodup := sc18.nd
  have hu := hr.units
  have tk := takes_of (X := cxOf (L2.CX P w) P w K mg base N18 "_law_dice" (defScope st18) (f 18) cdv A outer s H E) rfl rfl rfl rfl
  exact (mS_cons (mS_if (mT_chain op_lt op_lt op2_lt op2_lt (mE_op op_sub op2_sub mE_int mE_int) (mE_var 0) mE_int) (mS_one (mS_ret (mE_lstR (mA_cons (mE_callB call_abs opn_abs Z.bi_abs (mA_cons (mE_var 0) mA_nil)) (mA_cons mE_int (mA_cons mE_int mA_nil))) (Len.cons (Len.cons (Len.cons Len.nil)))))) mS_skip) (mS_one (mS_ret (mE_lstR (mA_cons (mE_var 0) (mA_cons (mE_op opr_add op2_add mE_int (mE_op op_modN op2_mod (mE_callTy call_int1 opn_int Z.bi_int (mA_cons (mE_var 0) mA_nil)) mE_int)) (mA_cons (mE_callTy call_int1 opn_int Z.bi_int (mA_cons (mE_cmp op_ge op2_ge (mE_var 0) (mE_op op_pow op2_pow mE_int mE_int)) mA_nil)) mA_nil))) (Len.cons (Len.cons (Len.cons Len.nil)))))))
/-! _law_rounds -/
def b_law_rounds_c0 : EM := mLC (mIV (mVar 2)) [3] (gN 3) (mYes) (mCall g_law_dice (mCons (mVar 3) (mNil)))
def b_law_rounds : SM := mSeq (mSet 2 (mSl (mVar 0) (mNoP) (mPt (mVar 1)))) (mSeq (mIf (mBool (mOp2 (fEqG false) (mVar 2) (mLst (mNil)))) (mSet 2 (mLst (mCons (mC (.int 0)) (mNil)))) (mSkip)) (mRet (b_law_rounds_c0)))
def g_law_rounds : FnM := mBody 4 b_law_rounds
theorem ok20 (B : Bx base mg cc cP) : CallOk P w K mg base (TBo C cP) 2 (f 20) 2 g_law_rounds := by
  refine CallOk.of (ps := ["script", "most"]) (fn_ok Z.F20 sc20 rfl fun cdv A outer s H E hr => ?_) Z.b20
  have hN : N20.Nodup := sc20.nd
  have hu := hr.units
  have tk := takes_of (X := cxOf (L2.CX P w) P w K mg base N20 "_law_rounds" (defScope st20) (f 20) cdv A outer s H E) rfl rfl rfl rfl
  exact (mS_cons (mS_set 2 (mE_sl (mE_var 0) mO_none (mO_some (mE_var 1))) hN) (mS_cons (mS_if (mT_cmp (opr_eqP hu) op2_eqG (mE_var 2) (mE_lst mA_nil Len.nil)) (mS_one (mS_set 2 (mE_lst (mA_cons mE_int mA_nil) (Len.cons Len.nil)) hN)) mS_skip) (mS_one (mS_ret (mE_lc (own := [("cell", 3)]) hN (mI_val (mE_var 2)) (blkOk_by (by show blkC N20 (defScope st20) _ _ = true; decide +kernel)) (fun _ _ _ _ _ => (mG_name 3 [3] hN)) (fun _ _ _ _ _ => mT_yes) (fun _ _ _ _ _ => (mE_call (ok18 Z B) (hr.mono (by decide)) Z.mg18 Z.kp18 takes0 (mA_cons (mE_var 3) mA_nil) (Len.cons Len.nil))))))))
/-! Mode.__init__ -/
def b_Mode_init : SM := mSeq (mIf (mOr (mBool (mOp2 (fLt) (mApp fMin3 (mCons (mVar 1) (mCons (mVar 2) (mCons (mVar 3) (mNil))))) (mC (.int 0)))) (mBool (mOp2 (fEqG false) (mVar 2) (mVar 3)))) (mRaise 1) (mSkip)) (mSeq (mSetFld ft_mode (mVar 0) (mC (.str [110, 111, 114, 109, 97, 108]))) (mSeq (mSetFld ft_place (mVar 0) (mVar 1)) (mSeq (mSetFld ft_home (mVar 0) (mVar 2)) (mSeq (mSetFld ft_other (mVar 0) (mVar 3)) (mSeq (mSetFld ft_burns (mVar 0) (mC (.str []))) (mSeq (mSetFld ft_moves (mVar 0) (mLstR (mNil))) (mSetFld ft_now (mVar 0) (mC (.int 0)))))))))
def g_Mode_init : FnM := mBody 4 b_Mode_init
theorem ok0 (B : Bx base mg cc cP) : CallOk P w K mg base (TBo C cP) 1 (f 0) 4 g_Mode_init := by
  refine CallOk.of (ps := ["self", "place", "home", "other"]) (fn_ok Z.F0 sc0 rfl fun cdv A outer s H E hr => ?_) Z.b0
  have hN : N0.Nodup := sc0.nd
  have hu := hr.units
  have tk := takes_of (X := cxOf (L2.CX P w) P w K mg base N0 "Mode.__init__" (defScope st0) (f 0) cdv A outer s H E) rfl rfl rfl rfl
  exact (mS_cons (mS_if (PW.pt (mT_or (mT_cmp op_lt op2_lt (mE_callB (call_min3Nu rfl) opn_min3 Z.bi_min (mA_cons (mE_var 1) (mA_cons (mE_var 2) (mA_cons (mE_var 3) mA_nil)))) mE_int) (pw_or1 (mT_cmp (opr_eqP hu) op2_eqG (mE_var 2) (mE_var 3))))) (mS_one (mS_raise (xk1 Z _ rfl rfl) tk)) mS_skip) (mS_cons (mS_fld (ftab_mode Z) (mE_var 0) (mE_str [110, 111, 114, 109, 97, 108])) (mS_cons (mS_fld (ftab_place Z) (mE_var 0) (mE_var 1)) (mS_cons (mS_fld (ftab_home Z) (mE_var 0) (mE_var 2)) (mS_cons (mS_fld (ftab_other Z) (mE_var 0) (mE_var 3)) (mS_cons (mS_fld (ftab_burns Z) (mE_var 0) (mE_str [])) (mS_cons (mS_fld (ftab_moves Z) (mE_var 0) (mE_lstR mA_nil Len.nil)) (mS_one (mS_fld (ftab_now Z) (mE_var 0) mE_int)))))))))
/-! Mode.check_second -/
def b_Mode_check_second : SM := mIf (mOr (mBool (mOp2 (fLt) (mVar 1) (mFld ft_now (mVar 0)))) (mBool (mOp2 (fGe) (mApp fLen (mCons (mFld ft_moves (mVar 0)) (mNil))) (mC c_MOST_MOVES)))) (mRaise 1) (mSkip)
def g_Mode_check_second : FnM := mBody 2 b_Mode_check_second
theorem ok1 (B : Bx base mg cc cP) : CallOk P w K mg base (TBo C cP) 1 (f 1) 2 g_Mode_check_second := by
  refine CallOk.of (ps := ["self", "now"]) (fn_ok Z.F1 sc1 rfl fun cdv A outer s H E hr => ?_) Z.b1
  have hN : N1.Nodup := sc1.nd
  have hu := hr.units
  have tk := takes_of (X := cxOf (L2.CX P w) P w K mg base N1 "Mode.check_second" (defScope st1) (f 1) cdv A outer s H E) rfl rfl rfl rfl
  exact (mS_one (mS_if (PW.pt (mT_or (mT_cmp op_lt op2_lt (mE_var 1) (mE_fld (ftab_now Z) (mE_var 0))) (pw_or1 (mT_cmp op_ge op2_ge (mE_callB cr_len opn_len Z.bi_len (mA_cons (mE_fld (ftab_moves Z) (mE_var 0)) mA_nil)) (mE_globI Z.gm_MOST_MOVES))))) (mS_one (mS_raise (xk1 Z _ rfl rfl) tk)) mS_skip))
/-! Mode.change_to -/
def b_Mode_change_to : SM := mSeq (mSetFld ft_now (mVar 0) (mVar 3)) (mSeq (mSetFld ft_mode (mVar 0) (mVar 1)) (mExp (mBm isLR fAppend (mFld ft_moves (mVar 0)) (mCons (mTup (mCons (mVar 3) (mCons (mVar 1) (mCons (mVar 2) (mNil))))) (mNil)))))
def g_Mode_change_to : FnM := mBody 4 b_Mode_change_to
theorem ok2 (B : Bx base mg cc cP) : CallOk P w K mg base (TBo C cP) 1 (f 2) 4 g_Mode_change_to := by
  refine CallOk.of (ps := ["self", "mode", "why", "now"]) (fn_ok Z.F2 sc2 rfl fun cdv A outer s H E hr => ?_) Z.b2
  have hN : N2.Nodup := sc2.nd
  have hu := hr.units
  have tk := takes_of (X := cxOf (L2.CX P w) P w K mg base N2 "Mode.change_to" (defScope st2) (f 2) cdv A outer s H E) rfl rfl rfl rfl
  exact (mS_cons (mS_fld (ftab_now Z) (mE_var 0) (mE_var 3)) (mS_cons (mS_fld (ftab_mode Z) (mE_var 0) (mE_var 1)) (mS_one (mS_exp (mE_bm PySem.F.plainAttrs_list PySem.F.slot_list_append PySem.F.type_list_append mt_append ty_list opm_append (mE_fld (ftab_moves Z) (mE_var 0)) (mA_cons (mE_tup (mA_cons (mE_var 3) (mA_cons (mE_var 1) (mA_cons (mE_var 2) mA_nil))) (Len.cons (Len.cons (Len.cons Len.nil)))) mA_nil))))))
/-! Mode.take_care -/
def b_Mode_take_care : SM := mSeq (mExp (mMeth [(2, g_Mode_check_second)] (mVar 0) (mCons (mVar 1) (mNil)))) (mSeq (mIf (mBool (mOp2 (fInG false) (mFld ft_mode (mVar 0)) (mTup (mCons (mC (.str [102, 105, 114, 101])) (mCons (mC (.str [114, 101, 99, 97, 108, 108])) (mCons (mC (.str [99, 97, 114, 101])) (mNil))))))) (mRaise 1) (mSkip)) (mExp (mMeth [(2, g_Mode_change_to)] (mVar 0) (mCons (mC (.str [99, 97, 114, 101])) (mCons (mC (.str [99, 97, 114, 101])) (mCons (mVar 1) (mNil)))))))
def g_Mode_take_care : FnM := mBody 2 b_Mode_take_care
theorem ok10 (B : Bx base mg cc cP) : CallOk P w K mg base (TBo C cP) 2 (f 10) 2 g_Mode_take_care := by
  refine CallOk.of (ps := ["self", "now"]) (fn_ok Z.F10 sc10 rfl fun cdv A outer s H E hr => ?_) Z.b10
  have hN : N10.Nodup := sc10.nd
  have hu := hr.units
  have tk := takes_of (X := cxOf (L2.CX P w) P w K mg base N10 "Mode.take_care" (defScope st10) (f 10) cdv A outer s H E) rfl rfl rfl rfl
  exact (mS_cons (mS_exp (mE_meth (MTab.one (cf2 Z) (nf_2_check_second) Z.me1 (ok1 Z B)) (hr.mono (by decide)) tk (mE_var 0) (mA_cons (mE_var 1) mA_nil) (Len.cons Len.nil))) (mS_cons (mS_if (mT_cmp (opr_in hu) op2_inG (mE_fld (ftab_mode Z) (mE_var 0)) (mE_tup (mA_cons (mE_str [102, 105, 114, 101]) (mA_cons (mE_str [114, 101, 99, 97, 108, 108]) (mA_cons (mE_str [99, 97, 114, 101]) mA_nil))) (Len.cons (Len.cons (Len.cons Len.nil))))) (mS_one (mS_raise (xk1 Z _ rfl rfl) tk)) mS_skip) (mS_one (mS_exp (mE_meth (MTab.one (cf2 Z) (nf_2_change_to) Z.me2 (ok2 Z B)) (hr.mono (by decide)) tk (mE_var 0) (mA_cons (mE_str [99, 97, 114, 101]) (mA_cons (mE_str [99, 97, 114, 101]) (mA_cons (mE_var 1) mA_nil))) (Len.cons (Len.cons (Len.cons Len.nil))))))))
/-! Mode.give_back -/
def b_Mode_give_back : SM := mSeq (mExp (mMeth [(2, g_Mode_check_second)] (mVar 0) (mCons (mVar 1) (mNil)))) (mSeq (mIf (mBool (mOp2 (fInG true) (mFld ft_mode (mVar 0)) (mTup (mCons (mC (.str [111, 119, 110])) (mCons (mC (.str [99, 97, 114, 101])) (mNil)))))) (mRaise 1) (mSkip)) (mExp (mMeth [(2, g_Mode_change_to)] (mVar 0) (mCons (mIfE (mBool (mOp2 (fEqG true) (mFld ft_burns (mVar 0)) (mC (.str [])))) (mC (.str [114, 101, 99, 97, 108, 108])) (mC (.str [110, 111, 114, 109, 97, 108]))) (mCons (mC (.str [98, 97, 99, 107])) (mCons (mVar 1) (mNil)))))))
def g_Mode_give_back : FnM := mBody 2 b_Mode_give_back
theorem ok9 (B : Bx base mg cc cP) : CallOk P w K mg base (TBo C cP) 2 (f 9) 2 g_Mode_give_back := by
  refine CallOk.of (ps := ["self", "now"]) (fn_ok Z.F9 sc9 rfl fun cdv A outer s H E hr => ?_) Z.b9
  have hN : N9.Nodup := sc9.nd
  have hu := hr.units
  have tk := takes_of (X := cxOf (L2.CX P w) P w K mg base N9 "Mode.give_back" (defScope st9) (f 9) cdv A outer s H E) rfl rfl rfl rfl
  exact (mS_cons (mS_exp (mE_meth (MTab.one (cf2 Z) (nf_2_check_second) Z.me1 (ok1 Z B)) (hr.mono (by decide)) tk (mE_var 0) (mA_cons (mE_var 1) mA_nil) (Len.cons Len.nil))) (mS_cons (mS_if (mT_cmp (opr_notIn hu) op2_inG (mE_fld (ftab_mode Z) (mE_var 0)) (mE_tup (mA_cons (mE_str [111, 119, 110]) (mA_cons (mE_str [99, 97, 114, 101]) mA_nil)) (Len.cons (Len.cons Len.nil)))) (mS_one (mS_raise (xk1 Z _ rfl rfl) tk)) mS_skip) (mS_one (mS_exp (mE_meth (MTab.one (cf2 Z) (nf_2_change_to) Z.me2 (ok2 Z B)) (hr.mono (by decide)) tk (mE_var 0) (mA_cons (mE_ifE (mT_cmp (opr_neP hu) op2_eqG (mE_fld (ftab_burns Z) (mE_var 0)) (mE_str [])) (mE_str [114, 101, 99, 97, 108, 108]) (mE_str [110, 111, 114, 109, 97, 108])) (mA_cons (mE_str [98, 97, 99, 107]) (mA_cons (mE_var 1) mA_nil))) (Len.cons (Len.cons (Len.cons Len.nil))))))))
/-! Mode.put_alarm -/
def b_Mode_put_alarm : SM := mSeq (mExp (mMeth [(2, g_Mode_check_second)] (mVar 0) (mCons (mVar 2) (mNil)))) (mSeq (mIf (mOr (mBool (mOp2 (fLt) (mVar 1) (mC (.int 0)))) (mBool (mOp2 (fEqG true) (mFld ft_burns (mVar 0)) (mC (.str []))))) (mRaise 1) (mSkip)) (mSeq (mSetFld ft_burns (mVar 0) (mApp fStr (mCons (mVar 1) (mNil)))) (mSeq (mIf (mBool (mOp2 (fInG false) (mFld ft_mode (mVar 0)) (mTup (mCons (mC (.str [110, 111, 114, 109, 97, 108])) (mCons (mC (.str [111, 119, 110])) (mNil)))))) (mExp (mMeth [(2, g_Mode_change_to)] (mVar 0) (mCons (mC (.str [114, 101, 99, 97, 108, 108])) (mCons (mJs [mC (.str [102, 105, 114, 101, 32, 97, 116, 32]), mFmt (mVar 1)] []) (mCons (mVar 2) (mNil)))))) (mSkip)) (mSetFld ft_now (mVar 0) (mVar 2)))))
def g_Mode_put_alarm : FnM := mBody 3 b_Mode_put_alarm
theorem ok3 (B : Bx base mg cc cP) : CallOk P w K mg base (TBo C cP) 2 (f 3) 3 g_Mode_put_alarm := by
  refine CallOk.of (ps := ["self", "place", "now"]) (fn_ok Z.F3 sc3 rfl fun cdv A outer s H E hr => ?_) Z.b3
  have hN : N3.Nodup := sc3.nd
  have hu := hr.units
  have tk := takes_of (X := cxOf (L2.CX P w) P w K mg base N3 "Mode.put_alarm" (defScope st3) (f 3) cdv A outer s H E) rfl rfl rfl rfl
  exact (mS_cons (mS_exp (mE_meth (MTab.one (cf2 Z) (nf_2_check_second) Z.me1 (ok1 Z B)) (hr.mono (by decide)) tk (mE_var 0) (mA_cons (mE_var 2) mA_nil) (Len.cons Len.nil))) (mS_cons (mS_if (PW.pt (mT_or (mT_cmp op_lt op2_lt (mE_var 1) mE_int) (pw_or1 (mT_cmp (opr_neP hu) op2_eqG (mE_fld (ftab_burns Z) (mE_var 0)) (mE_str []))))) (mS_one (mS_raise (xk1 Z _ rfl rfl) tk)) mS_skip) (mS_cons (mS_fld (ftab_burns Z) (mE_var 0) (mE_callTy call_str_int opn_str Z.bi_str (mA_cons (mE_var 1) mA_nil))) (mS_cons (mS_if (mT_cmp (opr_in hu) op2_inG (mE_fld (ftab_mode Z) (mE_var 0)) (mE_tup (mA_cons (mE_str [110, 111, 114, 109, 97, 108]) (mA_cons (mE_str [111, 119, 110]) mA_nil)) (Len.cons (Len.cons Len.nil)))) (mS_one (mS_exp (mE_meth (MTab.one (cf2 Z) (nf_2_change_to) Z.me2 (ok2 Z B)) (hr.mono (by decide)) tk (mE_var 0) (mA_cons (mE_str [114, 101, 99, 97, 108, 108]) (mA_cons (mE_joined (PJm.cons (mE_str [102, 105, 114, 101, 32, 97, 116, 32]) (PJm.cons (mE_fmt (mE_var 1)) PJm.nil))) (mA_cons (mE_var 2) mA_nil))) (Len.cons (Len.cons (Len.cons Len.nil)))))) mS_skip) (mS_one (mS_fld (ftab_now Z) (mE_var 0) (mE_var 2)))))))
/-! Mode.goal_now -/
def b_Mode_goal_now : SM := mSeq (mIf (mBool (mOp2 (fEqG true) (mFld ft_mode (mVar 0)) (mC (.str [114, 101, 99, 97, 108, 108])))) (mRet (mC .non)) (mSkip)) (mRet (mIfE (mBool (mOp2 (fEqG false) (mFld ft_burns (mVar 0)) (mApp fStr (mCons (mFld ft_home (mVar 0)) (mNil))))) (mFld ft_other (mVar 0)) (mFld ft_home (mVar 0))))
def g_Mode_goal_now : FnM := mBody 1 b_Mode_goal_now
theorem ok4 (B : Bx base mg cc cP) : CallOk P w K mg base (TBo C cP) 1 (f 4) 1 g_Mode_goal_now := by
  refine CallOk.of (ps := ["self"]) (fn_ok Z.F4 sc4 rfl fun cdv A outer s H E hr => ?_) Z.b4
  have hN : N4.Nodup := sc4.nd
  have hu := hr.units
  have tk := takes_of (X := cxOf (L2.CX P w) P w K mg base N4 "Mode.goal_now" (defScope st4) (f 4) cdv A outer s H E) rfl rfl rfl rfl
  exact (mS_cons (mS_if (mT_cmp (opr_neP hu) op2_eqG (mE_fld (ftab_mode Z) (mE_var 0)) (mE_str [114, 101, 99, 97, 108, 108])) (mS_one (mS_ret mE_non)) mS_skip) (mS_one (mS_ret (mE_ifE (mT_cmp (opr_eqP hu) op2_eqG (mE_fld (ftab_burns Z) (mE_var 0)) (mE_callTy call_str_int opn_str Z.bi_str (mA_cons (mE_fld (ftab_home Z) (mE_var 0)) mA_nil))) (mE_fld (ftab_other Z) (mE_var 0)) (mE_fld (ftab_home Z) (mE_var 0))))))
/-! Mode.arrive_at -/
def b_Mode_arrive_at : SM := mSeq (mExp (mMeth [(2, g_Mode_check_second)] (mVar 0) (mCons (mVar 2) (mNil)))) (mSeq (mIf (mOr (mBool (mOp2 (fLt) (mVar 1) (mC (.int 0)))) (mBool (mOp2 (fInG false) (mFld ft_mode (mVar 0)) (mTup (mCons (mC (.str [111, 117, 116])) (mCons (mC (.str [99, 97, 114, 101])) (mNil))))))) (mRaise 1) (mSkip)) (mSeq (mSetFld ft_now (mVar 0) (mVar 2)) (mSetFld ft_place (mVar 0) (mVar 1))))
def g_Mode_arrive_at : FnM := mBody 3 b_Mode_arrive_at
theorem ok5 (B : Bx base mg cc cP) : CallOk P w K mg base (TBo C cP) 2 (f 5) 3 g_Mode_arrive_at := by
  refine CallOk.of (ps := ["self", "place", "now"]) (fn_ok Z.F5 sc5 rfl fun cdv A outer s H E hr => ?_) Z.b5
  have hN : N5.Nodup := sc5.nd
  have hu := hr.units
  have tk := takes_of (X := cxOf (L2.CX P w) P w K mg base N5 "Mode.arrive_at" (defScope st5) (f 5) cdv A outer s H E) rfl rfl rfl rfl
  exact (mS_cons (mS_exp (mE_meth (MTab.one (cf2 Z) (nf_2_check_second) Z.me1 (ok1 Z B)) (hr.mono (by decide)) tk (mE_var 0) (mA_cons (mE_var 2) mA_nil) (Len.cons Len.nil))) (mS_cons (mS_if (PW.pt (mT_or (mT_cmp op_lt op2_lt (mE_var 1) mE_int) (pw_or1 (mT_cmp (opr_in hu) op2_inG (mE_fld (ftab_mode Z) (mE_var 0)) (mE_tup (mA_cons (mE_str [111, 117, 116]) (mA_cons (mE_str [99, 97, 114, 101]) mA_nil)) (Len.cons (Len.cons Len.nil))))))) (mS_one (mS_raise (xk1 Z _ rfl rfl) tk)) mS_skip) (mS_cons (mS_fld (ftab_now Z) (mE_var 0) (mE_var 2)) (mS_one (mS_fld (ftab_place Z) (mE_var 0) (mE_var 1))))))
/-! Mode.turn_key -/
def b_Mode_turn_key : SM := mSeq (mExp (mMeth [(2, g_Mode_check_second)] (mVar 0) (mCons (mVar 1) (mNil)))) (mIf (mAnd (mBool (mOp2 (fEqG false) (mFld ft_mode (mVar 0)) (mC (.str [114, 101, 99, 97, 108, 108])))) (mBool (mOp2 (fEqG false) (mFld ft_place (mVar 0)) (mMeth [(2, g_Mode_goal_now)] (mVar 0) mNil)))) (mExp (mMeth [(2, g_Mode_change_to)] (mVar 0) (mCons (mC (.str [102, 105, 114, 101])) (mCons (mC (.str [107, 101, 121])) (mCons (mVar 1) (mNil)))))) (mIf (mAnd (mBool (mOp2 (fEqG false) (mFld ft_mode (mVar 0)) (mC (.str [102, 105, 114, 101])))) (mBool (mOp2 (fInG false) (mFld ft_place (mVar 0)) (mTup (mCons (mFld ft_home (mVar 0)) (mCons (mFld ft_other (mVar 0)) (mNil))))))) (mExp (mMeth [(2, g_Mode_change_to)] (mVar 0) (mCons (mC (.str [114, 101, 99, 97, 108, 108])) (mCons (mC (.str [107, 101, 121])) (mCons (mVar 1) (mNil)))))) (mRaise 1)))
def g_Mode_turn_key : FnM := mBody 2 b_Mode_turn_key
theorem ok6 (B : Bx base mg cc cP) : CallOk P w K mg base (TBo C cP) 2 (f 6) 2 g_Mode_turn_key := by
  refine CallOk.of (ps := ["self", "now"]) (fn_ok Z.F6 sc6 rfl fun cdv A outer s H E hr => ?_) Z.b6
  have hN : N6.Nodup := sc6.nd
  have hu := hr.units
  have tk := takes_of (X := cxOf (L2.CX P w) P w K mg base N6 "Mode.turn_key" (defScope st6) (f 6) cdv A outer s H E) rfl rfl rfl rfl
  exact (mS_cons (mS_exp (mE_meth (MTab.one (cf2 Z) (nf_2_check_second) Z.me1 (ok1 Z B)) (hr.mono (by decide)) tk (mE_var 0) (mA_cons (mE_var 1) mA_nil) (Len.cons Len.nil))) (mS_one (mS_if (PW.pt (mT_and (mT_cmp (opr_eqP hu) op2_eqG (mE_fld (ftab_mode Z) (mE_var 0)) (mE_str [114, 101, 99, 97, 108, 108])) (pw_and1 (mT_cmp (opr_eqP hu) op2_eqG (mE_fld (ftab_place Z) (mE_var 0)) (mE_meth0 (MTab.one (cf2 Z) (nf_2_goal_now) Z.me4 (ok4 Z B)) (hr.mono (by decide)) tk (mE_var 0)))))) (mS_one (mS_exp (mE_meth (MTab.one (cf2 Z) (nf_2_change_to) Z.me2 (ok2 Z B)) (hr.mono (by decide)) tk (mE_var 0) (mA_cons (mE_str [102, 105, 114, 101]) (mA_cons (mE_str [107, 101, 121]) (mA_cons (mE_var 1) mA_nil))) (Len.cons (Len.cons (Len.cons Len.nil)))))) (mS_one (mS_if (PW.pt (mT_and (mT_cmp (opr_eqP hu) op2_eqG (mE_fld (ftab_mode Z) (mE_var 0)) (mE_str [102, 105, 114, 101])) (pw_and1 (mT_cmp (opr_in hu) op2_inG (mE_fld (ftab_place Z) (mE_var 0)) (mE_tup (mA_cons (mE_fld (ftab_home Z) (mE_var 0)) (mA_cons (mE_fld (ftab_other Z) (mE_var 0)) mA_nil)) (Len.cons (Len.cons Len.nil))))))) (mS_one (mS_exp (mE_meth (MTab.one (cf2 Z) (nf_2_change_to) Z.me2 (ok2 Z B)) (hr.mono (by decide)) tk (mE_var 0) (mA_cons (mE_str [114, 101, 99, 97, 108, 108]) (mA_cons (mE_str [107, 101, 121]) (mA_cons (mE_var 1) mA_nil))) (Len.cons (Len.cons (Len.cons Len.nil)))))) (mS_one (mS_raise (xk1 Z _ rfl rfl) tk)))))))
/-! Mode.takes_calls -/
def b_Mode_takes_calls : SM := mRet (mTup (mCons (mOp2 (fEqG false) (mFld ft_mode (mVar 0)) (mC (.str [110, 111, 114, 109, 97, 108]))) (mCons (mOp2 (fInG false) (mFld ft_mode (mVar 0)) (mTup (mCons (mC (.str [110, 111, 114, 109, 97, 108])) (mCons (mC (.str [111, 119, 110])) (mCons (mC (.str [102, 105, 114, 101])) (mNil)))))) (mNil))))
def g_Mode_takes_calls : FnM := mBody 1 b_Mode_takes_calls
theorem ok12 (B : Bx base mg cc cP) : CallOk P w K mg base (TBo C cP) 1 (f 12) 1 g_Mode_takes_calls := by
  refine CallOk.of (ps := ["self"]) (fn_ok Z.F12 sc12 rfl fun cdv A outer s H E hr => ?_) Z.b12
  have hN : N12.Nodup := sc12.nd
  have hu := hr.units
  have tk := takes_of (X := cxOf (L2.CX P w) P w K mg base N12 "Mode.takes_calls" (defScope st12) (f 12) cdv A outer s H E) rfl rfl rfl rfl
  exact (mS_one (mS_ret (mE_tup (mA_cons (mE_cmp (opr_eqP hu) op2_eqG (mE_fld (ftab_mode Z) (mE_var 0)) (mE_str [110, 111, 114, 109, 97, 108])) (mA_cons (mE_cmp (opr_in hu) op2_inG (mE_fld (ftab_mode Z) (mE_var 0)) (mE_tup (mA_cons (mE_str [110, 111, 114, 109, 97, 108]) (mA_cons (mE_str [111, 119, 110]) (mA_cons (mE_str [102, 105, 114, 101]) mA_nil))) (Len.cons (Len.cons (Len.cons Len.nil))))) mA_nil)) (Len.cons (Len.cons Len.nil)))))
/-! Mode.door_by_itself -/
def b_Mode_door_by_itself : SM := mRet (mOp2 (fInG false) (mFld ft_mode (mVar 0)) (mTup (mCons (mC (.str [110, 111, 114, 109, 97, 108])) (mCons (mC (.str [111, 119, 110])) (mCons (mC (.str [114, 101, 99, 97, 108, 108])) (mNil))))))
def g_Mode_door_by_itself : FnM := mBody 1 b_Mode_door_by_itself
theorem ok13 (B : Bx base mg cc cP) : CallOk P w K mg base (TBo C cP) 1 (f 13) 1 g_Mode_door_by_itself := by
  refine CallOk.of (ps := ["self"]) (fn_ok Z.F13 sc13 rfl fun cdv A outer s H E hr => ?_) Z.b13
  have hN : N13.Nodup := sc13.nd
  have hu := hr.units
  have tk := takes_of (X := cxOf (L2.CX P w) P w K mg base N13 "Mode.door_by_itself" (defScope st13) (f 13) cdv A outer s H E) rfl rfl rfl rfl
  exact (mS_one (mS_ret (mE_cmp (opr_in hu) op2_inG (mE_fld (ftab_mode Z) (mE_var 0)) (mE_tup (mA_cons (mE_str [110, 111, 114, 109, 97, 108]) (mA_cons (mE_str [111, 119, 110]) (mA_cons (mE_str [114, 101, 99, 97, 108, 108]) mA_nil))) (Len.cons (Len.cons (Len.cons Len.nil)))))))
/-! Mode.all_clear -/
def b_Mode_all_clear : SM := mSeq (mExp (mMeth [(2, g_Mode_check_second)] (mVar 0) (mCons (mVar 1) (mNil)))) (mSeq (mIf (mOr (mBool (mOp2 (fEqG false) (mFld ft_burns (mVar 0)) (mC (.str [])))) (mBool (mOp2 (fEqG false) (mFld ft_mode (mVar 0)) (mC (.str [102, 105, 114, 101]))))) (mRaise 1) (mSkip)) (mSeq (mSetFld ft_burns (mVar 0) (mC (.str []))) (mSeq (mIf (mBool (mOp2 (fEqG false) (mFld ft_mode (mVar 0)) (mC (.str [114, 101, 99, 97, 108, 108])))) (mExp (mMeth [(2, g_Mode_change_to)] (mVar 0) (mCons (mC (.str [110, 111, 114, 109, 97, 108])) (mCons (mC (.str [99, 108, 101, 97, 114])) (mCons (mVar 1) (mNil)))))) (mSkip)) (mSetFld ft_now (mVar 0) (mVar 1)))))
def g_Mode_all_clear : FnM := mBody 2 b_Mode_all_clear
theorem ok7 (B : Bx base mg cc cP) : CallOk P w K mg base (TBo C cP) 2 (f 7) 2 g_Mode_all_clear := by
  refine CallOk.of (ps := ["self", "now"]) (fn_ok Z.F7 sc7 rfl fun cdv A outer s H E hr => ?_) Z.b7
  have hN : N7.Nodup := sc7.nd
  have hu := hr.units
  have tk := takes_of (X := cxOf (L2.CX P w) P w K mg base N7 "Mode.all_clear" (defScope st7) (f 7) cdv A outer s H E) rfl rfl rfl rfl
  exact (mS_cons (mS_exp (mE_meth (MTab.one (cf2 Z) (nf_2_check_second) Z.me1 (ok1 Z B)) (hr.mono (by decide)) tk (mE_var 0) (mA_cons (mE_var 1) mA_nil) (Len.cons Len.nil))) (mS_cons (mS_if (PW.pt (mT_or (mT_cmp (opr_eqP hu) op2_eqG (mE_fld (ftab_burns Z) (mE_var 0)) (mE_str [])) (pw_or1 (mT_cmp (opr_eqP hu) op2_eqG (mE_fld (ftab_mode Z) (mE_var 0)) (mE_str [102, 105, 114, 101]))))) (mS_one (mS_raise (xk1 Z _ rfl rfl) tk)) mS_skip) (mS_cons (mS_fld (ftab_burns Z) (mE_var 0) (mE_str [])) (mS_cons (mS_if (mT_cmp (opr_eqP hu) op2_eqG (mE_fld (ftab_mode Z) (mE_var 0)) (mE_str [114, 101, 99, 97, 108, 108])) (mS_one (mS_exp (mE_meth (MTab.one (cf2 Z) (nf_2_change_to) Z.me2 (ok2 Z B)) (hr.mono (by decide)) tk (mE_var 0) (mA_cons (mE_str [110, 111, 114, 109, 97, 108]) (mA_cons (mE_str [99, 108, 101, 97, 114]) (mA_cons (mE_var 1) mA_nil))) (Len.cons (Len.cons (Len.cons Len.nil)))))) mS_skip) (mS_one (mS_fld (ftab_now Z) (mE_var 0) (mE_var 1)))))))
/-! Mode.take_own -/
def b_Mode_take_own : SM := mSeq (mExp (mMeth [(2, g_Mode_check_second)] (mVar 0) (mCons (mVar 1) (mNil)))) (mSeq (mIf (mBool (mOp2 (fEqG true) (mFld ft_mode (mVar 0)) (mC (.str [110, 111, 114, 109, 97, 108])))) (mRaise 1) (mSkip)) (mExp (mMeth [(2, g_Mode_change_to)] (mVar 0) (mCons (mC (.str [111, 119, 110])) (mCons (mC (.str [107, 101, 121])) (mCons (mVar 1) (mNil)))))))
def g_Mode_take_own : FnM := mBody 2 b_Mode_take_own
theorem ok8 (B : Bx base mg cc cP) : CallOk P w K mg base (TBo C cP) 2 (f 8) 2 g_Mode_take_own := by
  refine CallOk.of (ps := ["self", "now"]) (fn_ok Z.F8 sc8 rfl fun cdv A outer s H E hr => ?_) Z.b8
  have hN : N8.Nodup := sc8.nd
  have hu := hr.units
  have tk := takes_of (X := cxOf (L2.CX P w) P w K mg base N8 "Mode.take_own" (defScope st8) (f 8) cdv A outer s H E) rfl rfl rfl rfl
  exact (mS_cons (mS_exp (mE_meth (MTab.one (cf2 Z) (nf_2_check_second) Z.me1 (ok1 Z B)) (hr.mono (by decide)) tk (mE_var 0) (mA_cons (mE_var 1) mA_nil) (Len.cons Len.nil))) (mS_cons (mS_if (mT_cmp (opr_neP hu) op2_eqG (mE_fld (ftab_mode Z) (mE_var 0)) (mE_str [110, 111, 114, 109, 97, 108])) (mS_one (mS_raise (xk1 Z _ rfl rfl) tk)) mS_skip) (mS_one (mS_exp (mE_meth (MTab.one (cf2 Z) (nf_2_change_to) Z.me2 (ok2 Z B)) (hr.mono (by decide)) tk (mE_var 0) (mA_cons (mE_str [111, 119, 110]) (mA_cons (mE_str [107, 101, 121]) (mA_cons (mE_var 1) mA_nil))) (Len.cons (Len.cons (Len.cons Len.nil))))))))
/-! Mode.let_fail -/
def b_Mode_let_fail : SM := mSeq (mExp (mMeth [(2, g_Mode_check_second)] (mVar 0) (mCons (mVar 2) (mNil)))) (mSeq (mIf (mOr (mBool (mOp2 (fEqG false) (mVar 1) (mC (.str [])))) (mBool (mOp2 (fEqG false) (mFld ft_mode (mVar 0)) (mC (.str [111, 117, 116]))))) (mRaise 1) (mSkip)) (mExp (mMeth [(2, g_Mode_change_to)] (mVar 0) (mCons (mC (.str [111, 117, 116])) (mCons (mVar 1) (mCons (mVar 2) (mNil)))))))
def g_Mode_let_fail : FnM := mBody 3 b_Mode_let_fail
theorem ok11 (B : Bx base mg cc cP) : CallOk P w K mg base (TBo C cP) 2 (f 11) 3 g_Mode_let_fail := by
  refine CallOk.of (ps := ["self", "why", "now"]) (fn_ok Z.F11 sc11 rfl fun cdv A outer s H E hr => ?_) Z.b11
  have hN : N11.Nodup := sc11.nd
  have hu := hr.units
  have tk := takes_of (X := cxOf (L2.CX P w) P w K mg base N11 "Mode.let_fail" (defScope st11) (f 11) cdv A outer s H E) rfl rfl rfl rfl
  exact (mS_cons (mS_exp (mE_meth (MTab.one (cf2 Z) (nf_2_check_second) Z.me1 (ok1 Z B)) (hr.mono (by decide)) tk (mE_var 0) (mA_cons (mE_var 2) mA_nil) (Len.cons Len.nil))) (mS_cons (mS_if (PW.pt (mT_or (mT_cmp (opr_eqP hu) op2_eqG (mE_var 1) (mE_str [])) (pw_or1 (mT_cmp (opr_eqP hu) op2_eqG (mE_fld (ftab_mode Z) (mE_var 0)) (mE_str [111, 117, 116]))))) (mS_one (mS_raise (xk1 Z _ rfl rfl) tk)) mS_skip) (mS_one (mS_exp (mE_meth (MTab.one (cf2 Z) (nf_2_change_to) Z.me2 (ok2 Z B)) (hr.mono (by decide)) tk (mE_var 0) (mA_cons (mE_str [111, 117, 116]) (mA_cons (mE_var 1) (mA_cons (mE_var 2) mA_nil))) (Len.cons (Len.cons (Len.cons Len.nil))))))))
/-! Mode.mode_at -/
def b_Mode_mode_at_c0 : EM := mLC (mIV (mFld ft_moves (mVar 0))) [3, 4, 5] (gTp (gC (gN 3) (gC (gN 4) (gC (gN 5) (gZ))))) (mBool (mOp2 (fLe) (mVar 3) (mVar 1))) (mVar 4)
def b_Mode_mode_at : SM := mSeq (mSet 2 (b_Mode_mode_at_c0)) (mRet (mIfE (mBool (mOp2 (fEqG true) (mVar 2) (mLst (mNil)))) (mOp2 fIx (mVar 2) (mOp1 fNeg (mC (.int 1)))) (mC (.str [110, 111, 114, 109, 97, 108]))))
def g_Mode_mode_at : FnM := mBody 6 b_Mode_mode_at
theorem ok15 (B : Bx base mg cc cP) : CallOk P w K mg base (TBo C cP) 1 (f 15) 2 g_Mode_mode_at := by
  refine CallOk.of (ps := ["self", "second"]) (fn_ok Z.F15 sc15 rfl fun cdv A outer s H E hr => ?_) Z.b15
  have hN : N15.Nodup := sc15.nd
  have hu := hr.units
  have tk := takes_of (X := cxOf (L2.CX P w) P w K mg base N15 "Mode.mode_at" (defScope st15) (f 15) cdv A outer s H E) rfl rfl rfl rfl
  exact (mS_cons (mS_lc 2 (own := [("when", 3), ("mode", 4), ("why", 5)]) false hN (mI_val (mE_fld (ftab_moves Z) (mE_var 0))) (blkOk_by (by show blkC N15 (defScope st15) _ _ = true; decide +kernel)) (fun _ _ _ _ _ => (mG_tup (mG_cons (mG_name 3 [3, 4, 5] hN) (mG_cons (mG_name 4 [3, 4, 5] hN) (mG_cons (mG_name 5 [3, 4, 5] hN) (mG_nil [3, 4, 5])))) (gC_len (gC_len (gC_len gZ_len))))) (fun _ _ _ _ _ => (pts_one (mT_cmp op_le op2_le (mE_var 3) (mE_var 1)))) (fun _ _ _ _ _ => (mE_var 4)) (sw_true rfl rfl rfl rfl)) (mS_one (mS_ret (mE_ifE (mT_cmp (opr_neP hu) op2_eqG (mE_var 2) (mE_lst mA_nil Len.nil)) (mE_ix hu (mE_var 2) (mE_un un_neg op1_neg mE_int)) (mE_str [110, 111, 114, 109, 97, 108])))))
/-! Mode.seconds_in -/
def b_Mode_seconds_in_c0 : EM := mLC (mIV (mFld ft_moves (mVar 0))) [6] (gN 6) (mBool (mChain (fLt) (fLt) (mVar 2) (mOp2 fIx (mVar 6) (mC (.int 0))) (mVar 3))) (mSl (mVar 6) (mNoP) (mPt (mC (.int 2))))
def b_Mode_seconds_in_c1 : EM := mGSum (mIA zipV (mCons (mVar 5) (mCons (mSl (mVar 5) (mPt (mC (.int 1))) (mNoP)) (mNil)))) [7, 8] (gTp (gC (gN 7) (gC (gN 8) (gZ)))) (mBool (mOp2 (fEqG false) (mOp2 fIx (mVar 7) (mC (.int 1))) (mVar 1))) (mOp2 fSub (mOp2 fIx (mVar 8) (mC (.int 0))) (mOp2 fIx (mVar 7) (mC (.int 0))))
def b_Mode_seconds_in : SM := mSeq (mIf (mOr (mBool (mOp2 (fInG true) (mVar 1) (mC c_MODES))) (mBool (mOp2 (fLt) (mVar 3) (mVar 2)))) (mRaise 1) (mSkip)) (mSeq (mSet 4 (b_Mode_seconds_in_c0)) (mSeq (mSet 5 (mOp2 fAdd (mOp2 fAdd (mLst (mCons (mTup (mCons (mVar 2) (mCons (mMeth [(2, g_Mode_mode_at)] (mVar 0) (mCons (mVar 2) (mNil))) (mNil)))) (mNil))) (mVar 4)) (mLst (mCons (mTup (mCons (mVar 3) (mCons (mC (.str [])) (mNil)))) (mNil))))) (mRet (b_Mode_seconds_in_c1))))
def g_Mode_seconds_in : FnM := mBody 9 b_Mode_seconds_in
theorem ok14 (B : Bx base mg cc cP) : CallOk P w K mg base (TBo C cP) 6 (f 14) 4 g_Mode_seconds_in := by
  refine CallOk.of (ps := ["self", "mode", "first", "last"]) (fn_okC Z.F14 sc14 rfl fun A outer s H E hr => ?_) Z.b14
  have hN : N14.Nodup := sc14.nd
  have hu := hr.units
  have tk := takes_of (X := cxOf (L2.CX P w) P w K mg base N14 "Mode.seconds_in" (defScope st14) (f 14) (.ref (cc 0)) A outer s H E) rfl rfl rfl rfl
  exact (mS_cons (mS_if (PW.pt (mT_or (mT_cmp (opr_notIn hu) op2_inG (mE_var 1) (mE_glob Z.gm_MODES (gr_MODES Z) (gq_MODES Z))) (pw_or1 (mT_cmp op_lt op2_lt (mE_var 3) (mE_var 2))))) (mS_one (mS_raise (xk1 Z _ rfl rfl) tk)) mS_skip) (mS_cons (mS_lc 4 (own := [("row", 6)]) false hN (mI_val (mE_fld (ftab_moves Z) (mE_var 0))) (blkOk_by (by show blkC N14 (defScope st14) _ _ = true; decide +kernel)) (fun _ _ _ _ _ => (mG_name 6 [6] hN)) (fun _ _ _ _ _ => (pts_one (mT_chain op_lt op_lt op2_lt op2_lt (mE_var 2) (mE_ix hu (mE_var 6) mE_int) (mE_var 3)))) (fun _ _ _ _ _ => (mE_sl (mE_var 6) mO_none (mO_some mE_int))) (sw_true rfl rfl rfl rfl)) (mS_cons (mS_set 5 (mE_op opr_add op2_add (mE_op opr_add op2_add (mE_lst (mA_cons (mE_tup (mA_cons (mE_var 2) (mA_cons (mE_meth (MTab.one (cf2 Z) (nf_2_mode_at) Z.me15 (ok15 Z B)) (hr.mono (by decide)) tk (mE_var 0) (mA_cons (mE_var 2) mA_nil) (Len.cons Len.nil)) mA_nil)) (Len.cons (Len.cons Len.nil))) mA_nil) (Len.cons Len.nil)) (mE_var 4)) (mE_lst (mA_cons (mE_tup (mA_cons (mE_var 3) (mA_cons (mE_str []) mA_nil)) (Len.cons (Len.cons Len.nil))) mA_nil) (Len.cons Len.nil))) hN) (mS_one (mS_ret (mE_gsum (k := 0) (own := [("one", 7), ("two", 8)]) (tx14 Z B) (hr.mono (by decide)) hN (gxS_by (by show gxC N14 (defScope st14) _ _ = true; decide +kernel)) (mI_zip Z.bi_zip (mA_cons (mE_var 5) (mA_cons (mE_sl (mE_var 5) (mO_some mE_int) mO_none) mA_nil))) (fun E2 => ⟨fun A2 s2 H2 C2 code2 fp2 pn2 hr2 => (mG_tup (mG_cons (mG_name 7 [7, 8] hN) (mG_cons (mG_name 8 [7, 8] hN) (mG_nil [7, 8]))) (gC_len (gC_len gZ_len))), fun A2 s2 H2 C2 code2 fp2 pn2 hr2 => (pts_one (mT_cmp (opr_eqP hr2.units) op2_eqG (mE_ix hr2.units (mE_var 7) mE_int) (mE_var 1))), fun A2 s2 H2 C2 code2 fp2 pn2 hr2 => (mE_op op_sub op2_sub (mE_ix hr2.units (mE_var 8) mE_int) (mE_ix hr2.units (mE_var 7) mE_int))⟩) Z.bi_sum))))))
/-! Mode.share_in_use -/
def b_Mode_share_in_use : SM := mSeq (mIf (mBool (mOp2 (fLe) (mVar 2) (mVar 1))) (mRaise 1) (mSkip)) (mSeq (mSet 3 (mOp2 fAdd (mMeth [(2, g_Mode_seconds_in)] (mVar 0) (mCons (mC (.str [99, 97, 114, 101])) (mCons (mVar 1) (mCons (mVar 2) (mNil))))) (mMeth [(2, g_Mode_seconds_in)] (mVar 0) (mCons (mC (.str [111, 117, 116])) (mCons (mVar 1) (mCons (mVar 2) (mNil))))))) (mRet (mOp2 fDiv (mOp2 fMul (mC (.int 1000)) (mOp2 fSub (mOp2 fSub (mVar 2) (mVar 1)) (mVar 3))) (mOp2 fSub (mVar 2) (mVar 1)))))
def g_Mode_share_in_use : FnM := mBody 4 b_Mode_share_in_use
theorem ok16 (B : Bx base mg cc cP) : CallOk P w K mg base (TBo C cP) 7 (f 16) 3 g_Mode_share_in_use := by
  refine CallOk.of (ps := ["self", "first", "last"]) (fn_ok Z.F16 sc16 rfl fun cdv A outer s H E hr => ?_) Z.b16
  have hN : N16.Nodup := sc16.nd
  have hu := hr.units
  have tk := takes_of (X := cxOf (L2.CX P w) P w K mg base N16 "Mode.share_in_use" (defScope st16) (f 16) cdv A outer s H E) rfl rfl rfl rfl
  exact (mS_cons (mS_if (mT_cmp op_le op2_le (mE_var 2) (mE_var 1)) (mS_one (mS_raise (xk1 Z _ rfl rfl) tk)) mS_skip) (mS_cons (mS_set 3 (mE_op opr_add op2_add (mE_meth (MTab.one (cf2 Z) (nf_2_seconds_in) Z.me14 (ok14 Z B)) (hr.mono (by decide)) tk (mE_var 0) (mA_cons (mE_str [99, 97, 114, 101]) (mA_cons (mE_var 1) (mA_cons (mE_var 2) mA_nil))) (Len.cons (Len.cons (Len.cons Len.nil)))) (mE_meth (MTab.one (cf2 Z) (nf_2_seconds_in) Z.me14 (ok14 Z B)) (hr.mono (by decide)) tk (mE_var 0) (mA_cons (mE_str [111, 117, 116]) (mA_cons (mE_var 1) (mA_cons (mE_var 2) mA_nil))) (Len.cons (Len.cons (Len.cons Len.nil))))) hN) (mS_one (mS_ret (mE_op op_fdivN op2_div (mE_op opr_mul op2_mul mE_int (mE_op op_sub op2_sub (mE_op op_sub op2_sub (mE_var 2) (mE_var 1)) (mE_var 3))) (mE_op op_sub op2_sub (mE_var 2) (mE_var 1)))))))
/-! Mode.move_lines -/
def b_Mode_move_lines_c0 : EM := mGTup [] (mIV (mFld ft_moves (mVar 0))) [1, 2, 3] (gTp (gC (gN 1) (gC (gN 2) (gC (gN 3) (gZ))))) (mYes) (mOp2 fAdd (mOp2 fAdd (mOp2 fAdd (mJs [mFmt (mVar 1), mC (.str [32])] []) (mVar 2)) (mC (.str [32]))) (mVar 3))
def b_Mode_move_lines : SM := mRet (b_Mode_move_lines_c0)
def g_Mode_move_lines : FnM := mBody 4 b_Mode_move_lines
theorem ok17 (B : Bx base mg cc cP) : CallOk P w K mg base (TBo C cP) 6 (f 17) 1 g_Mode_move_lines := by
  refine CallOk.of (ps := ["self"]) (fn_okC Z.F17 sc17 rfl fun A outer s H E hr => ?_) Z.b17
  have hN : N17.Nodup := sc17.nd
  have hu := hr.units
  have tk := takes_of (X := cxOf (L2.CX P w) P w K mg base N17 "Mode.move_lines" (defScope st17) (f 17) (.ref (cc 1)) A outer s H E) rfl rfl rfl rfl
  exact (mS_one (mS_ret (mE_gtup [] (k := 0) (own := [("now", 1), ("mode", 2), ("why", 3)]) (tx17 Z B) (hr.mono (by decide)) hN tk (fun c h => absurd h List.not_mem_nil) (gxS_by (by show gxC N17 (defScope st17) _ _ = true; decide +kernel)) (mI_val (mE_fld (ftab_moves Z) (mE_var 0))) (fun E2 => ⟨fun A2 s2 H2 C2 code2 fp2 pn2 hr2 => (mG_tup (mG_cons (mG_name 1 [1, 2, 3] hN) (mG_cons (mG_name 2 [1, 2, 3] hN) (mG_cons (mG_name 3 [1, 2, 3] hN) (mG_nil [1, 2, 3])))) (gC_len (gC_len (gC_len gZ_len)))), fun A2 s2 H2 C2 code2 fp2 pn2 hr2 => mT_yes, fun A2 s2 H2 C2 code2 fp2 pn2 hr2 => (mE_op opr_add op2_add (mE_op opr_add op2_add (mE_op opr_add op2_add (mE_joined (PJm.cons (mE_fmt (mE_var 1)) (PJm.cons (mE_str [32]) PJm.nil))) (mE_var 2)) (mE_str [32])) (mE_var 3))⟩) Z.bi_tuple)))
/-! _law_plain -/
def b_law_plain_f0 : SM := mSeq (mExp (mMeth [(2, g_Mode_take_care)] (mVar 1) (mCons (mVar 2) (mNil)))) (mExp (mMeth [(2, g_Mode_give_back)] (mVar 1) (mCons (mVar 2) (mNil))))
def b_law_plain_t1 : SM := mSeq (mSet 4 (mLst (mCons (mMeth [(2, g_Mode_put_alarm)] (mVar 3) (mCons (mC (.int 2)) (mCons (mC (.int 5)) (mNil)))) (mCons (mFld ft_mode (mVar 3)) (mCons (mMeth [(2, g_Mode_goal_now)] (mVar 3) mNil) (mCons (mMeth [(2, g_Mode_arrive_at)] (mVar 3) (mCons (mC (.int 0)) (mCons (mC (.int 20)) (mNil)))) (mCons (mMeth [(2, g_Mode_turn_key)] (mVar 3) (mCons (mC (.int 25)) (mNil))) (mCons (mFld ft_mode (mVar 3)) (mCons (mMeth [(2, g_Mode_takes_calls)] (mVar 3) mNil) (mNil)))))))))) (mSeq (mSet 4 (mOp2 fAdd (mVar 4) (mLst (mCons (mMeth [(2, g_Mode_door_by_itself)] (mVar 3) mNil) (mCons (mMeth [(2, g_Mode_turn_key)] (mVar 3) (mCons (mC (.int 30)) (mNil))) (mCons (mMeth [(2, g_Mode_all_clear)] (mVar 3) (mCons (mC (.int 40)) (mNil))) (mCons (mFld ft_mode (mVar 3)) (mCons (mMeth [(2, g_Mode_take_own)] (mVar 3) (mCons (mC (.int 50)) (mNil))) (mCons (mMeth [(2, g_Mode_give_back)] (mVar 3) (mCons (mC (.int 60)) (mNil))) (mCons (mMeth [(2, g_Mode_take_care)] (mVar 3) (mCons (mC (.int 70)) (mNil))) (mNil))))))))))) (mSeq (mSet 4 (mOp2 fAdd (mVar 4) (mLst (mCons (mMeth [(2, g_Mode_let_fail)] (mVar 3) (mCons (mC (.str [98, 101, 108, 116])) (mCons (mC (.int 80)) (mNil)))) (mCons (mMeth [(2, g_Mode_seconds_in)] (mVar 3) (mCons (mC (.str [114, 101, 99, 97, 108, 108])) (mCons (mC (.int 0)) (mCons (mC (.int 100)) (mNil))))) (mCons (mMeth [(2, g_Mode_share_in_use)] (mVar 3) (mCons (mC (.int 0)) (mCons (mC (.int 100)) (mNil)))) (mCons (mMeth [(2, g_Mode_move_lines)] (mVar 3) mNil) (mCons (mMeth [(2, g_Mode_mode_at)] (mVar 3) (mCons (mC (.int 26)) (mNil))) (mNil))))))))) (mSeq (mSet 4 (mOp2 fAdd (mVar 4) (mLst (mCons (mMeth [(2, g_Mode_check_second)] (mVar 3) (mCons (mC (.int 80)) (mNil))) (mCons (mMeth [(2, g_Mode_change_to)] (mVar 3) (mCons (mC (.str [99, 97, 114, 101])) (mCons (mC (.str [120])) (mCons (mC (.int 80)) (mNil))))) (mNil)))))) (mUn 0 (mUn 0 (mUn 0 (mUn 0 (mUn 0 (mSeq (mIf (mBool (mOp2 (fEqP true) (runBad cs_told [mMake 2 7 g_Mode_init (mCons (mOp1 fNeg (mC (.int 1))) (mCons (mC (.int 0)) (mCons (mC (.int 1)) (mNil)))), mMake 2 7 g_Mode_init (mCons (mC (.int 0)) (mCons (mC (.int 1)) (mCons (mC (.int 1)) (mNil)))), mMake 2 7 g_Mode_init (mCons (mC (.int 0)) (mCons (mOp1 fNeg (mC (.int 1))) (mCons (mC (.int 1)) (mNil)))), mMeth [(2, g_Mode_check_second)] (mVar 3) (mCons (mC (.int 79)) (mNil)), mMeth [(2, g_Mode_check_second)] (mVar 1) (mCons (mC (.int 999)) (mNil)), mMeth [(2, g_Mode_put_alarm)] (mVar 3) (mCons (mOp1 fNeg (mC (.int 1))) (mCons (mC (.int 80)) (mNil))), mMeth [(2, g_Mode_put_alarm)] (mVar 3) (mCons (mC (.int 1)) (mCons (mC (.int 79)) (mNil))), mMeth [(2, g_Mode_arrive_at)] (mVar 3) (mCons (mC (.int 0)) (mCons (mC (.int 80)) (mNil))), mMeth [(2, g_Mode_turn_key)] (mVar 3) (mCons (mC (.int 80)) (mNil)), mMeth [(2, g_Mode_all_clear)] (mVar 3) (mCons (mC (.int 80)) (mNil)), mMeth [(2, g_Mode_take_own)] (mVar 3) (mCons (mC (.int 80)) (mNil)), mMeth [(2, g_Mode_take_care)] (mVar 3) (mCons (mC (.int 80)) (mNil)), mMeth [(2, g_Mode_let_fail)] (mVar 3) (mCons (mC (.str [])) (mCons (mC (.int 80)) (mNil))), mMeth [(2, g_Mode_give_back)] (mMake 2 7 g_Mode_init (mCons (mC (.int 0)) (mCons (mC (.int 0)) (mCons (mC (.int 1)) (mNil))))) (mCons (mC (.int 0)) (mNil)), mMeth [(2, g_Mode_seconds_in)] (mVar 3) (mCons (mC (.str [111, 100, 100])) (mCons (mC (.int 0)) (mCons (mC (.int 1)) (mNil)))), mMeth [(2, g_Mode_seconds_in)] (mVar 3) (mCons (mC (.str [111, 117, 116])) (mCons (mC (.int 2)) (mCons (mC (.int 1)) (mNil)))), mMeth [(2, g_Mode_share_in_use)] (mVar 3) (mCons (mC (.int 1)) (mCons (mC (.int 1)) (mNil)))]) (mC (.lst [])))) (mRet (mC (.bl false))) (mSkip)) (mSeq (mIf (mBool (mOp2 (fEqG true) (mTup (mCons (mC c_MODES) (mCons (mC c_MOST_MOVES) (mNil)))) (mTup (mCons (mTup (mCons (mC (.str [110, 111, 114, 109, 97, 108])) (mCons (mC (.str [111, 119, 110])) (mCons (mC (.str [114, 101, 99, 97, 108, 108])) (mCons (mC (.str [102, 105, 114, 101])) (mCons (mC (.str [99, 97, 114, 101])) (mCons (mC (.str [111, 117, 116])) (mNil)))))))) (mCons (mC (.int 300)) (mNil)))))) (mRet (mC (.bl false))) (mSkip)) (mRet (mOp2 (fEqG false) (mVar 4) (mLst (mCons (mC .non) (mCons (mC (.str [114, 101, 99, 97, 108, 108])) (mCons (mC (.int 0)) (mCons (mC .non) (mCons (mC .non) (mCons (mC (.str [102, 105, 114, 101])) (mCons (mTup (mCons (mC (.bl false)) (mCons (mC (.bl true)) (mNil)))) (mCons (mC (.bl false)) (mCons (mC .non) (mCons (mC .non) (mCons (mC (.str [110, 111, 114, 109, 97, 108])) (mCons (mC .non) (mCons (mC .non) (mCons (mC .non) (mCons (mC .non) (mCons (mC (.int 30)) (mCons (mC (.int 700)) (mCons (mTup (mCons (mC (.str [53, 32, 114, 101, 99, 97, 108, 108, 32, 102, 105, 114, 101, 32, 97, 116, 32, 50])) (mCons (mC (.str [50, 53, 32, 102, 105, 114, 101, 32, 107, 101, 121])) (mCons (mC (.str [51, 48, 32, 114, 101, 99, 97, 108, 108, 32, 107, 101, 121])) (mCons (mC (.str [52, 48, 32, 110, 111, 114, 109, 97, 108, 32, 99, 108, 101, 97, 114])) (mCons (mC (.str [53, 48, 32, 111, 119, 110, 32, 107, 101, 121])) (mCons (mC (.str [54, 48, 32, 110, 111, 114, 109, 97, 108, 32, 98, 97, 99, 107])) (mCons (mC (.str [55, 48, 32, 99, 97, 114, 101, 32, 99, 97, 114, 101])) (mCons (mC (.str [56, 48, 32, 111, 117, 116, 32, 98, 101, 108, 116])) (mNil)))))))))) (mCons (mC (.str [102, 105, 114, 101])) (mCons (mC .non) (mCons (mC .non) (mNil)))))))))))))))))))))))))))))))))))
def b_law_plain : SM := mSeq (mAsg (gTp (gC (gN 3) (gC (gN 1) (gZ)))) (mTup (mCons (mMake 2 7 g_Mode_init (mCons (mC (.int 3)) (mCons (mC (.int 0)) (mCons (mC (.int 1)) (mNil))))) (mCons (mMake 2 7 g_Mode_init (mCons (mC (.int 0)) (mCons (mC (.int 0)) (mCons (mC (.int 1)) (mNil))))) (mNil))))) (mSeq (mFor (mIA rngV1 (mCons (mC (.int 150)) (mNil))) (gN 2) (b_law_plain_f0)) (b_law_plain_t1))
def g_law_plain : FnM := mBody 6 b_law_plain
theorem ok25 (B : Bx base mg cc cP) : CallOk P w K mg base (TBo C cP) 10 (f 25) 0 g_law_plain := by
  refine CallOk.of (ps := []) (fn_okC Z.F25 sc25 rfl fun A outer s H E hr => ?_) Z.b25
  have hN : N25.Nodup := sc25.nd
  have hu := hr.units
  have tk := takes_of (X := cxOf (L2.CX P w) P w K mg base N25 "_law_plain" (defScope st25) (f 25) (.ref (cc 2)) A outer s H E) rfl rfl rfl rfl
  exact (mS_cons (mS_asg (mE_tup (mA_cons (mE_make Z.mk2 rfl (ok0 Z B) (hr.mono (by decide)) Z.mgc2 tk (mA_cons mE_int (mA_cons mE_int (mA_cons mE_int mA_nil))) (Len.cons (Len.cons (Len.cons Len.nil)))) (mA_cons (mE_make Z.mk2 rfl (ok0 Z B) (hr.mono (by decide)) Z.mgc2 tk (mA_cons mE_int (mA_cons mE_int (mA_cons mE_int mA_nil))) (Len.cons (Len.cons (Len.cons Len.nil)))) mA_nil)) (Len.cons (Len.cons Len.nil))) (mG_tup (mG_cons (mG_name 3 [3, 1] hN) (mG_cons (mG_name 1 [3, 1] hN) (mG_nil [3, 1]))) (gC_len (gC_len gZ_len)))) (mS_cons (mS_for (passes_of rfl) (mI_rng1 Z.bi_range (mA_cons mE_int mA_nil)) (mG_name 2 [2] hN) (mS_cons (mS_exp (mE_meth (MTab.one (cf2 Z) (nf_2_take_care) Z.me10 (ok10 Z B)) (hr.mono (by decide)) tk (mE_var 1) (mA_cons (mE_var 2) mA_nil) (Len.cons Len.nil))) (mS_one (mS_exp (mE_meth (MTab.one (cf2 Z) (nf_2_give_back) Z.me9 (ok9 Z B)) (hr.mono (by decide)) tk (mE_var 1) (mA_cons (mE_var 2) mA_nil) (Len.cons Len.nil)))))) (mS_cons (mS_set 4 (mE_lst (mA_cons (mE_meth (MTab.one (cf2 Z) (nf_2_put_alarm) Z.me3 (ok3 Z B)) (hr.mono (by decide)) tk (mE_var 3) (mA_cons mE_int (mA_cons mE_int mA_nil)) (Len.cons (Len.cons Len.nil))) (mA_cons (mE_fld (ftab_mode Z) (mE_var 3)) (mA_cons (mE_meth0 (MTab.one (cf2 Z) (nf_2_goal_now) Z.me4 (ok4 Z B)) (hr.mono (by decide)) tk (mE_var 3)) (mA_cons (mE_meth (MTab.one (cf2 Z) (nf_2_arrive_at) Z.me5 (ok5 Z B)) (hr.mono (by decide)) tk (mE_var 3) (mA_cons mE_int (mA_cons mE_int mA_nil)) (Len.cons (Len.cons Len.nil))) (mA_cons (mE_meth (MTab.one (cf2 Z) (nf_2_turn_key) Z.me6 (ok6 Z B)) (hr.mono (by decide)) tk (mE_var 3) (mA_cons mE_int mA_nil) (Len.cons Len.nil)) (mA_cons (mE_fld (ftab_mode Z) (mE_var 3)) (mA_cons (mE_meth0 (MTab.one (cf2 Z) (nf_2_takes_calls) Z.me12 (ok12 Z B)) (hr.mono (by decide)) tk (mE_var 3)) mA_nil))))))) (Len.cons (Len.cons (Len.cons (Len.cons (Len.cons (Len.cons (Len.cons Len.nil)))))))) hN) (mS_cons (mS_set 4 (mE_op opr_add op2_add (mE_var 4) (mE_lst (mA_cons (mE_meth0 (MTab.one (cf2 Z) (nf_2_door_by_itself) Z.me13 (ok13 Z B)) (hr.mono (by decide)) tk (mE_var 3)) (mA_cons (mE_meth (MTab.one (cf2 Z) (nf_2_turn_key) Z.me6 (ok6 Z B)) (hr.mono (by decide)) tk (mE_var 3) (mA_cons mE_int mA_nil) (Len.cons Len.nil)) (mA_cons (mE_meth (MTab.one (cf2 Z) (nf_2_all_clear) Z.me7 (ok7 Z B)) (hr.mono (by decide)) tk (mE_var 3) (mA_cons mE_int mA_nil) (Len.cons Len.nil)) (mA_cons (mE_fld (ftab_mode Z) (mE_var 3)) (mA_cons (mE_meth (MTab.one (cf2 Z) (nf_2_take_own) Z.me8 (ok8 Z B)) (hr.mono (by decide)) tk (mE_var 3) (mA_cons mE_int mA_nil) (Len.cons Len.nil)) (mA_cons (mE_meth (MTab.one (cf2 Z) (nf_2_give_back) Z.me9 (ok9 Z B)) (hr.mono (by decide)) tk (mE_var 3) (mA_cons mE_int mA_nil) (Len.cons Len.nil)) (mA_cons (mE_meth (MTab.one (cf2 Z) (nf_2_take_care) Z.me10 (ok10 Z B)) (hr.mono (by decide)) tk (mE_var 3) (mA_cons mE_int mA_nil) (Len.cons Len.nil)) mA_nil))))))) (Len.cons (Len.cons (Len.cons (Len.cons (Len.cons (Len.cons (Len.cons Len.nil))))))))) hN) (mS_cons (mS_set 4 (mE_op opr_add op2_add (mE_var 4) (mE_lst (mA_cons (mE_meth (MTab.one (cf2 Z) (nf_2_let_fail) Z.me11 (ok11 Z B)) (hr.mono (by decide)) tk (mE_var 3) (mA_cons (mE_str [98, 101, 108, 116]) (mA_cons mE_int mA_nil)) (Len.cons (Len.cons Len.nil))) (mA_cons (mE_meth (MTab.one (cf2 Z) (nf_2_seconds_in) Z.me14 (ok14 Z B)) (hr.mono (by decide)) tk (mE_var 3) (mA_cons (mE_str [114, 101, 99, 97, 108, 108]) (mA_cons mE_int (mA_cons mE_int mA_nil))) (Len.cons (Len.cons (Len.cons Len.nil)))) (mA_cons (mE_meth (MTab.one (cf2 Z) (nf_2_share_in_use) Z.me16 (ok16 Z B)) (hr.mono (by decide)) tk (mE_var 3) (mA_cons mE_int (mA_cons mE_int mA_nil)) (Len.cons (Len.cons Len.nil))) (mA_cons (mE_meth0 (MTab.one (cf2 Z) (nf_2_move_lines) Z.me17 (ok17 Z B)) (hr.mono (by decide)) tk (mE_var 3)) (mA_cons (mE_meth (MTab.one (cf2 Z) (nf_2_mode_at) Z.me15 (ok15 Z B)) (hr.mono (by decide)) tk (mE_var 3) (mA_cons mE_int mA_nil) (Len.cons Len.nil)) mA_nil))))) (Len.cons (Len.cons (Len.cons (Len.cons (Len.cons Len.nil))))))) hN) (mS_cons (mS_set 4 (mE_op opr_add op2_add (mE_var 4) (mE_lst (mA_cons (mE_meth (MTab.one (cf2 Z) (nf_2_check_second) Z.me1 (ok1 Z B)) (hr.mono (by decide)) tk (mE_var 3) (mA_cons mE_int mA_nil) (Len.cons Len.nil)) (mA_cons (mE_meth (MTab.one (cf2 Z) (nf_2_change_to) Z.me2 (ok2 Z B)) (hr.mono (by decide)) tk (mE_var 3) (mA_cons (mE_str [99, 97, 114, 101]) (mA_cons (mE_str [120]) (mA_cons mE_int mA_nil))) (Len.cons (Len.cons (Len.cons Len.nil)))) mA_nil)) (Len.cons (Len.cons Len.nil)))) hN) (mS_bad0 0 (pa_lcons (pe_lamv (tx25 Z B) ⟨LamX.lamS_by (by show LamX.lamSB (defScope st25) _ = true; decide +kernel), rfl, by intros; rfl⟩) (pa_lcons (pe_lamv (tx25 Z B) ⟨LamX.lamS_by (by show LamX.lamSB (defScope st25) _ = true; decide +kernel), rfl, by intros; rfl⟩) (pa_lcons (pe_lamv (tx25 Z B) ⟨LamX.lamS_by (by show LamX.lamSB (defScope st25) _ = true; decide +kernel), rfl, by intros; rfl⟩) (pa_lcons (pe_lamv (tx25 Z B) ⟨LamX.lamS_by (by show LamX.lamSB (defScope st25) _ = true; decide +kernel), rfl, by intros; rfl⟩) (pa_lcons (pe_lamv (tx25 Z B) ⟨LamX.lamS_by (by show LamX.lamSB (defScope st25) _ = true; decide +kernel), rfl, by intros; rfl⟩) pa_lnil))))) (mS_bad1 0 (pa_lcons (pe_lamv (tx25 Z B) ⟨LamX.lamS_by (by show LamX.lamSB (defScope st25) _ = true; decide +kernel), rfl, by intros; rfl⟩) (pa_lcons (pe_lamv (tx25 Z B) ⟨LamX.lamS_by (by show LamX.lamSB (defScope st25) _ = true; decide +kernel), rfl, by intros; rfl⟩) (pa_lcons (pe_lamv (tx25 Z B) ⟨LamX.lamS_by (by show LamX.lamSB (defScope st25) _ = true; decide +kernel), rfl, by intros; rfl⟩) (pa_lcons (pe_lamv (tx25 Z B) ⟨LamX.lamS_by (by show LamX.lamSB (defScope st25) _ = true; decide +kernel), rfl, by intros; rfl⟩) pa_lnil)))) (mS_bad1 0 (pa_lcons (pe_lamv (tx25 Z B) ⟨LamX.lamS_by (by show LamX.lamSB (defScope st25) _ = true; decide +kernel), rfl, by intros; rfl⟩) (pa_lcons (pe_lamv (tx25 Z B) ⟨LamX.lamS_by (by show LamX.lamSB (defScope st25) _ = true; decide +kernel), rfl, by intros; rfl⟩) (pa_lcons (pe_lamv (tx25 Z B) ⟨LamX.lamS_by (by show LamX.lamSB (defScope st25) _ = true; decide +kernel), rfl, by intros; rfl⟩) (pa_lcons (pe_lamv (tx25 Z B) ⟨LamX.lamS_by (by show LamX.lamSB (defScope st25) _ = true; decide +kernel), rfl, by intros; rfl⟩) pa_lnil)))) (mS_bad1 0 (pa_lcons (pe_lamv (tx25 Z B) ⟨LamX.lamS_by (by show LamX.lamSB (defScope st25) _ = true; decide +kernel), rfl, by intros; rfl⟩) (pa_lcons (pe_lamv (tx25 Z B) ⟨LamX.lamS_by (by show LamX.lamSB (defScope st25) _ = true; decide +kernel), rfl, by intros; rfl⟩) (pa_lcons (pe_lamv (tx25 Z B) ⟨LamX.lamS_by (by show LamX.lamSB (defScope st25) _ = true; decide +kernel), rfl, by intros; rfl⟩) pa_lnil))) (mS_bad1 0 (pa_lcons (pe_lamv (tx25 Z B) ⟨LamX.lamS_by (by show LamX.lamSB (defScope st25) _ = true; decide +kernel), rfl, by intros; rfl⟩) pa_lnil) (mS_badIf (mT_bad hu (mE_bad (k := 7) 0 5 Z.told (hr.mono (by decide)) (LamBs.cons _ _ _ _ (⟨LamX.lamS_by (by show LamX.lamSB (defScope st25) _ = true; decide +kernel), rfl, by intros; rfl⟩ : LamOk _ _) (fun A2 outer2 s2 H2 E2 f2 c2 hr2 => (mE_make Z.mk2 rfl (ok0 Z B) (hr2.mono (by decide)) Z.mgc2 (takes_of rfl rfl rfl rfl) (mA_cons (mE_un un_neg op1_neg mE_int) (mA_cons mE_int (mA_cons mE_int mA_nil))) (Len.cons (Len.cons (Len.cons Len.nil))))) (LamBs.cons _ _ _ _ (⟨LamX.lamS_by (by show LamX.lamSB (defScope st25) _ = true; decide +kernel), rfl, by intros; rfl⟩ : LamOk _ _) (fun A2 outer2 s2 H2 E2 f2 c2 hr2 => (mE_make Z.mk2 rfl (ok0 Z B) (hr2.mono (by decide)) Z.mgc2 (takes_of rfl rfl rfl rfl) (mA_cons mE_int (mA_cons mE_int (mA_cons mE_int mA_nil))) (Len.cons (Len.cons (Len.cons Len.nil))))) (LamBs.cons _ _ _ _ (⟨LamX.lamS_by (by show LamX.lamSB (defScope st25) _ = true; decide +kernel), rfl, by intros; rfl⟩ : LamOk _ _) (fun A2 outer2 s2 H2 E2 f2 c2 hr2 => (mE_make Z.mk2 rfl (ok0 Z B) (hr2.mono (by decide)) Z.mgc2 (takes_of rfl rfl rfl rfl) (mA_cons mE_int (mA_cons (mE_un un_neg op1_neg mE_int) (mA_cons mE_int mA_nil))) (Len.cons (Len.cons (Len.cons Len.nil))))) (LamBs.cons _ _ _ _ (⟨LamX.lamS_by (by show LamX.lamSB (defScope st25) _ = true; decide +kernel), rfl, by intros; rfl⟩ : LamOk _ _) (fun A2 outer2 s2 H2 E2 f2 c2 hr2 => (mE_meth (MTab.one (cf2 Z) (nf_2_check_second) Z.me1 (ok1 Z B)) (hr2.mono (by decide)) (takes_of rfl rfl rfl rfl) (mE_var 3) (mA_cons mE_int mA_nil) (Len.cons Len.nil))) (LamBs.cons _ _ _ _ (⟨LamX.lamS_by (by show LamX.lamSB (defScope st25) _ = true; decide +kernel), rfl, by intros; rfl⟩ : LamOk _ _) (fun A2 outer2 s2 H2 E2 f2 c2 hr2 => (mE_meth (MTab.one (cf2 Z) (nf_2_check_second) Z.me1 (ok1 Z B)) (hr2.mono (by decide)) (takes_of rfl rfl rfl rfl) (mE_var 1) (mA_cons mE_int mA_nil) (Len.cons Len.nil))) (LamBs.cons _ _ _ _ (⟨LamX.lamS_by (by show LamX.lamSB (defScope st25) _ = true; decide +kernel), rfl, by intros; rfl⟩ : LamOk _ _) (fun A2 outer2 s2 H2 E2 f2 c2 hr2 => (mE_meth (MTab.one (cf2 Z) (nf_2_put_alarm) Z.me3 (ok3 Z B)) (hr2.mono (by decide)) (takes_of rfl rfl rfl rfl) (mE_var 3) (mA_cons (mE_un un_neg op1_neg mE_int) (mA_cons mE_int mA_nil)) (Len.cons (Len.cons Len.nil)))) (LamBs.cons _ _ _ _ (⟨LamX.lamS_by (by show LamX.lamSB (defScope st25) _ = true; decide +kernel), rfl, by intros; rfl⟩ : LamOk _ _) (fun A2 outer2 s2 H2 E2 f2 c2 hr2 => (mE_meth (MTab.one (cf2 Z) (nf_2_put_alarm) Z.me3 (ok3 Z B)) (hr2.mono (by decide)) (takes_of rfl rfl rfl rfl) (mE_var 3) (mA_cons mE_int (mA_cons mE_int mA_nil)) (Len.cons (Len.cons Len.nil)))) (LamBs.cons _ _ _ _ (⟨LamX.lamS_by (by show LamX.lamSB (defScope st25) _ = true; decide +kernel), rfl, by intros; rfl⟩ : LamOk _ _) (fun A2 outer2 s2 H2 E2 f2 c2 hr2 => (mE_meth (MTab.one (cf2 Z) (nf_2_arrive_at) Z.me5 (ok5 Z B)) (hr2.mono (by decide)) (takes_of rfl rfl rfl rfl) (mE_var 3) (mA_cons mE_int (mA_cons mE_int mA_nil)) (Len.cons (Len.cons Len.nil)))) (LamBs.cons _ _ _ _ (⟨LamX.lamS_by (by show LamX.lamSB (defScope st25) _ = true; decide +kernel), rfl, by intros; rfl⟩ : LamOk _ _) (fun A2 outer2 s2 H2 E2 f2 c2 hr2 => (mE_meth (MTab.one (cf2 Z) (nf_2_turn_key) Z.me6 (ok6 Z B)) (hr2.mono (by decide)) (takes_of rfl rfl rfl rfl) (mE_var 3) (mA_cons mE_int mA_nil) (Len.cons Len.nil))) (LamBs.cons _ _ _ _ (⟨LamX.lamS_by (by show LamX.lamSB (defScope st25) _ = true; decide +kernel), rfl, by intros; rfl⟩ : LamOk _ _) (fun A2 outer2 s2 H2 E2 f2 c2 hr2 => (mE_meth (MTab.one (cf2 Z) (nf_2_all_clear) Z.me7 (ok7 Z B)) (hr2.mono (by decide)) (takes_of rfl rfl rfl rfl) (mE_var 3) (mA_cons mE_int mA_nil) (Len.cons Len.nil))) (LamBs.cons _ _ _ _ (⟨LamX.lamS_by (by show LamX.lamSB (defScope st25) _ = true; decide +kernel), rfl, by intros; rfl⟩ : LamOk _ _) (fun A2 outer2 s2 H2 E2 f2 c2 hr2 => (mE_meth (MTab.one (cf2 Z) (nf_2_take_own) Z.me8 (ok8 Z B)) (hr2.mono (by decide)) (takes_of rfl rfl rfl rfl) (mE_var 3) (mA_cons mE_int mA_nil) (Len.cons Len.nil))) (LamBs.cons _ _ _ _ (⟨LamX.lamS_by (by show LamX.lamSB (defScope st25) _ = true; decide +kernel), rfl, by intros; rfl⟩ : LamOk _ _) (fun A2 outer2 s2 H2 E2 f2 c2 hr2 => (mE_meth (MTab.one (cf2 Z) (nf_2_take_care) Z.me10 (ok10 Z B)) (hr2.mono (by decide)) (takes_of rfl rfl rfl rfl) (mE_var 3) (mA_cons mE_int mA_nil) (Len.cons Len.nil))) (LamBs.cons _ _ _ _ (⟨LamX.lamS_by (by show LamX.lamSB (defScope st25) _ = true; decide +kernel), rfl, by intros; rfl⟩ : LamOk _ _) (fun A2 outer2 s2 H2 E2 f2 c2 hr2 => (mE_meth (MTab.one (cf2 Z) (nf_2_let_fail) Z.me11 (ok11 Z B)) (hr2.mono (by decide)) (takes_of rfl rfl rfl rfl) (mE_var 3) (mA_cons (mE_str []) (mA_cons mE_int mA_nil)) (Len.cons (Len.cons Len.nil)))) (LamBs.cons _ _ _ _ (⟨LamX.lamS_by (by show LamX.lamSB (defScope st25) _ = true; decide +kernel), rfl, by intros; rfl⟩ : LamOk _ _) (fun A2 outer2 s2 H2 E2 f2 c2 hr2 => (mE_meth (MTab.one (cf2 Z) (nf_2_give_back) Z.me9 (ok9 Z B)) (hr2.mono (by decide)) (takes_of rfl rfl rfl rfl) (mE_make Z.mk2 rfl (ok0 Z B) (hr2.mono (by decide)) Z.mgc2 (takes_of rfl rfl rfl rfl) (mA_cons mE_int (mA_cons mE_int (mA_cons mE_int mA_nil))) (Len.cons (Len.cons (Len.cons Len.nil)))) (mA_cons mE_int mA_nil) (Len.cons Len.nil))) (LamBs.cons _ _ _ _ (⟨LamX.lamS_by (by show LamX.lamSB (defScope st25) _ = true; decide +kernel), rfl, by intros; rfl⟩ : LamOk _ _) (fun A2 outer2 s2 H2 E2 f2 c2 hr2 => (mE_meth (MTab.one (cf2 Z) (nf_2_seconds_in) Z.me14 (ok14 Z B)) (hr2.mono (by decide)) (takes_of rfl rfl rfl rfl) (mE_var 3) (mA_cons (mE_str [111, 100, 100]) (mA_cons mE_int (mA_cons mE_int mA_nil))) (Len.cons (Len.cons (Len.cons Len.nil))))) (LamBs.cons _ _ _ _ (⟨LamX.lamS_by (by show LamX.lamSB (defScope st25) _ = true; decide +kernel), rfl, by intros; rfl⟩ : LamOk _ _) (fun A2 outer2 s2 H2 E2 f2 c2 hr2 => (mE_meth (MTab.one (cf2 Z) (nf_2_seconds_in) Z.me14 (ok14 Z B)) (hr2.mono (by decide)) (takes_of rfl rfl rfl rfl) (mE_var 3) (mA_cons (mE_str [111, 117, 116]) (mA_cons mE_int (mA_cons mE_int mA_nil))) (Len.cons (Len.cons (Len.cons Len.nil))))) (LamBs.cons _ _ _ _ (⟨LamX.lamS_by (by show LamX.lamSB (defScope st25) _ = true; decide +kernel), rfl, by intros; rfl⟩ : LamOk _ _) (fun A2 outer2 s2 H2 E2 f2 c2 hr2 => (mE_meth (MTab.one (cf2 Z) (nf_2_share_in_use) Z.me16 (ok16 Z B)) (hr2.mono (by decide)) (takes_of rfl rfl rfl rfl) (mE_var 3) (mA_cons mE_int (mA_cons mE_int mA_nil)) (Len.cons (Len.cons Len.nil)))) LamBs.nil))))))))))))))))) hN (blkOk_by (by show blkC N25 (defScope st25) _ _ = true; decide +kernel)) hu)) (mS_one (mS_ret mE_bl)) mS_skip (mS_cons (mS_if (mT_cmp (opr_neP hu) op2_eqG (mE_tup (mA_cons (mE_glob Z.gm_MODES (gr_MODES Z) (gq_MODES Z)) (mA_cons (mE_globI Z.gm_MOST_MOVES) mA_nil)) (Len.cons (Len.cons Len.nil))) (mE_tup (mA_cons (mE_tup (mA_cons (mE_str [110, 111, 114, 109, 97, 108]) (mA_cons (mE_str [111, 119, 110]) (mA_cons (mE_str [114, 101, 99, 97, 108, 108]) (mA_cons (mE_str [102, 105, 114, 101]) (mA_cons (mE_str [99, 97, 114, 101]) (mA_cons (mE_str [111, 117, 116]) mA_nil)))))) (Len.cons (Len.cons (Len.cons (Len.cons (Len.cons (Len.cons Len.nil))))))) (mA_cons mE_int mA_nil)) (Len.cons (Len.cons Len.nil)))) (mS_one (mS_ret mE_bl)) mS_skip) (mS_one (mS_ret (mE_cmp (opr_eqP hu) op2_eqG (mE_var 4) (mE_lst (mA_cons mE_non (mA_cons (mE_str [114, 101, 99, 97, 108, 108]) (mA_cons mE_int (mA_cons mE_non (mA_cons mE_non (mA_cons (mE_str [102, 105, 114, 101]) (mA_cons (mE_tup (mA_cons mE_bl (mA_cons mE_bl mA_nil)) (Len.cons (Len.cons Len.nil))) (mA_cons mE_bl (mA_cons mE_non (mA_cons mE_non (mA_cons (mE_str [110, 111, 114, 109, 97, 108]) (mA_cons mE_non (mA_cons mE_non (mA_cons mE_non (mA_cons mE_non (mA_cons mE_int (mA_cons mE_int (mA_cons (mE_tup (mA_cons (mE_str [53, 32, 114, 101, 99, 97, 108, 108, 32, 102, 105, 114, 101, 32, 97, 116, 32, 50]) (mA_cons (mE_str [50, 53, 32, 102, 105, 114, 101, 32, 107, 101, 121]) (mA_cons (mE_str [51, 48, 32, 114, 101, 99, 97, 108, 108, 32, 107, 101, 121]) (mA_cons (mE_str [52, 48, 32, 110, 111, 114, 109, 97, 108, 32, 99, 108, 101, 97, 114]) (mA_cons (mE_str [53, 48, 32, 111, 119, 110, 32, 107, 101, 121]) (mA_cons (mE_str [54, 48, 32, 110, 111, 114, 109, 97, 108, 32, 98, 97, 99, 107]) (mA_cons (mE_str [55, 48, 32, 99, 97, 114, 101, 32, 99, 97, 114, 101]) (mA_cons (mE_str [56, 48, 32, 111, 117, 116, 32, 98, 101, 108, 116]) mA_nil)))))))) (Len.cons (Len.cons (Len.cons (Len.cons (Len.cons (Len.cons (Len.cons (Len.cons Len.nil))))))))) (mA_cons (mE_str [102, 105, 114, 101]) (mA_cons mE_non (mA_cons mE_non mA_nil))))))))))))))))))))) (Len.cons (Len.cons (Len.cons (Len.cons (Len.cons (Len.cons (Len.cons (Len.cons (Len.cons (Len.cons (Len.cons (Len.cons (Len.cons (Len.cons (Len.cons (Len.cons (Len.cons (Len.cons (Len.cons (Len.cons (Len.cons Len.nil))))))))))))))))))))))))))) hN) hN) hN) hN) hN)))))))
/-! _law_roll -/
def b_law_roll (self : FnM) : SM := mSeq (mIf (mOr (mBool (mOp2 (fEqG false) (mOp2 fIx (mVar 0) (mC (.int 2))) (mC (.int 2)))) (mAnd (mBool (mOp2 (fEqG false) (mOp2 fIx (mVar 0) (mC (.int 2))) (mC (.int 1)))) (mBool (mOp2 (fGt) (mOp2 fIx (mVar 0) (mC (.int 0))) (mC (.int 0)))))) (mSeq (mSet 2 (mOp2 fMod (mApp fInt (mCons (mOp2 fIx (mVar 0) (mC (.int 0))) (mNil))) (mVar 1))) (mSeq (mSetSub (mVar 0) (mC (.int 0)) (mOp2 fDiv (mOp2 fIx (mVar 0) (mC (.int 0))) (mVar 1))) (mRet (mVar 2)))) (mSkip)) (mSeq (mSetSub (mVar 0) (mC (.int 2)) (mC (.int 0))) (mSeq (mIf (mBool (mOp2 (fGt) (mVar 1) (mC (.int 100000000)))) (mRet (mOp2 fMod (mApp fInt (mCons (mOp2 fAdd (mOp2 fMul (mCall self (mCons (mVar 0) (mCons (mOp2 fAdd (mOp2 fDiv (mVar 1) (mC (.int 100000000))) (mC (.int 1))) (mNil)))) (mC (.int 100000000))) (mCall self (mCons (mVar 0) (mCons (mC (.int 100000000)) (mNil))))) (mNil))) (mVar 1))) (mSkip)) (mSeq (mSetSub (mVar 0) (mC (.int 0)) (mOp2 fMod (mApp fInt (mCons (mOp2 fAdd (mOp2 fAdd (mOp2 fMul (mOp2 fIx (mVar 0) (mC (.int 0))) (mC (.int 48271))) (mOp2 fMul (mOp2 fIx (mVar 0) (mC (.int 1))) (mC (.int 69621)))) (mC (.int 11))) (mNil))) (mC (.int 2147483647)))) (mSeq (mSetSub (mVar 0) (mC (.int 1)) (mOp2 fAdd (mOp2 fIx (mVar 0) (mC (.int 1))) (mC (.int 1)))) (mRet (mOp2 fMod (mApp fInt (mCons (mOp2 fDiv (mOp2 fIx (mVar 0) (mC (.int 0))) (mC (.int 7))) (mNil))) (mVar 1)))))))
def g_law_roll_n : Nat → FnM
  | 0 => fun _ _ => .bad
  | n + 1 => mBody 3 (b_law_roll (g_law_roll_n n))
def g_law_roll : FnM := g_law_roll_n 3
theorem okn19 (B : Bx base mg cc cP) : ∀ n, CallOk P w K mg base (TBo C cP) (1 + n) (f 19) 2 (g_law_roll_n n)
  | 0 => fn_bad (k := 0) Z.F19 sc19 Z.b19
  | n + 1 => by
    have ih := okn19 B n
    refine CallOk.of (ps := ["dice", "many"]) (fn_ok (k := 1 + n) Z.F19 sc19 rfl fun cdv A outer s H E hr => ?_) Z.b19
    have hN : N19.Nodup := sc19.nd
    have hu := hr.units
    have tk := takes_of (X := cxOf (L2.CX P w) P w K mg base N19 "_law_roll" (defScope st19) (f 19) cdv A outer s H E) rfl rfl rfl rfl
    exact (mS_cons (mS_if (PW.pt (mT_or (mT_cmp (opr_eqP hu) op2_eqG (mE_ix hu (mE_var 0) mE_int) mE_int) (pw_or1 (PW.pt (mT_and (mT_cmp (opr_eqP hu) op2_eqG (mE_ix hu (mE_var 0) mE_int) mE_int) (pw_and1 (mT_cmp op_gt op2_gt (mE_ix hu (mE_var 0) mE_int) mE_int))))))) (mS_cons (mS_set 2 (mE_op op_modN op2_mod (mE_callTy call_int1 opn_int Z.bi_int (mA_cons (mE_ix hu (mE_var 0) mE_int) mA_nil)) (mE_var 1)) hN) (mS_cons (mS_sub hu (mE_var 0) mE_int (mE_op op_fdivN op2_div (mE_ix hu (mE_var 0) mE_int) (mE_var 1))) (mS_one (mS_ret (mE_var 2))))) mS_skip) (mS_cons (mS_sub hu (mE_var 0) mE_int mE_int) (mS_cons (mS_if (mT_cmp op_gt op2_gt (mE_var 1) mE_int) (mS_one (mS_ret (mE_op op_modN op2_mod (mE_callTy call_int1 opn_int Z.bi_int (mA_cons (mE_op opr_add op2_add (mE_op opr_mul op2_mul (mE_call ih hr Z.mg19 Z.kp19 tk (mA_cons (mE_var 0) (mA_cons (mE_op opr_add op2_add (mE_op op_fdivN op2_div (mE_var 1) mE_int) mE_int) mA_nil)) (Len.cons (Len.cons Len.nil))) mE_int) (mE_call ih hr Z.mg19 Z.kp19 tk (mA_cons (mE_var 0) (mA_cons mE_int mA_nil)) (Len.cons (Len.cons Len.nil)))) mA_nil)) (mE_var 1)))) mS_skip) (mS_cons (mS_sub hu (mE_var 0) mE_int (mE_op op_modN op2_mod (mE_callTy call_int1 opn_int Z.bi_int (mA_cons (mE_op opr_add op2_add (mE_op opr_add op2_add (mE_op opr_mul op2_mul (mE_ix hu (mE_var 0) mE_int) mE_int) (mE_op opr_mul op2_mul (mE_ix hu (mE_var 0) mE_int) mE_int)) mE_int) mA_nil)) mE_int)) (mS_cons (mS_sub hu (mE_var 0) mE_int (mE_op opr_add op2_add (mE_ix hu (mE_var 0) mE_int) mE_int)) (mS_one (mS_ret (mE_op op_modN op2_mod (mE_callTy call_int1 opn_int Z.bi_int (mA_cons (mE_op op_fdivN op2_div (mE_ix hu (mE_var 0) mE_int) mE_int) mA_nil)) (mE_var 1)))))))))
theorem ok19 (B : Bx base mg cc cP) (n : Nat) : CallOk P w K mg base (TBo C cP) (1 + n) (f 19) 2 (g_law_roll_n n) := okn19 Z B n
/-! _law_to -/
def b_law_to : SM := mExp (mBm isDR fUpd (mVar 0) (mCons (mDct [(mC (.str [109, 111, 100, 101]), mVar 1), (mC (.str [109, 111, 118, 101, 115]), mOp2 fAdd (mOp2 fIx (mVar 0) (mC (.str [109, 111, 118, 101, 115]))) (mLst (mCons (mTup (mCons (mVar 3) (mCons (mVar 1) (mCons (mVar 2) (mNil))))) (mNil))))]) (mNil)))
def g_law_to : FnM := mBody 4 b_law_to
theorem ok23 (B : Bx base mg cc cP) : CallOk P w K mg base (TBo C cP) 1 (f 23) 4 g_law_to := by
  refine CallOk.of (ps := ["own", "mode", "why", "now"]) (fn_ok Z.F23 sc23 rfl fun cdv A outer s H E hr => ?_) Z.b23
  have hN : N23.Nodup := sc23.nd
  have hu := hr.units
  have tk := takes_of (X := cxOf (L2.CX P w) P w K mg base N23 "_law_to" (defScope st23) (f 23) cdv A outer s H E) rfl rfl rfl rfl
  exact (mS_one (mS_exp (mE_bm PySem.F.plainAttrs_dict PySem.F.slot_dict_update PySem.F.type_dict_update mt_update ty_dict opm_upd (mE_var 0) (mA_cons (mE_dct (mP_cons (mE_str [109, 111, 100, 101]) (mE_var 1) (mP_cons (mE_str [109, 111, 118, 101, 115]) (mE_op opr_add op2_add (mE_ix hu (mE_var 0) (mE_str [109, 111, 118, 101, 115])) (mE_lst (mA_cons (mE_tup (mA_cons (mE_var 3) (mA_cons (mE_var 1) (mA_cons (mE_var 2) mA_nil))) (Len.cons (Len.cons (Len.cons Len.nil)))) mA_nil) (Len.cons Len.nil))) mP_nil))) mA_nil))))
/-! _law_goal -/
def b_law_goal : SM := mSeq (mIf (mBool (mOp2 (fEqG true) (mOp2 fIx (mVar 0) (mC (.str [109, 111, 100, 101]))) (mC (.str [114, 101, 99, 97, 108, 108])))) (mRet (mC .non)) (mSkip)) (mRet (mIfE (mBool (mOp2 (fEqG false) (mOp2 fIx (mVar 0) (mC (.str [98, 117, 114, 110, 115]))) (mApp fStr (mCons (mOp2 fIx (mVar 0) (mC (.str [104, 111, 109, 101]))) (mNil))))) (mOp2 fIx (mVar 0) (mC (.str [111, 116, 104, 101, 114]))) (mOp2 fIx (mVar 0) (mC (.str [104, 111, 109, 101])))))
def g_law_goal : FnM := mBody 1 b_law_goal
theorem ok22 (B : Bx base mg cc cP) : CallOk P w K mg base (TBo C cP) 1 (f 22) 1 g_law_goal := by
  refine CallOk.of (ps := ["own"]) (fn_ok Z.F22 sc22 rfl fun cdv A outer s H E hr => ?_) Z.b22
  have hN : N22.Nodup := sc22.nd
  have hu := hr.units
  have tk := takes_of (X := cxOf (L2.CX P w) P w K mg base N22 "_law_goal" (defScope st22) (f 22) cdv A outer s H E) rfl rfl rfl rfl
  exact (mS_cons (mS_if (mT_cmp (opr_neP hu) op2_eqG (mE_ix hu (mE_var 0) (mE_str [109, 111, 100, 101])) (mE_str [114, 101, 99, 97, 108, 108])) (mS_one (mS_ret mE_non)) mS_skip) (mS_one (mS_ret (mE_ifE (mT_cmp (opr_eqP hu) op2_eqG (mE_ix hu (mE_var 0) (mE_str [98, 117, 114, 110, 115])) (mE_callTy call_str_int opn_str Z.bi_str (mA_cons (mE_ix hu (mE_var 0) (mE_str [104, 111, 109, 101])) mA_nil))) (mE_ix hu (mE_var 0) (mE_str [111, 116, 104, 101, 114])) (mE_ix hu (mE_var 0) (mE_str [104, 111, 109, 101]))))))
/-! _law_deed -/
def b_law_deed_t0 : SM := mSeq (mIf (mBool (mOp2 (fLt) (mVar 8) (mC (.int 3)))) (mSeq (mSet 4 (mAndV (mVar 3) (mAndV (mOp2 (fGe) (mVar 7) (mC (.int 0))) (mOp2 (fEqG false) (mOp2 fIx (mVar 2) (mC (.str [98, 117, 114, 110, 115]))) (mC (.str [])))))) (mSeq (mIf (mTru (mVar 4)) (mSeq (mSetSub (mVar 2) (mC (.str [98, 117, 114, 110, 115])) (mApp fStr (mCons (mVar 7) (mNil)))) (mIf (mBool (mOp2 (fInG false) (mVar 5) (mLst (mCons (mC (.str [110, 111, 114, 109, 97, 108])) (mCons (mC (.str [111, 119, 110])) (mNil)))))) (mExp (mCall g_law_to (mCons (mVar 2) (mCons (mC (.str [114, 101, 99, 97, 108, 108])) (mCons (mOp2 fAdd (mC (.str [102, 105, 114, 101, 32, 97, 116, 32])) (mApp fStr (mCons (mVar 7) (mNil)))) (mCons (mVar 6) (mNil))))))) (mSkip))) (mSkip)) (mSet 9 (mTold cs_told ret_told (mMeth [(2, g_Mode_put_alarm)] (mVar 1) (mCons (mVar 7) (mCons (mVar 6) (mNil)))))))) (mIf (mBool (mOp2 (fLt) (mVar 8) (mC (.int 7)))) (mSeq (mSet 4 (mAndV (mVar 3) (mAndV (mOp2 (fGe) (mVar 7) (mC (.int 0))) (mOp2 (fInG true) (mVar 5) (mLst (mCons (mC (.str [111, 117, 116])) (mCons (mC (.str [99, 97, 114, 101])) (mNil)))))))) (mSeq (mExp (mBm isDR fUpd (mVar 2) (mCons (mIfE (mTru (mVar 4)) (mDct [(mC (.str [112, 108, 97, 99, 101]), mVar 7)]) (mC (.dct []))) (mNil)))) (mSet 9 (mTold cs_told ret_told (mMeth [(2, g_Mode_arrive_at)] (mVar 1) (mCons (mVar 7) (mCons (mVar 6) (mNil)))))))) (mIf (mBool (mOp2 (fLt) (mVar 8) (mC (.int 10)))) (mSeq (mSet 4 (mAndV (mVar 3) (mOrV (mAndV (mOp2 (fEqG false) (mVar 5) (mC (.str [114, 101, 99, 97, 108, 108]))) (mOp2 (fEqG false) (mOp2 fIx (mVar 2) (mC (.str [112, 108, 97, 99, 101]))) (mCall g_law_goal (mCons (mVar 2) (mNil))))) (mAndV (mOp2 (fEqG false) (mVar 5) (mC (.str [102, 105, 114, 101]))) (mOp2 (fInG false) (mOp2 fIx (mVar 2) (mC (.str [112, 108, 97, 99, 101]))) (mLst (mCons (mOp2 fIx (mVar 2) (mC (.str [104, 111, 109, 101]))) (mCons (mOp2 fIx (mVar 2) (mC (.str [111, 116, 104, 101, 114]))) (mNil))))))))) (mSeq (mIf (mTru (mVar 4)) (mExp (mCall g_law_to (mCons (mVar 2) (mCons (mIfE (mBool (mOp2 (fEqG false) (mVar 5) (mC (.str [114, 101, 99, 97, 108, 108])))) (mC (.str [102, 105, 114, 101])) (mC (.str [114, 101, 99, 97, 108, 108]))) (mCons (mC (.str [107, 101, 121])) (mCons (mVar 6) (mNil))))))) (mSkip)) (mSet 9 (mTold cs_told ret_told (mMeth [(2, g_Mode_turn_key)] (mVar 1) (mCons (mVar 6) (mNil))))))) (mIf (mBool (mOp2 (fLt) (mVar 8) (mC (.int 12)))) (mSeq (mSet 4 (mAndV (mVar 3) (mAndV (mOp2 (fEqG true) (mOp2 fIx (mVar 2) (mC (.str [98, 117, 114, 110, 115]))) (mC (.str []))) (mOp2 (fEqG true) (mVar 5) (mC (.str [102, 105, 114, 101])))))) (mSeq (mIf (mTru (mVar 4)) (mSeq (mSetSub (mVar 2) (mC (.str [98, 117, 114, 110, 115])) (mC (.str []))) (mIf (mBool (mOp2 (fEqG false) (mVar 5) (mC (.str [114, 101, 99, 97, 108, 108])))) (mExp (mCall g_law_to (mCons (mVar 2) (mCons (mC (.str [110, 111, 114, 109, 97, 108])) (mCons (mC (.str [99, 108, 101, 97, 114])) (mCons (mVar 6) (mNil))))))) (mSkip))) (mSkip)) (mSet 9 (mTold cs_told ret_told (mMeth [(2, g_Mode_all_clear)] (mVar 1) (mCons (mVar 6) (mNil))))))) (mIf (mBool (mOp2 (fEqG false) (mVar 8) (mC (.int 12)))) (mSeq (mSet 4 (mAndV (mVar 3) (mOp2 (fEqG false) (mVar 5) (mC (.str [110, 111, 114, 109, 97, 108]))))) (mSeq (mIf (mTru (mVar 4)) (mExp (mCall g_law_to (mCons (mVar 2) (mCons (mC (.str [111, 119, 110])) (mCons (mC (.str [107, 101, 121])) (mCons (mVar 6) (mNil))))))) (mSkip)) (mSet 9 (mTold cs_told ret_told (mMeth [(2, g_Mode_take_own)] (mVar 1) (mCons (mVar 6) (mNil))))))) (mIf (mBool (mOp2 (fLt) (mVar 8) (mC (.int 15)))) (mSeq (mSet 4 (mAndV (mVar 3) (mOp2 (fInG false) (mVar 5) (mLst (mCons (mC (.str [111, 119, 110])) (mCons (mC (.str [99, 97, 114, 101])) (mNil))))))) (mSeq (mIf (mTru (mVar 4)) (mExp (mCall g_law_to (mCons (mVar 2) (mCons (mIfE (mBool (mOp2 (fEqG false) (mOp2 fIx (mVar 2) (mC (.str [98, 117, 114, 110, 115]))) (mC (.str [])))) (mC (.str [110, 111, 114, 109, 97, 108])) (mC (.str [114, 101, 99, 97, 108, 108]))) (mCons (mC (.str [98, 97, 99, 107])) (mCons (mVar 6) (mNil))))))) (mSkip)) (mSet 9 (mTold cs_told ret_told (mMeth [(2, g_Mode_give_back)] (mVar 1) (mCons (mVar 6) (mNil))))))) (mIf (mBool (mOp2 (fLt) (mVar 8) (mC (.int 17)))) (mSeq (mSet 4 (mAndV (mVar 3) (mOp2 (fInG false) (mVar 5) (mLst (mCons (mC (.str [110, 111, 114, 109, 97, 108])) (mCons (mC (.str [111, 119, 110])) (mCons (mC (.str [111, 117, 116])) (mNil)))))))) (mSeq (mIf (mTru (mVar 4)) (mExp (mCall g_law_to (mCons (mVar 2) (mCons (mC (.str [99, 97, 114, 101])) (mCons (mC (.str [99, 97, 114, 101])) (mCons (mVar 6) (mNil))))))) (mSkip)) (mSet 9 (mTold cs_told ret_told (mMeth [(2, g_Mode_take_care)] (mVar 1) (mCons (mVar 6) (mNil))))))) (mSeq (mSet 10 (mOp2 fIx (mLst (mCons (mC (.str [98, 101, 108, 116])) (mCons (mC (.str [])) (mNil)))) (mOp2 fDiv (mCall g_law_roll (mCons (mVar 0) (mCons (mC (.int 4)) (mNil)))) (mC (.int 3))))) (mSeq (mSet 4 (mAndV (mVar 3) (mAndV (mOp2 (fEqG true) (mVar 10) (mC (.str []))) (mOp2 (fEqG true) (mVar 5) (mC (.str [111, 117, 116])))))) (mSeq (mIf (mTru (mVar 4)) (mExp (mCall g_law_to (mCons (mVar 2) (mCons (mC (.str [111, 117, 116])) (mCons (mVar 10) (mCons (mVar 6) (mNil))))))) (mSkip)) (mSet 9 (mTold cs_told ret_told (mMeth [(2, g_Mode_let_fail)] (mVar 1) (mCons (mVar 10) (mCons (mVar 6) (mNil)))))))))))))))) (mSeq (mSetSub (mVar 2) (mC (.str [110, 111, 119])) (mIfE (mTru (mVar 4)) (mVar 6) (mOp2 fIx (mVar 2) (mC (.str [110, 111, 119]))))) (mRet (mOp2 (fEqG false) (mOp2 (fIs) (mVar 9) (mC .non)) (mVar 4))))
def b_law_deed : SM := mSeq (mAsg (gTp (gC (gN 8) (gC (gN 7) (gC (gN 6) (gZ))))) (mTup (mCons (mCall g_law_roll (mCons (mVar 0) (mCons (mC (.int 18)) (mNil)))) (mCons (mOp2 fSub (mCall g_law_roll (mCons (mVar 0) (mCons (mC (.int 4)) (mNil)))) (mApp fInt (mCons (mOp2 (fEqG false) (mCall g_law_roll (mCons (mVar 0) (mCons (mC (.int 20)) (mNil)))) (mC (.int 0))) (mNil)))) (mCons (mOp2 fSub (mOp2 fAdd (mOp2 fIx (mVar 2) (mC (.str [110, 111, 119]))) (mCall g_law_roll (mCons (mVar 0) (mCons (mC (.int 9)) (mNil))))) (mOp2 fMul (mC (.int 9)) (mApp fInt (mCons (mOp2 (fEqG false) (mCall g_law_roll (mCons (mVar 0) (mCons (mC (.int 20)) (mNil)))) (mC (.int 0))) (mNil))))) (mNil)))))) (mSeq (mPar [3, 5] (mCons (mOp2 (fGe) (mVar 6) (mOp2 fIx (mVar 2) (mC (.str [110, 111, 119])))) (mCons (mOp2 fIx (mVar 2) (mC (.str [109, 111, 100, 101]))) (mNil)))) (b_law_deed_t0))
def g_law_deed : FnM := mBody 11 b_law_deed
theorem ok24 (B : Bx base mg cc cP) : CallOk P w K mg base (TBo C cP) 5 (f 24) 3 g_law_deed := by
  refine CallOk.of (ps := ["dice", "mode", "own"]) (fn_okC Z.F24 sc24 rfl fun A outer s H E hr => ?_) Z.b24
  have hN : N24.Nodup := sc24.nd
  have hu := hr.units
  have tk := takes_of (X := cxOf (L2.CX P w) P w K mg base N24 "_law_deed" (defScope st24) (f 24) (.ref (cc 3)) A outer s H E) rfl rfl rfl rfl
  exact (mS_cons (mS_asg (mE_tup (mA_cons (mE_call (ok19 Z B 3) (hr.mono (by decide)) Z.mg19 Z.kp19 tk (mA_cons (mE_var 0) (mA_cons mE_int mA_nil)) (Len.cons (Len.cons Len.nil))) (mA_cons (mE_op op_sub op2_sub (mE_call (ok19 Z B 3) (hr.mono (by decide)) Z.mg19 Z.kp19 tk (mA_cons (mE_var 0) (mA_cons mE_int mA_nil)) (Len.cons (Len.cons Len.nil))) (mE_callTy call_int1 opn_int Z.bi_int (mA_cons (mE_cmp (opr_eqP hu) op2_eqG (mE_call (ok19 Z B 3) (hr.mono (by decide)) Z.mg19 Z.kp19 tk (mA_cons (mE_var 0) (mA_cons mE_int mA_nil)) (Len.cons (Len.cons Len.nil))) mE_int) mA_nil))) (mA_cons (mE_op op_sub op2_sub (mE_op opr_add op2_add (mE_ix hu (mE_var 2) (mE_str [110, 111, 119])) (mE_call (ok19 Z B 3) (hr.mono (by decide)) Z.mg19 Z.kp19 tk (mA_cons (mE_var 0) (mA_cons mE_int mA_nil)) (Len.cons (Len.cons Len.nil)))) (mE_op opr_mul op2_mul mE_int (mE_callTy call_int1 opn_int Z.bi_int (mA_cons (mE_cmp (opr_eqP hu) op2_eqG (mE_call (ok19 Z B 3) (hr.mono (by decide)) Z.mg19 Z.kp19 tk (mA_cons (mE_var 0) (mA_cons mE_int mA_nil)) (Len.cons (Len.cons Len.nil))) mE_int) mA_nil)))) mA_nil))) (Len.cons (Len.cons (Len.cons Len.nil)))) (mG_tup (mG_cons (mG_name 8 [8, 7, 6] hN) (mG_cons (mG_name 7 [8, 7, 6] hN) (mG_cons (mG_name 6 [8, 7, 6] hN) (mG_nil [8, 7, 6])))) (gC_len (gC_len (gC_len gZ_len))))) (mS_cons (mS_par2 3 5 (mA_cons (mE_cmp op_ge op2_ge (mE_var 6) (mE_ix hu (mE_var 2) (mE_str [110, 111, 119]))) (mA_cons (mE_ix hu (mE_var 2) (mE_str [109, 111, 100, 101])) mA_nil)) hN) (mS_cons (mS_if (mT_cmp op_lt op2_lt (mE_var 8) mE_int) (mS_cons (mS_set 4 (mE_andV (mE_var 3) (mE_andV (mE_cmp op_ge op2_ge (mE_var 7) mE_int) (mE_one (mE_cmp (opr_eqP hu) op2_eqG (mE_ix hu (mE_var 2) (mE_str [98, 117, 114, 110, 115])) (mE_str []))))) hN) (mS_cons (mS_if (mT_truth (mE_var 4)) (mS_cons (mS_sub hu (mE_var 2) (mE_str [98, 117, 114, 110, 115]) (mE_callTy call_str_int opn_str Z.bi_str (mA_cons (mE_var 7) mA_nil))) (mS_one (mS_if (mT_cmp (opr_in hu) op2_inG (mE_var 5) (mE_lst (mA_cons (mE_str [110, 111, 114, 109, 97, 108]) (mA_cons (mE_str [111, 119, 110]) mA_nil)) (Len.cons (Len.cons Len.nil)))) (mS_one (mS_exp (mE_call (ok23 Z B) (hr.mono (by decide)) Z.mg23 Z.kp23 tk (mA_cons (mE_var 2) (mA_cons (mE_str [114, 101, 99, 97, 108, 108]) (mA_cons (mE_op opr_add op2_add (mE_str [102, 105, 114, 101, 32, 97, 116, 32]) (mE_callTy call_str_int opn_str Z.bi_str (mA_cons (mE_var 7) mA_nil))) (mA_cons (mE_var 6) mA_nil)))) (Len.cons (Len.cons (Len.cons (Len.cons Len.nil))))))) mS_skip))) mS_skip) (mS_one (mS_set 9 (mE_told (k := 2) Z.told (tx24 Z B) (hr.mono (by decide)) (⟨LamX.lamS_by (by show LamX.lamSB (defScope st24) _ = true; decide +kernel), rfl, by intros; rfl⟩ : LamOk _ _) (fun A2 outer2 s2 H2 E2 f2 c2 hr2 => (mE_meth (MTab.one (cf2 Z) (nf_2_put_alarm) Z.me3 (ok3 Z B)) (hr2.mono (by decide)) (takes_of rfl rfl rfl rfl) (mE_var 1) (mA_cons (mE_var 7) (mA_cons (mE_var 6) mA_nil)) (Len.cons (Len.cons Len.nil))))) hN)))) (mS_one (mS_if (mT_cmp op_lt op2_lt (mE_var 8) mE_int) (mS_cons (mS_set 4 (mE_andV (mE_var 3) (mE_andV (mE_cmp op_ge op2_ge (mE_var 7) mE_int) (mE_one (mE_cmp (opr_notIn hu) op2_inG (mE_var 5) (mE_lst (mA_cons (mE_str [111, 117, 116]) (mA_cons (mE_str [99, 97, 114, 101]) mA_nil)) (Len.cons (Len.cons Len.nil))))))) hN) (mS_cons (mS_exp (mE_bm PySem.F.plainAttrs_dict PySem.F.slot_dict_update PySem.F.type_dict_update mt_update ty_dict opm_upd (mE_var 2) (mA_cons (mE_ifE (mT_truth (mE_var 4)) (mE_dct (mP_cons (mE_str [112, 108, 97, 99, 101]) (mE_var 7) mP_nil)) mE_dct0) mA_nil))) (mS_one (mS_set 9 (mE_told (k := 2) Z.told (tx24 Z B) (hr.mono (by decide)) (⟨LamX.lamS_by (by show LamX.lamSB (defScope st24) _ = true; decide +kernel), rfl, by intros; rfl⟩ : LamOk _ _) (fun A2 outer2 s2 H2 E2 f2 c2 hr2 => (mE_meth (MTab.one (cf2 Z) (nf_2_arrive_at) Z.me5 (ok5 Z B)) (hr2.mono (by decide)) (takes_of rfl rfl rfl rfl) (mE_var 1) (mA_cons (mE_var 7) (mA_cons (mE_var 6) mA_nil)) (Len.cons (Len.cons Len.nil))))) hN)))) (mS_one (mS_if (mT_cmp op_lt op2_lt (mE_var 8) mE_int) (mS_cons (mS_set 4 (mE_andV (mE_var 3) (mE_one (mE_orV (mE_andV (mE_cmp (opr_eqP hu) op2_eqG (mE_var 5) (mE_str [114, 101, 99, 97, 108, 108])) (mE_one (mE_cmp (opr_eqP hu) op2_eqG (mE_ix hu (mE_var 2) (mE_str [112, 108, 97, 99, 101])) (mE_call (ok22 Z B) (hr.mono (by decide)) Z.mg22 Z.kp22 tk (mA_cons (mE_var 2) mA_nil) (Len.cons Len.nil))))) (mE_one (mE_andV (mE_cmp (opr_eqP hu) op2_eqG (mE_var 5) (mE_str [102, 105, 114, 101])) (mE_one (mE_cmp (opr_in hu) op2_inG (mE_ix hu (mE_var 2) (mE_str [112, 108, 97, 99, 101])) (mE_lst (mA_cons (mE_ix hu (mE_var 2) (mE_str [104, 111, 109, 101])) (mA_cons (mE_ix hu (mE_var 2) (mE_str [111, 116, 104, 101, 114])) mA_nil)) (Len.cons (Len.cons Len.nil)))))))))) hN) (mS_cons (mS_if (mT_truth (mE_var 4)) (mS_one (mS_exp (mE_call (ok23 Z B) (hr.mono (by decide)) Z.mg23 Z.kp23 tk (mA_cons (mE_var 2) (mA_cons (mE_ifE (mT_cmp (opr_eqP hu) op2_eqG (mE_var 5) (mE_str [114, 101, 99, 97, 108, 108])) (mE_str [102, 105, 114, 101]) (mE_str [114, 101, 99, 97, 108, 108])) (mA_cons (mE_str [107, 101, 121]) (mA_cons (mE_var 6) mA_nil)))) (Len.cons (Len.cons (Len.cons (Len.cons Len.nil))))))) mS_skip) (mS_one (mS_set 9 (mE_told (k := 2) Z.told (tx24 Z B) (hr.mono (by decide)) (⟨LamX.lamS_by (by show LamX.lamSB (defScope st24) _ = true; decide +kernel), rfl, by intros; rfl⟩ : LamOk _ _) (fun A2 outer2 s2 H2 E2 f2 c2 hr2 => (mE_meth (MTab.one (cf2 Z) (nf_2_turn_key) Z.me6 (ok6 Z B)) (hr2.mono (by decide)) (takes_of rfl rfl rfl rfl) (mE_var 1) (mA_cons (mE_var 6) mA_nil) (Len.cons Len.nil)))) hN)))) (mS_one (mS_if (mT_cmp op_lt op2_lt (mE_var 8) mE_int) (mS_cons (mS_set 4 (mE_andV (mE_var 3) (mE_andV (mE_cmp (opr_neP hu) op2_eqG (mE_ix hu (mE_var 2) (mE_str [98, 117, 114, 110, 115])) (mE_str [])) (mE_one (mE_cmp (opr_neP hu) op2_eqG (mE_var 5) (mE_str [102, 105, 114, 101]))))) hN) (mS_cons (mS_if (mT_truth (mE_var 4)) (mS_cons (mS_sub hu (mE_var 2) (mE_str [98, 117, 114, 110, 115]) (mE_str [])) (mS_one (mS_if (mT_cmp (opr_eqP hu) op2_eqG (mE_var 5) (mE_str [114, 101, 99, 97, 108, 108])) (mS_one (mS_exp (mE_call (ok23 Z B) (hr.mono (by decide)) Z.mg23 Z.kp23 tk (mA_cons (mE_var 2) (mA_cons (mE_str [110, 111, 114, 109, 97, 108]) (mA_cons (mE_str [99, 108, 101, 97, 114]) (mA_cons (mE_var 6) mA_nil)))) (Len.cons (Len.cons (Len.cons (Len.cons Len.nil))))))) mS_skip))) mS_skip) (mS_one (mS_set 9 (mE_told (k := 2) Z.told (tx24 Z B) (hr.mono (by decide)) (⟨LamX.lamS_by (by show LamX.lamSB (defScope st24) _ = true; decide +kernel), rfl, by intros; rfl⟩ : LamOk _ _) (fun A2 outer2 s2 H2 E2 f2 c2 hr2 => (mE_meth (MTab.one (cf2 Z) (nf_2_all_clear) Z.me7 (ok7 Z B)) (hr2.mono (by decide)) (takes_of rfl rfl rfl rfl) (mE_var 1) (mA_cons (mE_var 6) mA_nil) (Len.cons Len.nil)))) hN)))) (mS_one (mS_if (mT_cmp (opr_eqP hu) op2_eqG (mE_var 8) mE_int) (mS_cons (mS_set 4 (mE_andV (mE_var 3) (mE_one (mE_cmp (opr_eqP hu) op2_eqG (mE_var 5) (mE_str [110, 111, 114, 109, 97, 108])))) hN) (mS_cons (mS_if (mT_truth (mE_var 4)) (mS_one (mS_exp (mE_call (ok23 Z B) (hr.mono (by decide)) Z.mg23 Z.kp23 tk (mA_cons (mE_var 2) (mA_cons (mE_str [111, 119, 110]) (mA_cons (mE_str [107, 101, 121]) (mA_cons (mE_var 6) mA_nil)))) (Len.cons (Len.cons (Len.cons (Len.cons Len.nil))))))) mS_skip) (mS_one (mS_set 9 (mE_told (k := 2) Z.told (tx24 Z B) (hr.mono (by decide)) (⟨LamX.lamS_by (by show LamX.lamSB (defScope st24) _ = true; decide +kernel), rfl, by intros; rfl⟩ : LamOk _ _) (fun A2 outer2 s2 H2 E2 f2 c2 hr2 => (mE_meth (MTab.one (cf2 Z) (nf_2_take_own) Z.me8 (ok8 Z B)) (hr2.mono (by decide)) (takes_of rfl rfl rfl rfl) (mE_var 1) (mA_cons (mE_var 6) mA_nil) (Len.cons Len.nil)))) hN)))) (mS_one (mS_if (mT_cmp op_lt op2_lt (mE_var 8) mE_int) (mS_cons (mS_set 4 (mE_andV (mE_var 3) (mE_one (mE_cmp (opr_in hu) op2_inG (mE_var 5) (mE_lst (mA_cons (mE_str [111, 119, 110]) (mA_cons (mE_str [99, 97, 114, 101]) mA_nil)) (Len.cons (Len.cons Len.nil)))))) hN) (mS_cons (mS_if (mT_truth (mE_var 4)) (mS_one (mS_exp (mE_call (ok23 Z B) (hr.mono (by decide)) Z.mg23 Z.kp23 tk (mA_cons (mE_var 2) (mA_cons (mE_ifE (mT_cmp (opr_eqP hu) op2_eqG (mE_ix hu (mE_var 2) (mE_str [98, 117, 114, 110, 115])) (mE_str [])) (mE_str [110, 111, 114, 109, 97, 108]) (mE_str [114, 101, 99, 97, 108, 108])) (mA_cons (mE_str [98, 97, 99, 107]) (mA_cons (mE_var 6) mA_nil)))) (Len.cons (Len.cons (Len.cons (Len.cons Len.nil))))))) mS_skip) (mS_one (mS_set 9 (mE_told (k := 2) Z.told (tx24 Z B) (hr.mono (by decide)) (⟨LamX.lamS_by (by show LamX.lamSB (defScope st24) _ = true; decide +kernel), rfl, by intros; rfl⟩ : LamOk _ _) (fun A2 outer2 s2 H2 E2 f2 c2 hr2 => (mE_meth (MTab.one (cf2 Z) (nf_2_give_back) Z.me9 (ok9 Z B)) (hr2.mono (by decide)) (takes_of rfl rfl rfl rfl) (mE_var 1) (mA_cons (mE_var 6) mA_nil) (Len.cons Len.nil)))) hN)))) (mS_one (mS_if (mT_cmp op_lt op2_lt (mE_var 8) mE_int) (mS_cons (mS_set 4 (mE_andV (mE_var 3) (mE_one (mE_cmp (opr_in hu) op2_inG (mE_var 5) (mE_lst (mA_cons (mE_str [110, 111, 114, 109, 97, 108]) (mA_cons (mE_str [111, 119, 110]) (mA_cons (mE_str [111, 117, 116]) mA_nil))) (Len.cons (Len.cons (Len.cons Len.nil))))))) hN) (mS_cons (mS_if (mT_truth (mE_var 4)) (mS_one (mS_exp (mE_call (ok23 Z B) (hr.mono (by decide)) Z.mg23 Z.kp23 tk (mA_cons (mE_var 2) (mA_cons (mE_str [99, 97, 114, 101]) (mA_cons (mE_str [99, 97, 114, 101]) (mA_cons (mE_var 6) mA_nil)))) (Len.cons (Len.cons (Len.cons (Len.cons Len.nil))))))) mS_skip) (mS_one (mS_set 9 (mE_told (k := 2) Z.told (tx24 Z B) (hr.mono (by decide)) (⟨LamX.lamS_by (by show LamX.lamSB (defScope st24) _ = true; decide +kernel), rfl, by intros; rfl⟩ : LamOk _ _) (fun A2 outer2 s2 H2 E2 f2 c2 hr2 => (mE_meth (MTab.one (cf2 Z) (nf_2_take_care) Z.me10 (ok10 Z B)) (hr2.mono (by decide)) (takes_of rfl rfl rfl rfl) (mE_var 1) (mA_cons (mE_var 6) mA_nil) (Len.cons Len.nil)))) hN)))) (mS_cons (mS_set 10 (mE_ix hu (mE_lst (mA_cons (mE_str [98, 101, 108, 116]) (mA_cons (mE_str []) mA_nil)) (Len.cons (Len.cons Len.nil))) (mE_op op_fdivN op2_div (mE_call (ok19 Z B 3) (hr.mono (by decide)) Z.mg19 Z.kp19 tk (mA_cons (mE_var 0) (mA_cons mE_int mA_nil)) (Len.cons (Len.cons Len.nil))) mE_int)) hN) (mS_cons (mS_set 4 (mE_andV (mE_var 3) (mE_andV (mE_cmp (opr_neP hu) op2_eqG (mE_var 10) (mE_str [])) (mE_one (mE_cmp (opr_neP hu) op2_eqG (mE_var 5) (mE_str [111, 117, 116]))))) hN) (mS_cons (mS_if (mT_truth (mE_var 4)) (mS_one (mS_exp (mE_call (ok23 Z B) (hr.mono (by decide)) Z.mg23 Z.kp23 tk (mA_cons (mE_var 2) (mA_cons (mE_str [111, 117, 116]) (mA_cons (mE_var 10) (mA_cons (mE_var 6) mA_nil)))) (Len.cons (Len.cons (Len.cons (Len.cons Len.nil))))))) mS_skip) (mS_one (mS_set 9 (mE_told (k := 2) Z.told (tx24 Z B) (hr.mono (by decide)) (⟨LamX.lamS_by (by show LamX.lamSB (defScope st24) _ = true; decide +kernel), rfl, by intros; rfl⟩ : LamOk _ _) (fun A2 outer2 s2 H2 E2 f2 c2 hr2 => (mE_meth (MTab.one (cf2 Z) (nf_2_let_fail) Z.me11 (ok11 Z B)) (hr2.mono (by decide)) (takes_of rfl rfl rfl rfl) (mE_var 1) (mA_cons (mE_var 10) (mA_cons (mE_var 6) mA_nil)) (Len.cons (Len.cons Len.nil))))) hN)))))))))))))))))) (mS_cons (mS_sub hu (mE_var 2) (mE_str [110, 111, 119]) (mE_ifE (mT_truth (mE_var 4)) (mE_var 6) (mE_ix hu (mE_var 2) (mE_str [110, 111, 119])))) (mS_one (mS_ret (mE_cmp (opr_eqP hu) op2_eqG (mE_cmp opr_is op2_is (mE_var 9) mE_non) (mE_var 4))))))))
/-! law -/
def b_law_f0 : SM := mSeq (mIf (mNot (mTru (mCall g_law_deed (mCons (mVar 1) (mCons (mVar 6) (mCons (mVar 8) (mNil))))))) (mRet (mC (.bl false))) (mSkip)) (mSeq (mIf (mBool (mOp2 (fEqG true) (mTup (mCons (mFld ft_mode (mVar 6)) (mCons (mFld ft_place (mVar 6)) (mCons (mFld ft_burns (mVar 6)) (mCons (mFld ft_moves (mVar 6)) (mCons (mFld ft_now (mVar 6)) (mNil))))))) (mTup (mCons (mOp2 fIx (mVar 8) (mC (.str [109, 111, 100, 101]))) (mCons (mOp2 fIx (mVar 8) (mC (.str [112, 108, 97, 99, 101]))) (mCons (mOp2 fIx (mVar 8) (mC (.str [98, 117, 114, 110, 115]))) (mCons (mOp2 fIx (mVar 8) (mC (.str [109, 111, 118, 101, 115]))) (mCons (mOp2 fIx (mVar 8) (mC (.str [110, 111, 119]))) (mNil))))))))) (mRet (mC (.bl false))) (mSkip)) (mSeq (mIf (mOr (mBool (mOp2 (fEqG true) (mMeth [(2, g_Mode_goal_now)] (mVar 6) mNil) (mCall g_law_goal (mCons (mVar 8) (mNil))))) (mAnd (mBool (mOp2 (fEqG true) (mOp2 fIx (mVar 8) (mC (.str [98, 117, 114, 110, 115]))) (mC (.str [])))) (mBool (mOp2 (fInG false) (mOp2 fIx (mVar 8) (mC (.str [109, 111, 100, 101]))) (mLst (mCons (mC (.str [110, 111, 114, 109, 97, 108])) (mCons (mC (.str [111, 119, 110])) (mNil)))))))) (mRet (mC (.bl false))) (mSkip)) (mSeq (mIf (mBool (mOp2 (fEqG true) (mMeth [(2, g_Mode_takes_calls)] (mVar 6) mNil) (mTup (mCons (mOp2 (fEqG false) (mOp2 fIx (mVar 8) (mC (.str [109, 111, 100, 101]))) (mC (.str [110, 111, 114, 109, 97, 108]))) (mCons (mOp2 (fInG false) (mOp2 fIx (mVar 8) (mC (.str [109, 111, 100, 101]))) (mLst (mCons (mC (.str [110, 111, 114, 109, 97, 108])) (mCons (mC (.str [111, 119, 110])) (mCons (mC (.str [102, 105, 114, 101])) (mNil)))))) (mNil)))))) (mRet (mC (.bl false))) (mSkip)) (mIf (mBool (mOp2 (fEqG true) (mMeth [(2, g_Mode_door_by_itself)] (mVar 6) mNil) (mOp2 (fInG false) (mOp2 fIx (mVar 8) (mC (.str [109, 111, 100, 101]))) (mLst (mCons (mC (.str [110, 111, 114, 109, 97, 108])) (mCons (mC (.str [111, 119, 110])) (mCons (mC (.str [114, 101, 99, 97, 108, 108])) (mNil)))))))) (mRet (mC (.bl false))) (mSkip)))))
def b_law_c1 : EM := mLC (mIV (mOp2 fIx (mVar 8) (mC (.str [109, 111, 118, 101, 115])))) [15] (gN 15) (mBool (mOp2 (fLe) (mOp2 fIx (mVar 15) (mC (.int 0))) (mVar 11))) (mVar 15)
def b_law_c2 : EM := mLC (mIA rngV2 (mCons (mVar 2) (mCons (mVar 5) (mNil)))) [11] (gN 11) (mYes) (mOp2 fIx (mOp2 fIx (mOp2 fAdd (mLst (mCons (mTup (mCons (mC (.str [120])) (mCons (mC (.str [110, 111, 114, 109, 97, 108])) (mNil)))) (mNil))) (b_law_c1)) (mOp1 fNeg (mC (.int 1)))) (mC (.int 1)))
def b_law_c3 : EM := mLC (mIV (mC c_MODES)) [13] (gN 13) (mYes) (mMeth [(2, g_Mode_seconds_in)] (mVar 6) (mCons (mVar 13) (mCons (mVar 2) (mCons (mVar 5) (mNil)))))
def b_law_c4 : EM := mLC (mIV (mC c_MODES)) [13] (gN 13) (mYes) (mBm isLs fCount (mVar 9) (mCons (mVar 13) (mNil)))
def b_law_c5 : EM := mLC (mIA rngV2 (mCons (mVar 2) (mCons (mVar 5) (mNil)))) [11] (gN 11) (mYes) (mMeth [(2, g_Mode_mode_at)] (mVar 6) (mCons (mVar 11) (mNil)))
def b_law_c6 : EM := mLC (mIV (mOp2 fIx (mVar 8) (mC (.str [109, 111, 118, 101, 115])))) [12, 13, 14] (gTp (gC (gN 12) (gC (gN 13) (gC (gN 14) (gZ))))) (mYes) (mOp2 fAdd (mOp2 fAdd (mOp2 fAdd (mOp2 fAdd (mApp fStr (mCons (mVar 12) (mNil))) (mC (.str [32]))) (mVar 13)) (mC (.str [32]))) (mVar 14))
def b_law_t7 : SM := mSeq (mIf (mOr (mBool (mOp2 (fEqG true) (b_law_c3) (b_law_c4))) (mBool (mOp2 (fEqG true) (mTold cs_told ret_told (mMeth [(2, g_Mode_share_in_use)] (mVar 6) (mCons (mVar 2) (mCons (mVar 5) (mNil))))) (mIfE (mBool (mOp2 (fGt) (mVar 5) (mVar 2))) (mOp2 fDiv (mOp2 fMul (mC (.int 1000)) (mOp2 fSub (mOp2 fSub (mVar 5) (mVar 2)) (mVar 3))) (mOp2 fSub (mVar 5) (mVar 2))) (mC (.str [77, 111, 100, 101, 69, 114, 114, 111, 114])))))) (mRet (mC (.bl false))) (mSkip)) (mSeq (mIf (mBool (mOp2 (fEqG true) (b_law_c5) (mVar 9))) (mRet (mC (.bl false))) (mSkip)) (mIf (mBool (mOp2 (fEqG true) (mApp fList (mCons (mMeth [(2, g_Mode_move_lines)] (mVar 6) mNil) (mNil))) (b_law_c6))) (mRet (mC (.bl false))) (mSkip)))
def b_law_t8 : SM := mSeq (mSet 2 (mCall g_law_roll (mCons (mVar 1) (mCons (mC (.int 60)) (mNil))))) (mSeq (mSet 5 (mOp2 fAdd (mVar 2) (mCall g_law_roll (mCons (mVar 1) (mCons (mC (.int 90)) (mNil)))))) (mSeq (mSet 9 (b_law_c2)) (mSeq (mSet 3 (mOp2 fAdd (mBm isLs fCount (mVar 9) (mCons (mC (.str [99, 97, 114, 101])) (mNil))) (mBm isLs fCount (mVar 9) (mCons (mC (.str [111, 117, 116])) (mNil))))) (b_law_t7))))
def b_law_t9 : SM := mSeq (mFor (mIA rngV1 (mCons (mCall g_law_roll (mCons (mVar 1) (mCons (mC (.int 28)) (mNil)))) (mNil))) (gN 10) (b_law_f0)) (b_law_t8)
def b_law_f10 : SM := mSeq (mSet 4 (mCall g_law_roll (mCons (mVar 1) (mCons (mC (.int 3)) (mNil))))) (mSeq (mSet 7 (mOp2 fMod (mOp2 fAdd (mOp2 fAdd (mVar 4) (mC (.int 1))) (mCall g_law_roll (mCons (mVar 1) (mCons (mC (.int 2)) (mNil))))) (mC (.int 4)))) (mSeq (mAsg (gTp (gC (gN 6) (gC (gN 8) (gZ)))) (mTup (mCons (mMake 2 7 g_Mode_init (mCons (mC (.int 3)) (mCons (mVar 4) (mCons (mVar 7) (mNil))))) (mCons (mDctR [(mC (.str [109, 111, 100, 101]), mC (.str [110, 111, 114, 109, 97, 108])), (mC (.str [112, 108, 97, 99, 101]), mC (.int 3)), (mC (.str [104, 111, 109, 101]), mVar 4), (mC (.str [111, 116, 104, 101, 114]), mVar 7), (mC (.str [98, 117, 114, 110, 115]), mC (.str [])), (mC (.str [109, 111, 118, 101, 115]), mLst (mNil)), (mC (.str [110, 111, 119]), mC (.int 0))]) (mNil))))) (b_law_t9)))
def b_law : SM := mSeq (mFor (mIV (mCall g_law_rounds (mCons (mVar 0) (mCons (mC (.int 1)) (mNil))))) (gN 1) (b_law_f10)) (mRet (mCall g_law_plain mNil))
def g_law : FnM := mBody 16 b_law
theorem fnlaw (B : Bx base mg cc cP) : FnOk P w K mg base (L2.CX P w) 11 (f 26) (fd 26) ["script"] (spM (TBo C cP) K 1 g_law) := by
  refine fn_okC Z.F26 sc26 rfl fun A outer s H E hr => ?_
  have hN : N26.Nodup := sc26.nd
  have hu := hr.units
  have tk := takes_of (X := cxOf (L2.CX P w) P w K mg base N26 "law" (defScope st26) (f 26) (.ref (cc 4)) A outer s H E) rfl rfl rfl rfl
  exact (mS_cons (mS_for (passes_of rfl) (mI_val (mE_call (ok20 Z B) (hr.mono (by decide)) Z.mg20 Z.kp20 tk (mA_cons (mE_var 0) (mA_cons mE_int mA_nil)) (Len.cons (Len.cons Len.nil)))) (mG_name 1 [1] hN) (mS_cons (mS_set 4 (mE_call (ok19 Z B 3) (hr.mono (by decide)) Z.mg19 Z.kp19 tk (mA_cons (mE_var 1) (mA_cons mE_int mA_nil)) (Len.cons (Len.cons Len.nil))) hN) (mS_cons (mS_set 7 (mE_op op_modN op2_mod (mE_op opr_add op2_add (mE_op opr_add op2_add (mE_var 4) mE_int) (mE_call (ok19 Z B 3) (hr.mono (by decide)) Z.mg19 Z.kp19 tk (mA_cons (mE_var 1) (mA_cons mE_int mA_nil)) (Len.cons (Len.cons Len.nil)))) mE_int) hN) (mS_cons (mS_asg (mE_tup (mA_cons (mE_make Z.mk2 rfl (ok0 Z B) (hr.mono (by decide)) Z.mgc2 tk (mA_cons mE_int (mA_cons (mE_var 4) (mA_cons (mE_var 7) mA_nil))) (Len.cons (Len.cons (Len.cons Len.nil)))) (mA_cons (mE_dctR (mP_cons (mE_str [109, 111, 100, 101]) (mE_str [110, 111, 114, 109, 97, 108]) (mP_cons (mE_str [112, 108, 97, 99, 101]) mE_int (mP_cons (mE_str [104, 111, 109, 101]) (mE_var 4) (mP_cons (mE_str [111, 116, 104, 101, 114]) (mE_var 7) (mP_cons (mE_str [98, 117, 114, 110, 115]) (mE_str []) (mP_cons (mE_str [109, 111, 118, 101, 115]) (mE_lst mA_nil Len.nil) (mP_cons (mE_str [110, 111, 119]) mE_int mP_nil)))))))) mA_nil)) (Len.cons (Len.cons Len.nil))) (mG_tup (mG_cons (mG_name 6 [6, 8] hN) (mG_cons (mG_name 8 [6, 8] hN) (mG_nil [6, 8]))) (gC_len (gC_len gZ_len)))) (mS_cons (mS_for (passes_of rfl) (mI_rng1 Z.bi_range (mA_cons (mE_call (ok19 Z B 3) (hr.mono (by decide)) Z.mg19 Z.kp19 tk (mA_cons (mE_var 1) (mA_cons mE_int mA_nil)) (Len.cons (Len.cons Len.nil))) mA_nil)) (mG_name 10 [10] hN) (mS_cons (mS_if (mT_not (mT_truth (mE_call (ok24 Z B) (hr.mono (by decide)) Z.mg24 Z.kp24 tk (mA_cons (mE_var 1) (mA_cons (mE_var 6) (mA_cons (mE_var 8) mA_nil))) (Len.cons (Len.cons (Len.cons Len.nil)))))) (mS_one (mS_ret mE_bl)) mS_skip) (mS_cons (mS_if (mT_cmp (opr_neP hu) op2_eqG (mE_tup (mA_cons (mE_fld (ftab_mode Z) (mE_var 6)) (mA_cons (mE_fld (ftab_place Z) (mE_var 6)) (mA_cons (mE_fld (ftab_burns Z) (mE_var 6)) (mA_cons (mE_fld (ftab_moves Z) (mE_var 6)) (mA_cons (mE_fld (ftab_now Z) (mE_var 6)) mA_nil))))) (Len.cons (Len.cons (Len.cons (Len.cons (Len.cons Len.nil)))))) (mE_tup (mA_cons (mE_ix hu (mE_var 8) (mE_str [109, 111, 100, 101])) (mA_cons (mE_ix hu (mE_var 8) (mE_str [112, 108, 97, 99, 101])) (mA_cons (mE_ix hu (mE_var 8) (mE_str [98, 117, 114, 110, 115])) (mA_cons (mE_ix hu (mE_var 8) (mE_str [109, 111, 118, 101, 115])) (mA_cons (mE_ix hu (mE_var 8) (mE_str [110, 111, 119])) mA_nil))))) (Len.cons (Len.cons (Len.cons (Len.cons (Len.cons Len.nil))))))) (mS_one (mS_ret mE_bl)) mS_skip) (mS_cons (mS_if (PW.pt (mT_or (mT_cmp (opr_neP hu) op2_eqG (mE_meth0 (MTab.one (cf2 Z) (nf_2_goal_now) Z.me4 (ok4 Z B)) (hr.mono (by decide)) tk (mE_var 6)) (mE_call (ok22 Z B) (hr.mono (by decide)) Z.mg22 Z.kp22 tk (mA_cons (mE_var 8) mA_nil) (Len.cons Len.nil))) (pw_or1 (PW.pt (mT_and (mT_cmp (opr_neP hu) op2_eqG (mE_ix hu (mE_var 8) (mE_str [98, 117, 114, 110, 115])) (mE_str [])) (pw_and1 (mT_cmp (opr_in hu) op2_inG (mE_ix hu (mE_var 8) (mE_str [109, 111, 100, 101])) (mE_lst (mA_cons (mE_str [110, 111, 114, 109, 97, 108]) (mA_cons (mE_str [111, 119, 110]) mA_nil)) (Len.cons (Len.cons Len.nil)))))))))) (mS_one (mS_ret mE_bl)) mS_skip) (mS_cons (mS_if (mT_cmp (opr_neP hu) op2_eqG (mE_meth0 (MTab.one (cf2 Z) (nf_2_takes_calls) Z.me12 (ok12 Z B)) (hr.mono (by decide)) tk (mE_var 6)) (mE_tup (mA_cons (mE_cmp (opr_eqP hu) op2_eqG (mE_ix hu (mE_var 8) (mE_str [109, 111, 100, 101])) (mE_str [110, 111, 114, 109, 97, 108])) (mA_cons (mE_cmp (opr_in hu) op2_inG (mE_ix hu (mE_var 8) (mE_str [109, 111, 100, 101])) (mE_lst (mA_cons (mE_str [110, 111, 114, 109, 97, 108]) (mA_cons (mE_str [111, 119, 110]) (mA_cons (mE_str [102, 105, 114, 101]) mA_nil))) (Len.cons (Len.cons (Len.cons Len.nil))))) mA_nil)) (Len.cons (Len.cons Len.nil)))) (mS_one (mS_ret mE_bl)) mS_skip) (mS_one (mS_if (mT_cmp (opr_neP hu) op2_eqG (mE_meth0 (MTab.one (cf2 Z) (nf_2_door_by_itself) Z.me13 (ok13 Z B)) (hr.mono (by decide)) tk (mE_var 6)) (mE_cmp (opr_in hu) op2_inG (mE_ix hu (mE_var 8) (mE_str [109, 111, 100, 101])) (mE_lst (mA_cons (mE_str [110, 111, 114, 109, 97, 108]) (mA_cons (mE_str [111, 119, 110]) (mA_cons (mE_str [114, 101, 99, 97, 108, 108]) mA_nil))) (Len.cons (Len.cons (Len.cons Len.nil)))))) (mS_one (mS_ret mE_bl)) mS_skip))))))) (mS_cons (mS_set 2 (mE_call (ok19 Z B 3) (hr.mono (by decide)) Z.mg19 Z.kp19 tk (mA_cons (mE_var 1) (mA_cons mE_int mA_nil)) (Len.cons (Len.cons Len.nil))) hN) (mS_cons (mS_set 5 (mE_op opr_add op2_add (mE_var 2) (mE_call (ok19 Z B 3) (hr.mono (by decide)) Z.mg19 Z.kp19 tk (mA_cons (mE_var 1) (mA_cons mE_int mA_nil)) (Len.cons (Len.cons Len.nil)))) hN) (mS_cons (mS_set 9 (mE_lc (own := [("second", 11)]) hN (mI_rng2 Z.bi_range (mA_cons (mE_var 2) (mA_cons (mE_var 5) mA_nil))) (blkOk_by (by show blkC N26 (defScope st26) _ _ = true; decide +kernel)) (fun _ _ _ _ _ => (mG_name 11 [11] hN)) (fun _ _ _ _ _ => mT_yes) (fun _ _ _ _ _ => (mE_ix hu (mE_ix hu (mE_op opr_add op2_add (mE_lst (mA_cons (mE_tup (mA_cons (mE_str [120]) (mA_cons (mE_str [110, 111, 114, 109, 97, 108]) mA_nil)) (Len.cons (Len.cons Len.nil))) mA_nil) (Len.cons Len.nil)) (mE_lc (own := [("row", 15)]) hN (mI_val (mE_ix hu (mE_var 8) (mE_str [109, 111, 118, 101, 115]))) (blkOk_by (by rfl)) (fun _ _ _ _ _ => (mG_name 15 [15] hN)) (fun _ _ _ _ _ => (pts_one (mT_cmp op_le op2_le (mE_ix hu (mE_var 15) mE_int) (mE_var 11)))) (fun _ _ _ _ _ => (mE_var 15)))) (mE_un un_neg op1_neg mE_int)) mE_int))) hN) (mS_cons (mS_set 3 (mE_op opr_add op2_add (mE_bm PySem.F.plainAttrs_list PySem.F.slot_list_count PySem.F.type_list_count (mt_countD hu) ty_ls opm_count (mE_var 9) (mA_cons (mE_str [99, 97, 114, 101]) mA_nil)) (mE_bm PySem.F.plainAttrs_list PySem.F.slot_list_count PySem.F.type_list_count (mt_countD hu) ty_ls opm_count (mE_var 9) (mA_cons (mE_str [111, 117, 116]) mA_nil))) hN) (mS_cons (mS_if (PW.pt (mT_or (mT_cmp (opr_neP hu) op2_eqG (mE_lc (own := [("one", 13)]) hN (mI_val (mE_glob Z.gm_MODES (gr_MODES Z) (gq_MODES Z))) (blkOk_by (by show blkC N26 (defScope st26) _ _ = true; decide +kernel)) (fun _ _ _ _ _ => (mG_name 13 [13] hN)) (fun _ _ _ _ _ => mT_yes) (fun _ _ _ _ _ => (mE_meth (MTab.one (cf2 Z) (nf_2_seconds_in) Z.me14 (ok14 Z B)) (hr.mono (by decide)) takes0 (mE_var 6) (mA_cons (mE_var 13) (mA_cons (mE_var 2) (mA_cons (mE_var 5) mA_nil))) (Len.cons (Len.cons (Len.cons Len.nil)))))) (mE_lc (own := [("one", 13)]) hN (mI_val (mE_glob Z.gm_MODES (gr_MODES Z) (gq_MODES Z))) (blkOk_by (by show blkC N26 (defScope st26) _ _ = true; decide +kernel)) (fun _ _ _ _ _ => (mG_name 13 [13] hN)) (fun _ _ _ _ _ => mT_yes) (fun _ _ _ _ _ => (mE_bm PySem.F.plainAttrs_list PySem.F.slot_list_count PySem.F.type_list_count (mt_countD hu) ty_ls opm_count (mE_var 9) (mA_cons (mE_var 13) mA_nil))))) (pw_or1 (mT_cmp (opr_neP hu) op2_eqG (mE_told (k := 7) Z.told (tx26 Z B) (hr.mono (by decide)) (⟨LamX.lamS_by (by show LamX.lamSB (defScope st26) _ = true; decide +kernel), rfl, by intros; rfl⟩ : LamOk _ _) (fun A2 outer2 s2 H2 E2 f2 c2 hr2 => (mE_meth (MTab.one (cf2 Z) (nf_2_share_in_use) Z.me16 (ok16 Z B)) (hr2.mono (by decide)) (takes_of rfl rfl rfl rfl) (mE_var 6) (mA_cons (mE_var 2) (mA_cons (mE_var 5) mA_nil)) (Len.cons (Len.cons Len.nil))))) (mE_ifE (mT_cmp op_gt op2_gt (mE_var 5) (mE_var 2)) (mE_op op_fdivN op2_div (mE_op opr_mul op2_mul mE_int (mE_op op_sub op2_sub (mE_op op_sub op2_sub (mE_var 5) (mE_var 2)) (mE_var 3))) (mE_op op_sub op2_sub (mE_var 5) (mE_var 2))) (mE_str [77, 111, 100, 101, 69, 114, 114, 111, 114])))))) (mS_one (mS_ret mE_bl)) mS_skip) (mS_cons (mS_if (mT_cmp (opr_neP hu) op2_eqG (mE_lc (own := [("second", 11)]) hN (mI_rng2 Z.bi_range (mA_cons (mE_var 2) (mA_cons (mE_var 5) mA_nil))) (blkOk_by (by show blkC N26 (defScope st26) _ _ = true; decide +kernel)) (fun _ _ _ _ _ => (mG_name 11 [11] hN)) (fun _ _ _ _ _ => mT_yes) (fun _ _ _ _ _ => (mE_meth (MTab.one (cf2 Z) (nf_2_mode_at) Z.me15 (ok15 Z B)) (hr.mono (by decide)) takes0 (mE_var 6) (mA_cons (mE_var 11) mA_nil) (Len.cons Len.nil)))) (mE_var 9)) (mS_one (mS_ret mE_bl)) mS_skip) (mS_one (mS_if (mT_cmp (opr_neP hu) op2_eqG (mE_callTy call_list_of opn_list Z.bi_list (mA_cons (mE_meth0 (MTab.one (cf2 Z) (nf_2_move_lines) Z.me17 (ok17 Z B)) (hr.mono (by decide)) tk (mE_var 6)) mA_nil)) (mE_lc (own := [("now", 12), ("one", 13), ("why", 14)]) hN (mI_val (mE_ix hu (mE_var 8) (mE_str [109, 111, 118, 101, 115]))) (blkOk_by (by show blkC N26 (defScope st26) _ _ = true; decide +kernel)) (fun _ _ _ _ _ => (mG_tup (mG_cons (mG_name 12 [12, 13, 14] hN) (mG_cons (mG_name 13 [12, 13, 14] hN) (mG_cons (mG_name 14 [12, 13, 14] hN) (mG_nil [12, 13, 14])))) (gC_len (gC_len (gC_len gZ_len))))) (fun _ _ _ _ _ => mT_yes) (fun _ _ _ _ _ => (mE_op opr_add op2_add (mE_op opr_add op2_add (mE_op opr_add op2_add (mE_op opr_add op2_add (mE_callTy call_str_int opn_str Z.bi_str (mA_cons (mE_var 12) mA_nil)) (mE_str [32])) (mE_var 13)) (mE_str [32])) (mE_var 14))))) (mS_one (mS_ret mE_bl)) mS_skip))))))))))))) (mS_one (mS_ret (mE_call0 (ok25 Z B) (hr.mono (by decide)) Z.mg25 Z.kp25 tk))))
end
theorem all_mk {w : World} {K : PySem.W.Frag} {h : Heap} {mg : Str → Option Value} {fa : Addr} {C0 C1 C2 f18 f20 f0 f1 f2 f10 f9 f3 f4 f5 f6 f12 f13 f7 f8 f11 f15 f14 f16 f17 f21 f25 f19 f23 f22 f24 f26 g0 cc0 cP0 cc1 cP1 cc2 cP2 cc3 cP3 cc4 cP4 : Addr} {oc18 kV18 dc18 pm18 cd18 ct18 : Value} {od18 an18 : Option Addr} {sl18 : Array (Option Value)} {oc20 kV20 dc20 pm20 cd20 ct20 : Value} {od20 an20 : Option Addr} {sl20 : Array (Option Value)} {oc0 kV0 dc0 pm0 cd0 ct0 : Value} {od0 an0 : Option Addr} {sl0 : Array (Option Value)} {oc1 kV1 dc1 pm1 cd1 ct1 : Value} {od1 an1 : Option Addr} {sl1 : Array (Option Value)} {oc2 kV2 dc2 pm2 cd2 ct2 : Value} {od2 an2 : Option Addr} {sl2 : Array (Option Value)} {oc10 kV10 dc10 pm10 cd10 ct10 : Value} {od10 an10 : Option Addr} {sl10 : Array (Option Value)} {oc9 kV9 dc9 pm9 cd9 ct9 : Value} {od9 an9 : Option Addr} {sl9 : Array (Option Value)} {oc3 kV3 dc3 pm3 cd3 ct3 : Value} {od3 an3 : Option Addr} {sl3 : Array (Option Value)} {oc4 kV4 dc4 pm4 cd4 ct4 : Value} {od4 an4 : Option Addr} {sl4 : Array (Option Value)} {oc5 kV5 dc5 pm5 cd5 ct5 : Value} {od5 an5 : Option Addr} {sl5 : Array (Option Value)} {oc6 kV6 dc6 pm6 cd6 ct6 : Value} {od6 an6 : Option Addr} {sl6 : Array (Option Value)} {oc12 kV12 dc12 pm12 cd12 ct12 : Value} {od12 an12 : Option Addr} {sl12 : Array (Option Value)} {oc13 kV13 dc13 pm13 cd13 ct13 : Value} {od13 an13 : Option Addr} {sl13 : Array (Option Value)} {oc7 kV7 dc7 pm7 cd7 ct7 : Value} {od7 an7 : Option Addr} {sl7 : Array (Option Value)} {oc8 kV8 dc8 pm8 cd8 ct8 : Value} {od8 an8 : Option Addr} {sl8 : Array (Option Value)} {oc11 kV11 dc11 pm11 cd11 ct11 : Value} {od11 an11 : Option Addr} {sl11 : Array (Option Value)} {oc15 kV15 dc15 pm15 cd15 ct15 : Value} {od15 an15 : Option Addr} {sl15 : Array (Option Value)} {oc14 kV14 dc14 pm14 cd14 ct14 : Value} {od14 an14 : Option Addr} {sl14 : Array (Option Value)} {oc16 kV16 dc16 pm16 cd16 ct16 : Value} {od16 an16 : Option Addr} {sl16 : Array (Option Value)} {oc17 kV17 dc17 pm17 cd17 ct17 : Value} {od17 an17 : Option Addr} {sl17 : Array (Option Value)} {oc21 kV21 dc21 pm21 cd21 ct21 : Value} {od21 an21 : Option Addr} {sl21 : Array (Option Value)} {oc25 kV25 dc25 pm25 cd25 ct25 : Value} {od25 an25 : Option Addr} {sl25 : Array (Option Value)} {oc19 kV19 dc19 pm19 cd19 ct19 : Value} {od19 an19 : Option Addr} {sl19 : Array (Option Value)} {oc23 kV23 dc23 pm23 cd23 ct23 : Value} {od23 an23 : Option Addr} {sl23 : Array (Option Value)} {oc22 kV22 dc22 pm22 cd22 ct22 : Value} {od22 an22 : Option Addr} {sl22 : Array (Option Value)} {oc24 kV24 dc24 pm24 cd24 ct24 : Value} {od24 an24 : Option Addr} {sl24 : Array (Option Value)} {oc26 kV26 dc26 pm26 cd26 ct26 : Value} {od26 an26 : Option Addr} {sl26 : Array (Option Value)} {ocC0 : Value} {odC0 : Option Addr} {vsC0 : Array Value} {slC0 : Array (Option Value)} {ocC1 : Value} {odC1 : Option Addr} {vsC1 : Array Value} {slC1 : Array (Option Value)} {ocC2 : Value} {odC2 : Option Addr} {vsC2 : Array Value} {slC2 : Array (Option Value)} {ocC3 : Value} {odC3 : Option Addr} {vsC3 : Array Value} {slC3 : Array (Option Value)} {ocC4 : Value} {odC4 : Option Addr} {vsC4 : Array Value} {slC4 : Array (Option Value)} {n0 : Nat} {sl_g0 : Array (Option Value)} {its0 : Array Value} {tg1 : Tok} (X : K.In h) (G : h.Ns mainGlobals mg) (hfa : mg "law" = some (.ref fa))
    (aC0 : PySem.W.nsIn K mainGlobals "LiftFault" = some (some (.ref C0)))
    (xe0 : PySem.W.excIn K C0 [.type "ValueError", .type "Exception", .type "BaseException", .type "object"] "ValueError.__new__" = true)
    (xk0 : PySem.W.keepIn K (.ref C0) = true)
    (xs0 : PySem.W.subIn K (.ref C0) (.type "BaseException") = some true)
    (xt0 : PySem.W.typeIn K (.ref C0) = some (.type "type"))
    (aC1 : PySem.W.nsIn K mainGlobals "ModeError" = some (some (.ref C1)))
    (xe1 : PySem.W.excIn K C1 [.type "ValueError", .type "Exception", .type "BaseException", .type "object"] "ValueError.__new__" = true)
    (xk1 : PySem.W.keepIn K (.ref C1) = true)
    (xs1 : PySem.W.subIn K (.ref C1) (.type "BaseException") = some true)
    (xt1 : PySem.W.typeIn K (.ref C1) = some (.type "type"))
    (aC2 : PySem.W.nsIn K mainGlobals "Mode" = some (some (.ref C2)))
    (pg2 : PySem.W.plainGet K C2 Str.empty = true)
    (hd2 : PySem.W.hasDictIn K C2 = true)
    (po2 : PySem.W.plainOver K C2 = true)
    (sa2 : PySem.W.findIn K (.ref C2) "__setattr__" = some (some (.builtin "object.__setattr__")))
    (mk2 : PySem.W.makesIn K C2 = true)
    (kc2 : PySem.W.keepIn K (.ref C2) = true)
    (na2_mode : PySem.W.findIn K (.ref C2) "mode" = some none)
    (na2_place : PySem.W.findIn K (.ref C2) "place" = some none)
    (na2_home : PySem.W.findIn K (.ref C2) "home" = some none)
    (na2_other : PySem.W.findIn K (.ref C2) "other" = some none)
    (na2_burns : PySem.W.findIn K (.ref C2) "burns" = some none)
    (na2_moves : PySem.W.findIn K (.ref C2) "moves" = some none)
    (na2_now : PySem.W.findIn K (.ref C2) "now" = some none)
    (a18 : PySem.W.nsIn K mainGlobals "_law_dice" = some (some (.ref f18)))
    (l18 : K.lookup f18 = some ⟨oc18, od18, .func (PySem.W.fnOf "_law_dice" "_law_dice" (defArgs st18) (defBody st18) (defScope st18) .none kV18 dc18 pm18 an18 cd18 ct18), sl18⟩)
    (c18 : PySem.W.codeIn K cd18 "_law_dice" = true)
    (k18 : PySem.W.keepIn K (.ref f18) = true)
    (a20 : PySem.W.nsIn K mainGlobals "_law_rounds" = some (some (.ref f20)))
    (l20 : K.lookup f20 = some ⟨oc20, od20, .func (PySem.W.fnOf "_law_rounds" "_law_rounds" (defArgs st20) (defBody st20) (defScope st20) .none kV20 dc20 pm20 an20 cd20 ct20), sl20⟩)
    (c20 : PySem.W.codeIn K cd20 "_law_rounds" = true)
    (k20 : PySem.W.keepIn K (.ref f20) = true)
    (a0 : PySem.W.findIn K (.ref C2) "__init__" = some (some (.ref f0)))
    (i0 : PySem.W.isFn K (.ref f0) = true)
    (l0 : K.lookup f0 = some ⟨oc0, od0, .func (PySem.W.fnOf "__init__" "Mode.__init__" (defArgs st0) (defBody st0) (defScope st0) .none kV0 dc0 pm0 an0 cd0 ct0), sl0⟩)
    (c0 : PySem.W.codeIn K cd0 "Mode.__init__" = true)
    (k0 : PySem.W.keepIn K (.ref f0) = true)
    (a1 : PySem.W.findIn K (.ref C2) "check_second" = some (some (.ref f1)))
    (i1 : PySem.W.isFn K (.ref f1) = true)
    (l1 : K.lookup f1 = some ⟨oc1, od1, .func (PySem.W.fnOf "check_second" "Mode.check_second" (defArgs st1) (defBody st1) (defScope st1) .none kV1 dc1 pm1 an1 cd1 ct1), sl1⟩)
    (c1 : PySem.W.codeIn K cd1 "Mode.check_second" = true)
    (k1 : PySem.W.keepIn K (.ref f1) = true)
    (a2 : PySem.W.findIn K (.ref C2) "change_to" = some (some (.ref f2)))
    (i2 : PySem.W.isFn K (.ref f2) = true)
    (l2 : K.lookup f2 = some ⟨oc2, od2, .func (PySem.W.fnOf "change_to" "Mode.change_to" (defArgs st2) (defBody st2) (defScope st2) .none kV2 dc2 pm2 an2 cd2 ct2), sl2⟩)
    (c2 : PySem.W.codeIn K cd2 "Mode.change_to" = true)
    (k2 : PySem.W.keepIn K (.ref f2) = true)
    (a10 : PySem.W.findIn K (.ref C2) "take_care" = some (some (.ref f10)))
    (i10 : PySem.W.isFn K (.ref f10) = true)
    (l10 : K.lookup f10 = some ⟨oc10, od10, .func (PySem.W.fnOf "take_care" "Mode.take_care" (defArgs st10) (defBody st10) (defScope st10) .none kV10 dc10 pm10 an10 cd10 ct10), sl10⟩)
    (c10 : PySem.W.codeIn K cd10 "Mode.take_care" = true)
    (k10 : PySem.W.keepIn K (.ref f10) = true)
    (a9 : PySem.W.findIn K (.ref C2) "give_back" = some (some (.ref f9)))
    (i9 : PySem.W.isFn K (.ref f9) = true)
    (l9 : K.lookup f9 = some ⟨oc9, od9, .func (PySem.W.fnOf "give_back" "Mode.give_back" (defArgs st9) (defBody st9) (defScope st9) .none kV9 dc9 pm9 an9 cd9 ct9), sl9⟩)
    (c9 : PySem.W.codeIn K cd9 "Mode.give_back" = true)
    (k9 : PySem.W.keepIn K (.ref f9) = true)
    (a3 : PySem.W.findIn K (.ref C2) "put_alarm" = some (some (.ref f3)))
    (i3 : PySem.W.isFn K (.ref f3) = true)
    (l3 : K.lookup f3 = some ⟨oc3, od3, .func (PySem.W.fnOf "put_alarm" "Mode.put_alarm" (defArgs st3) (defBody st3) (defScope st3) .none kV3 dc3 pm3 an3 cd3 ct3), sl3⟩)
    (c3 : PySem.W.codeIn K cd3 "Mode.put_alarm" = true)
    (k3 : PySem.W.keepIn K (.ref f3) = true)
    (a4 : PySem.W.findIn K (.ref C2) "goal_now" = some (some (.ref f4)))
    (i4 : PySem.W.isFn K (.ref f4) = true)
    (l4 : K.lookup f4 = some ⟨oc4, od4, .func (PySem.W.fnOf "goal_now" "Mode.goal_now" (defArgs st4) (defBody st4) (defScope st4) .none kV4 dc4 pm4 an4 cd4 ct4), sl4⟩)
    (c4 : PySem.W.codeIn K cd4 "Mode.goal_now" = true)
    (k4 : PySem.W.keepIn K (.ref f4) = true)
    (a5 : PySem.W.findIn K (.ref C2) "arrive_at" = some (some (.ref f5)))
    (i5 : PySem.W.isFn K (.ref f5) = true)
    (l5 : K.lookup f5 = some ⟨oc5, od5, .func (PySem.W.fnOf "arrive_at" "Mode.arrive_at" (defArgs st5) (defBody st5) (defScope st5) .none kV5 dc5 pm5 an5 cd5 ct5), sl5⟩)
    (c5 : PySem.W.codeIn K cd5 "Mode.arrive_at" = true)
    (k5 : PySem.W.keepIn K (.ref f5) = true)
    (a6 : PySem.W.findIn K (.ref C2) "turn_key" = some (some (.ref f6)))
    (i6 : PySem.W.isFn K (.ref f6) = true)
    (l6 : K.lookup f6 = some ⟨oc6, od6, .func (PySem.W.fnOf "turn_key" "Mode.turn_key" (defArgs st6) (defBody st6) (defScope st6) .none kV6 dc6 pm6 an6 cd6 ct6), sl6⟩)
    (c6 : PySem.W.codeIn K cd6 "Mode.turn_key" = true)
    (k6 : PySem.W.keepIn K (.ref f6) = true)
    (a12 : PySem.W.findIn K (.ref C2) "takes_calls" = some (some (.ref f12)))
    (i12 : PySem.W.isFn K (.ref f12) = true)
    (l12 : K.lookup f12 = some ⟨oc12, od12, .func (PySem.W.fnOf "takes_calls" "Mode.takes_calls" (defArgs st12) (defBody st12) (defScope st12) .none kV12 dc12 pm12 an12 cd12 ct12), sl12⟩)
    (c12 : PySem.W.codeIn K cd12 "Mode.takes_calls" = true)
    (k12 : PySem.W.keepIn K (.ref f12) = true)
    (a13 : PySem.W.findIn K (.ref C2) "door_by_itself" = some (some (.ref f13)))
    (i13 : PySem.W.isFn K (.ref f13) = true)
    (l13 : K.lookup f13 = some ⟨oc13, od13, .func (PySem.W.fnOf "door_by_itself" "Mode.door_by_itself" (defArgs st13) (defBody st13) (defScope st13) .none kV13 dc13 pm13 an13 cd13 ct13), sl13⟩)
    (c13 : PySem.W.codeIn K cd13 "Mode.door_by_itself" = true)
    (k13 : PySem.W.keepIn K (.ref f13) = true)
    (a7 : PySem.W.findIn K (.ref C2) "all_clear" = some (some (.ref f7)))
    (i7 : PySem.W.isFn K (.ref f7) = true)
    (l7 : K.lookup f7 = some ⟨oc7, od7, .func (PySem.W.fnOf "all_clear" "Mode.all_clear" (defArgs st7) (defBody st7) (defScope st7) .none kV7 dc7 pm7 an7 cd7 ct7), sl7⟩)
    (c7 : PySem.W.codeIn K cd7 "Mode.all_clear" = true)
    (k7 : PySem.W.keepIn K (.ref f7) = true)
    (a8 : PySem.W.findIn K (.ref C2) "take_own" = some (some (.ref f8)))
    (i8 : PySem.W.isFn K (.ref f8) = true)
    (l8 : K.lookup f8 = some ⟨oc8, od8, .func (PySem.W.fnOf "take_own" "Mode.take_own" (defArgs st8) (defBody st8) (defScope st8) .none kV8 dc8 pm8 an8 cd8 ct8), sl8⟩)
    (c8 : PySem.W.codeIn K cd8 "Mode.take_own" = true)
    (k8 : PySem.W.keepIn K (.ref f8) = true)
    (a11 : PySem.W.findIn K (.ref C2) "let_fail" = some (some (.ref f11)))
    (i11 : PySem.W.isFn K (.ref f11) = true)
    (l11 : K.lookup f11 = some ⟨oc11, od11, .func (PySem.W.fnOf "let_fail" "Mode.let_fail" (defArgs st11) (defBody st11) (defScope st11) .none kV11 dc11 pm11 an11 cd11 ct11), sl11⟩)
    (c11 : PySem.W.codeIn K cd11 "Mode.let_fail" = true)
    (k11 : PySem.W.keepIn K (.ref f11) = true)
    (a15 : PySem.W.findIn K (.ref C2) "mode_at" = some (some (.ref f15)))
    (i15 : PySem.W.isFn K (.ref f15) = true)
    (l15 : K.lookup f15 = some ⟨oc15, od15, .func (PySem.W.fnOf "mode_at" "Mode.mode_at" (defArgs st15) (defBody st15) (defScope st15) .none kV15 dc15 pm15 an15 cd15 ct15), sl15⟩)
    (c15 : PySem.W.codeIn K cd15 "Mode.mode_at" = true)
    (k15 : PySem.W.keepIn K (.ref f15) = true)
    (a14 : PySem.W.findIn K (.ref C2) "seconds_in" = some (some (.ref f14)))
    (i14 : PySem.W.isFn K (.ref f14) = true)
    (l14 : K.lookup f14 = some ⟨oc14, od14, .func (PySem.W.fnOf "seconds_in" "Mode.seconds_in" (defArgs st14) (defBody st14) (defScope st14) .none kV14 dc14 pm14 an14 cd14 ct14), sl14⟩)
    (c14 : PySem.W.codeIn K cd14 "Mode.seconds_in" = true)
    (k14 : PySem.W.keepIn K (.ref f14) = true)
    (a16 : PySem.W.findIn K (.ref C2) "share_in_use" = some (some (.ref f16)))
    (i16 : PySem.W.isFn K (.ref f16) = true)
    (l16 : K.lookup f16 = some ⟨oc16, od16, .func (PySem.W.fnOf "share_in_use" "Mode.share_in_use" (defArgs st16) (defBody st16) (defScope st16) .none kV16 dc16 pm16 an16 cd16 ct16), sl16⟩)
    (c16 : PySem.W.codeIn K cd16 "Mode.share_in_use" = true)
    (k16 : PySem.W.keepIn K (.ref f16) = true)
    (a17 : PySem.W.findIn K (.ref C2) "move_lines" = some (some (.ref f17)))
    (i17 : PySem.W.isFn K (.ref f17) = true)
    (l17 : K.lookup f17 = some ⟨oc17, od17, .func (PySem.W.fnOf "move_lines" "Mode.move_lines" (defArgs st17) (defBody st17) (defScope st17) .none kV17 dc17 pm17 an17 cd17 ct17), sl17⟩)
    (c17 : PySem.W.codeIn K cd17 "Mode.move_lines" = true)
    (k17 : PySem.W.keepIn K (.ref f17) = true)
    (a21 : PySem.W.nsIn K mainGlobals "_law_told" = some (some (.ref f21)))
    (l21 : K.lookup f21 = some ⟨oc21, od21, .func (PySem.W.fnOf "_law_told" "_law_told" (defArgs st21) (defBody st21) (defScope st21) .none kV21 dc21 pm21 an21 cd21 ct21), sl21⟩)
    (c21 : PySem.W.codeIn K cd21 "_law_told" = true)
    (k21 : PySem.W.keepIn K (.ref f21) = true)
    (a25 : PySem.W.nsIn K mainGlobals "_law_plain" = some (some (.ref f25)))
    (l25 : K.lookup f25 = some ⟨oc25, od25, .func (PySem.W.fnOf "_law_plain" "_law_plain" (defArgs st25) (defBody st25) (defScope st25) .none kV25 dc25 pm25 an25 cd25 ct25), sl25⟩)
    (c25 : PySem.W.codeIn K cd25 "_law_plain" = true)
    (k25 : PySem.W.keepIn K (.ref f25) = true)
    (a19 : PySem.W.nsIn K mainGlobals "_law_roll" = some (some (.ref f19)))
    (l19 : K.lookup f19 = some ⟨oc19, od19, .func (PySem.W.fnOf "_law_roll" "_law_roll" (defArgs st19) (defBody st19) (defScope st19) .none kV19 dc19 pm19 an19 cd19 ct19), sl19⟩)
    (c19 : PySem.W.codeIn K cd19 "_law_roll" = true)
    (k19 : PySem.W.keepIn K (.ref f19) = true)
    (a23 : PySem.W.nsIn K mainGlobals "_law_to" = some (some (.ref f23)))
    (l23 : K.lookup f23 = some ⟨oc23, od23, .func (PySem.W.fnOf "_law_to" "_law_to" (defArgs st23) (defBody st23) (defScope st23) .none kV23 dc23 pm23 an23 cd23 ct23), sl23⟩)
    (c23 : PySem.W.codeIn K cd23 "_law_to" = true)
    (k23 : PySem.W.keepIn K (.ref f23) = true)
    (a22 : PySem.W.nsIn K mainGlobals "_law_goal" = some (some (.ref f22)))
    (l22 : K.lookup f22 = some ⟨oc22, od22, .func (PySem.W.fnOf "_law_goal" "_law_goal" (defArgs st22) (defBody st22) (defScope st22) .none kV22 dc22 pm22 an22 cd22 ct22), sl22⟩)
    (c22 : PySem.W.codeIn K cd22 "_law_goal" = true)
    (k22 : PySem.W.keepIn K (.ref f22) = true)
    (a24 : PySem.W.nsIn K mainGlobals "_law_deed" = some (some (.ref f24)))
    (l24 : K.lookup f24 = some ⟨oc24, od24, .func (PySem.W.fnOf "_law_deed" "_law_deed" (defArgs st24) (defBody st24) (defScope st24) .none kV24 dc24 pm24 an24 cd24 ct24), sl24⟩)
    (c24 : PySem.W.codeIn K cd24 "_law_deed" = true)
    (k24 : PySem.W.keepIn K (.ref f24) = true)
    (a26 : PySem.W.nsIn K mainGlobals "law" = some (some (.ref f26)))
    (l26 : K.lookup f26 = some ⟨oc26, od26, .func (PySem.W.fnOf "law" "law" (defArgs st26) (defBody st26) (defScope st26) .none kV26 dc26 pm26 an26 cd26 ct26), sl26⟩)
    (c26 : PySem.W.codeIn K cd26 "law" = true)
    (k26 : PySem.W.keepIn K (.ref f26) = true)
    (e0 : cd14 = .ref cc0)
    (lC0 : K.lookup cc0 = some ⟨ocC0, odC0, .fields vsC0, slC0⟩)
    (vC0 : vsC0[11]? = some (.ref cP0))
    (hC0 : PySem.W.codeHdIn K cc0 cP0 = true)
    (nC0 : K.lookup cP0 = none)
    (tC0 : h.get? cP0 = some { cls := .none, data := .fields #[] })
    (e1 : cd17 = .ref cc1)
    (lC1 : K.lookup cc1 = some ⟨ocC1, odC1, .fields vsC1, slC1⟩)
    (vC1 : vsC1[11]? = some (.ref cP1))
    (hC1 : PySem.W.codeHdIn K cc1 cP1 = true)
    (nC1 : K.lookup cP1 = none)
    (tC1 : h.get? cP1 = some { cls := .none, data := .fields #[] })
    (e2 : cd25 = .ref cc2)
    (lC2 : K.lookup cc2 = some ⟨ocC2, odC2, .fields vsC2, slC2⟩)
    (vC2 : vsC2[11]? = some (.ref cP2))
    (hC2 : PySem.W.codeHdIn K cc2 cP2 = true)
    (nC2 : K.lookup cP2 = none)
    (tC2 : h.get? cP2 = some { cls := .none, data := .fields #[] })
    (e3 : cd24 = .ref cc3)
    (lC3 : K.lookup cc3 = some ⟨ocC3, odC3, .fields vsC3, slC3⟩)
    (vC3 : vsC3[11]? = some (.ref cP3))
    (hC3 : PySem.W.codeHdIn K cc3 cP3 = true)
    (nC3 : K.lookup cP3 = none)
    (tC3 : h.get? cP3 = some { cls := .none, data := .fields #[] })
    (e4 : cd26 = .ref cc4)
    (lC4 : K.lookup cc4 = some ⟨ocC4, odC4, .fields vsC4, slC4⟩)
    (vC4 : vsC4[11]? = some (.ref cP4))
    (hC4 : PySem.W.codeHdIn K cc4 cP4 = true)
    (nC4 : K.lookup cP4 = none)
    (tC4 : h.get? cP4 = some { cls := .none, data := .fields #[] })
    (np0_1 : cP0 ≠ cP1)
    (np0_2 : cP0 ≠ cP2)
    (np0_3 : cP0 ≠ cP3)
    (np0_4 : cP0 ≠ cP4)
    (np1_2 : cP1 ≠ cP2)
    (np1_3 : cP1 ≠ cP3)
    (np1_4 : cP1 ≠ cP4)
    (np2_3 : cP2 ≠ cP3)
    (np2_4 : cP2 ≠ cP4)
    (np3_4 : cP3 ≠ cP4)
    (bi_abs : PySem.W.nsIn K mainGlobals "abs" = some none)
    (bi_int : PySem.W.nsIn K mainGlobals "int" = some none)
    (bi_len : PySem.W.nsIn K mainGlobals "len" = some none)
    (bi_list : PySem.W.nsIn K mainGlobals "list" = some none)
    (bi_min : PySem.W.nsIn K mainGlobals "min" = some none)
    (bi_range : PySem.W.nsIn K mainGlobals "range" = some none)
    (bi_str : PySem.W.nsIn K mainGlobals "str" = some none)
    (bi_sum : PySem.W.nsIn K mainGlobals "sum" = some none)
    (bi_tuple : PySem.W.nsIn K mainGlobals "tuple" = some none)
    (bi_zip : PySem.W.nsIn K mainGlobals "zip" = some none)
    (ag0 : PySem.W.nsIn K mainGlobals "MODES" = some (some (.ref g0)))
    (lg0 : K.lookup g0 = some ⟨.type "tuple", none, .seq its0 n0, sl_g0⟩)
    (vg0 : Vals [.str ⟨[110, 111, 114, 109, 97, 108].toArray⟩, .str ⟨[111, 119, 110].toArray⟩, .str ⟨[114, 101, 99, 97, 108, 108].toArray⟩, .str ⟨[102, 105, 114, 101].toArray⟩, .str ⟨[99, 97, 114, 101].toArray⟩, .str ⟨[111, 117, 116].toArray⟩] its0.toList)
    (zg0 : its0.size ≤ 1000)
    (ag1 : PySem.W.nsIn K mainGlobals "MOST_MOVES" = some (some (.int 300 tg1)))
    (tcl : PySem.W.isClsIn K C1 = true)
    (ts1 : PySem.W.subIn K (.ref C1) (.ref C1) = some true)
    (lawP : ∀ ns : List Int, ns.length ≤ 63 → (∀ z ∈ ns, Builtin.Int.intBits z ≤ 1048576) → ∃ M, g_law [.fix (ns.map T.int)] [] = .ok (.bl true) M) :
    LamX.LawAtS PySem.Challenge.rw_liftstack_k13_modes_of_a_car w K (L2.CX PySem.Challenge.pw_liftstack_k13_modes_of_a_car w) 11 63 "script" mg fa h := by
  have e := hfa.symm.trans (PySem.W.mg_of X G a26)
  have e1 : f26 = fa := by injection e with e; injection e with e; exact e.symm
  subst e1
  have F18 := fun_mk (st := st18) l18 c18 k18
  have b18 := F18.binds (ps := ["cell"]) fun _ _ _ _ _ _ us hl => match us, hl with | [_], _ => rfl
  have F20 := fun_mk (st := st20) l20 c20 k20
  have b20 := F20.binds (ps := ["script", "most"]) fun _ _ _ _ _ _ us hl => match us, hl with | [_, _], _ => rfl
  have F0 := fun_mk (st := st0) l0 c0 k0
  have b0 := F0.binds (ps := ["self", "place", "home", "other"]) fun _ _ _ _ _ _ us hl => match us, hl with | [_, _, _, _], _ => rfl
  have F1 := fun_mk (st := st1) l1 c1 k1
  have b1 := F1.binds (ps := ["self", "now"]) fun _ _ _ _ _ _ us hl => match us, hl with | [_, _], _ => rfl
  have F2 := fun_mk (st := st2) l2 c2 k2
  have b2 := F2.binds (ps := ["self", "mode", "why", "now"]) fun _ _ _ _ _ _ us hl => match us, hl with | [_, _, _, _], _ => rfl
  have F10 := fun_mk (st := st10) l10 c10 k10
  have b10 := F10.binds (ps := ["self", "now"]) fun _ _ _ _ _ _ us hl => match us, hl with | [_, _], _ => rfl
  have F9 := fun_mk (st := st9) l9 c9 k9
  have b9 := F9.binds (ps := ["self", "now"]) fun _ _ _ _ _ _ us hl => match us, hl with | [_, _], _ => rfl
  have F3 := fun_mk (st := st3) l3 c3 k3
  have b3 := F3.binds (ps := ["self", "place", "now"]) fun _ _ _ _ _ _ us hl => match us, hl with | [_, _, _], _ => rfl
  have F4 := fun_mk (st := st4) l4 c4 k4
  have b4 := F4.binds (ps := ["self"]) fun _ _ _ _ _ _ us hl => match us, hl with | [_], _ => rfl
  have F5 := fun_mk (st := st5) l5 c5 k5
  have b5 := F5.binds (ps := ["self", "place", "now"]) fun _ _ _ _ _ _ us hl => match us, hl with | [_, _, _], _ => rfl
  have F6 := fun_mk (st := st6) l6 c6 k6
  have b6 := F6.binds (ps := ["self", "now"]) fun _ _ _ _ _ _ us hl => match us, hl with | [_, _], _ => rfl
  have F12 := fun_mk (st := st12) l12 c12 k12
  have b12 := F12.binds (ps := ["self"]) fun _ _ _ _ _ _ us hl => match us, hl with | [_], _ => rfl
  have F13 := fun_mk (st := st13) l13 c13 k13
  have b13 := F13.binds (ps := ["self"]) fun _ _ _ _ _ _ us hl => match us, hl with | [_], _ => rfl
  have F7 := fun_mk (st := st7) l7 c7 k7
  have b7 := F7.binds (ps := ["self", "now"]) fun _ _ _ _ _ _ us hl => match us, hl with | [_, _], _ => rfl
  have F8 := fun_mk (st := st8) l8 c8 k8
  have b8 := F8.binds (ps := ["self", "now"]) fun _ _ _ _ _ _ us hl => match us, hl with | [_, _], _ => rfl
  have F11 := fun_mk (st := st11) l11 c11 k11
  have b11 := F11.binds (ps := ["self", "why", "now"]) fun _ _ _ _ _ _ us hl => match us, hl with | [_, _, _], _ => rfl
  have F15 := fun_mk (st := st15) l15 c15 k15
  have b15 := F15.binds (ps := ["self", "second"]) fun _ _ _ _ _ _ us hl => match us, hl with | [_, _], _ => rfl
  have F14 := funC_mk (st := st14) l14 c14 k14 e0
  have b14 := F14.fn.binds (ps := ["self", "mode", "first", "last"]) fun _ _ _ _ _ _ us hl => match us, hl with | [_, _, _, _], _ => rfl
  have F16 := fun_mk (st := st16) l16 c16 k16
  have b16 := F16.binds (ps := ["self", "first", "last"]) fun _ _ _ _ _ _ us hl => match us, hl with | [_, _, _], _ => rfl
  have F17 := funC_mk (st := st17) l17 c17 k17 e1
  have b17 := F17.fn.binds (ps := ["self"]) fun _ _ _ _ _ _ us hl => match us, hl with | [_], _ => rfl
  have F21 := fun_mk (st := st21) l21 c21 k21
  have b21 := F21.binds (ps := ["what"]) fun _ _ _ _ _ _ us hl => match us, hl with | [_], _ => rfl
  have F25 := funC_mk (st := st25) l25 c25 k25 e2
  have b25 := F25.fn.binds (ps := []) fun _ _ _ _ _ _ us hl => match us, hl with | [], _ => rfl
  have F19 := fun_mk (st := st19) l19 c19 k19
  have b19 := F19.binds (ps := ["dice", "many"]) fun _ _ _ _ _ _ us hl => match us, hl with | [_, _], _ => rfl
  have F23 := fun_mk (st := st23) l23 c23 k23
  have b23 := F23.binds (ps := ["own", "mode", "why", "now"]) fun _ _ _ _ _ _ us hl => match us, hl with | [_, _, _, _], _ => rfl
  have F22 := fun_mk (st := st22) l22 c22 k22
  have b22 := F22.binds (ps := ["own"]) fun _ _ _ _ _ _ us hl => match us, hl with | [_], _ => rfl
  have F24 := funC_mk (st := st24) l24 c24 k24 e3
  have b24 := F24.fn.binds (ps := ["dice", "mode", "own"]) fun _ _ _ _ _ _ us hl => match us, hl with | [_, _, _], _ => rfl
  have F26 := funC_mk (st := st26) l26 c26 k26 e4
  have b26 := F26.fn.binds (ps := ["script"]) fun _ _ _ _ _ _ us hl => match us, hl with | [_], _ => rfl
  have hex : ∀ c ∈ cs_told, PySem.W.exmOne K (.ref ((TBo (fun i => ([C0, C1, C2] : List Addr).getD i 0) (fun i => ([cP0, cP1, cP2, cP3, cP4] : List Addr).getD i 0)).c c)) (.ref C1) = some true := fun c hc => by
    simp only [List.mem_cons, List.not_mem_nil, or_false] at hc
    rcases hc with rfl
    · exact exm_sub xs1 tcl xt1 ts1
  have told : ToldD K mg (TBo (fun i => ([C0, C1, C2] : List Addr).getD i 0) (fun i => ([cP0, cP1, cP2, cP3, cP4] : List Addr).getD i 0)) "_law_told" cs_told ret_told := told_mk (st := st21) (a := "what") (e := "ModeError") (PySem.W.mg_of X G a21) k21 l21 c21 rfl b21 (⟨rfl, rfl, rfl, by decide +kernel, rfl, by decide +kernel, by decide +kernel⟩ : FnScope ["what"] ["what"] (defScope st21)) rfl rfl rfl (PySem.W.mg_of X G aC1) (by decide) hex (by decide) (by decide)
  have Z : Fx K mg (fun i => ([C0, C1, C2] : List Addr).getD i 0) (fun i => ([f0, f1, f2, f3, f4, f5, f6, f7, f8, f9, f10, f11, f12, f13, f14, f15, f16, f17, f18, f19, f20, f21, f22, f23, f24, f25, f26] : List Addr).getD i 0) (fun i => ([g0, 0] : List Addr).getD i 0) (fun i => ([cc0, cc1, cc2, cc3, cc4] : List Addr).getD i 0) (fun i => ([cP0, cP1, cP2, cP3, cP4] : List Addr).getD i 0) (fun i => ([PySem.W.fnOf "__init__" "Mode.__init__" (defArgs st0) (defBody st0) (defScope st0) .none kV0 dc0 pm0 an0 cd0 ct0, PySem.W.fnOf "check_second" "Mode.check_second" (defArgs st1) (defBody st1) (defScope st1) .none kV1 dc1 pm1 an1 cd1 ct1, PySem.W.fnOf "change_to" "Mode.change_to" (defArgs st2) (defBody st2) (defScope st2) .none kV2 dc2 pm2 an2 cd2 ct2, PySem.W.fnOf "put_alarm" "Mode.put_alarm" (defArgs st3) (defBody st3) (defScope st3) .none kV3 dc3 pm3 an3 cd3 ct3, PySem.W.fnOf "goal_now" "Mode.goal_now" (defArgs st4) (defBody st4) (defScope st4) .none kV4 dc4 pm4 an4 cd4 ct4, PySem.W.fnOf "arrive_at" "Mode.arrive_at" (defArgs st5) (defBody st5) (defScope st5) .none kV5 dc5 pm5 an5 cd5 ct5, PySem.W.fnOf "turn_key" "Mode.turn_key" (defArgs st6) (defBody st6) (defScope st6) .none kV6 dc6 pm6 an6 cd6 ct6, PySem.W.fnOf "all_clear" "Mode.all_clear" (defArgs st7) (defBody st7) (defScope st7) .none kV7 dc7 pm7 an7 cd7 ct7, PySem.W.fnOf "take_own" "Mode.take_own" (defArgs st8) (defBody st8) (defScope st8) .none kV8 dc8 pm8 an8 cd8 ct8, PySem.W.fnOf "give_back" "Mode.give_back" (defArgs st9) (defBody st9) (defScope st9) .none kV9 dc9 pm9 an9 cd9 ct9, PySem.W.fnOf "take_care" "Mode.take_care" (defArgs st10) (defBody st10) (defScope st10) .none kV10 dc10 pm10 an10 cd10 ct10, PySem.W.fnOf "let_fail" "Mode.let_fail" (defArgs st11) (defBody st11) (defScope st11) .none kV11 dc11 pm11 an11 cd11 ct11, PySem.W.fnOf "takes_calls" "Mode.takes_calls" (defArgs st12) (defBody st12) (defScope st12) .none kV12 dc12 pm12 an12 cd12 ct12, PySem.W.fnOf "door_by_itself" "Mode.door_by_itself" (defArgs st13) (defBody st13) (defScope st13) .none kV13 dc13 pm13 an13 cd13 ct13, PySem.W.fnOf "seconds_in" "Mode.seconds_in" (defArgs st14) (defBody st14) (defScope st14) .none kV14 dc14 pm14 an14 cd14 ct14, PySem.W.fnOf "mode_at" "Mode.mode_at" (defArgs st15) (defBody st15) (defScope st15) .none kV15 dc15 pm15 an15 cd15 ct15, PySem.W.fnOf "share_in_use" "Mode.share_in_use" (defArgs st16) (defBody st16) (defScope st16) .none kV16 dc16 pm16 an16 cd16 ct16, PySem.W.fnOf "move_lines" "Mode.move_lines" (defArgs st17) (defBody st17) (defScope st17) .none kV17 dc17 pm17 an17 cd17 ct17, PySem.W.fnOf "_law_dice" "_law_dice" (defArgs st18) (defBody st18) (defScope st18) .none kV18 dc18 pm18 an18 cd18 ct18, PySem.W.fnOf "_law_roll" "_law_roll" (defArgs st19) (defBody st19) (defScope st19) .none kV19 dc19 pm19 an19 cd19 ct19, PySem.W.fnOf "_law_rounds" "_law_rounds" (defArgs st20) (defBody st20) (defScope st20) .none kV20 dc20 pm20 an20 cd20 ct20, PySem.W.fnOf "_law_told" "_law_told" (defArgs st21) (defBody st21) (defScope st21) .none kV21 dc21 pm21 an21 cd21 ct21, PySem.W.fnOf "_law_goal" "_law_goal" (defArgs st22) (defBody st22) (defScope st22) .none kV22 dc22 pm22 an22 cd22 ct22, PySem.W.fnOf "_law_to" "_law_to" (defArgs st23) (defBody st23) (defScope st23) .none kV23 dc23 pm23 an23 cd23 ct23, PySem.W.fnOf "_law_deed" "_law_deed" (defArgs st24) (defBody st24) (defScope st24) .none kV24 dc24 pm24 an24 cd24 ct24, PySem.W.fnOf "_law_plain" "_law_plain" (defArgs st25) (defBody st25) (defScope st25) .none kV25 dc25 pm25 an25 cd25 ct25, PySem.W.fnOf "law" "law" (defArgs st26) (defBody st26) (defScope st26) .none kV26 dc26 pm26 an26 cd26 ct26] : List FuncData).getD i (PySem.W.fnOf "_law_dice" "_law_dice" (defArgs st18) (defBody st18) (defScope st18) .none kV18 dc18 pm18 an18 cd18 ct18)) := ⟨xe0, PySem.W.mg_of X G aC0, xk0, xs0, xt0, xe1, PySem.W.mg_of X G aC1, xk1, xs1, xt1, ⟨pg2, hd2, po2, sa2⟩, ⟨mk2, a0, i0, kc2⟩, PySem.W.mg_of X G aC2, na2_mode, na2_place, na2_home, na2_other, na2_burns, na2_moves, na2_now, F18, b18, PySem.W.mg_of X G a18, k18, F20, b20, PySem.W.mg_of X G a20, k20, F0, b0, ⟨a0, i0, k0⟩, F1, b1, ⟨a1, i1, k1⟩, F2, b2, ⟨a2, i2, k2⟩, F10, b10, ⟨a10, i10, k10⟩, F9, b9, ⟨a9, i9, k9⟩, F3, b3, ⟨a3, i3, k3⟩, F4, b4, ⟨a4, i4, k4⟩, F5, b5, ⟨a5, i5, k5⟩, F6, b6, ⟨a6, i6, k6⟩, F12, b12, ⟨a12, i12, k12⟩, F13, b13, ⟨a13, i13, k13⟩, F7, b7, ⟨a7, i7, k7⟩, F8, b8, ⟨a8, i8, k8⟩, F11, b11, ⟨a11, i11, k11⟩, F15, b15, ⟨a15, i15, k15⟩, F14, b14, ⟨a14, i14, k14⟩, F16, b16, ⟨a16, i16, k16⟩, F17, b17, ⟨a17, i17, k17⟩, F25, b25, PySem.W.mg_of X G a25, k25, F19, b19, PySem.W.mg_of X G a19, k19, F23, b23, PySem.W.mg_of X G a23, k23, F22, b22, PySem.W.mg_of X G a22, k22, F24, b24, PySem.W.mg_of X G a24, k24, F26, b26, PySem.W.mg_of X G a26, k26, PySem.W.mg_none_of X G bi_abs, PySem.W.mg_none_of X G bi_int, PySem.W.mg_none_of X G bi_len, PySem.W.mg_none_of X G bi_list, PySem.W.mg_none_of X G bi_min, PySem.W.mg_none_of X G bi_range, PySem.W.mg_none_of X G bi_str, PySem.W.mg_none_of X G bi_sum, PySem.W.mg_none_of X G bi_tuple, PySem.W.mg_none_of X G bi_zip, PySem.W.mg_of X G ag0, ⟨_, _, _, lg0, rfl, rfl, rfl, Nat.le_trans zg0 (by decide), vg0⟩, ⟨tg1, PySem.W.mg_of X G ag1⟩, told, np0_1, np0_2, np0_3, np0_4, np1_2, np1_3, np1_4, np2_3, np2_4, np3_4⟩
  refine ⟨_, [(cc0, cP0), (cc1, cP1), (cc2, cP2), (cc3, cP3), (cc4, cP4)], spM (TBo (fun i => ([C0, C1, C2] : List Addr).getD i 0) (fun i => ([cP0, cP1, cP2, cP3, cP4] : List Addr).getD i 0)) K 1 g_law, (fun p hp => by
      simp only [List.mem_cons, List.not_mem_nil, or_false] at hp
      rcases hp with rfl | rfl | rfl | rfl | rfl
      · exact tC0
      · exact tC1
      · exact tC2
      · exact tC3
      · exact tC4), (fun p hp => by
      simp only [List.mem_cons, List.not_mem_nil, or_false] at hp
      rcases hp with rfl | rfl | rfl | rfl | rfl
      · exact nC0
      · exact nC1
      · exact nC2
      · exact nC3
      · exact nC4), (fun p hp => by
      simp only [List.mem_cons, List.not_mem_nil, or_false] at hp
      rcases hp with rfl | rfl | rfl | rfl | rfl
      · exact PySem.W.codeHd_of_K X hC0
      · exact PySem.W.codeHd_of_K X hC1
      · exact PySem.W.codeHd_of_K X hC2
      · exact PySem.W.codeHd_of_K X hC3
      · exact PySem.W.codeHd_of_K X hC4), fun s v => .of_eq rfl, fun H a ns hlen hbits hH hS => law_sp ?_ hS (lawP ns hlen hbits), fun base _ _ hB => fnlaw (C := (fun i => ([C0, C1, C2] : List Addr).getD i 0)) (f := (fun i => ([f0, f1, f2, f3, f4, f5, f6, f7, f8, f9, f10, f11, f12, f13, f14, f15, f16, f17, f18, f19, f20, f21, f22, f23, f24, f25, f26] : List Addr).getD i 0)) (g := (fun i => ([g0, 0] : List Addr).getD i 0)) (cc := (fun i => ([cc0, cc1, cc2, cc3, cc4] : List Addr).getD i 0)) (cP := (fun i => ([cP0, cP1, cP2, cP3, cP4] : List Addr).getD i 0)) (fd := (fun i => ([PySem.W.fnOf "__init__" "Mode.__init__" (defArgs st0) (defBody st0) (defScope st0) .none kV0 dc0 pm0 an0 cd0 ct0, PySem.W.fnOf "check_second" "Mode.check_second" (defArgs st1) (defBody st1) (defScope st1) .none kV1 dc1 pm1 an1 cd1 ct1, PySem.W.fnOf "change_to" "Mode.change_to" (defArgs st2) (defBody st2) (defScope st2) .none kV2 dc2 pm2 an2 cd2 ct2, PySem.W.fnOf "put_alarm" "Mode.put_alarm" (defArgs st3) (defBody st3) (defScope st3) .none kV3 dc3 pm3 an3 cd3 ct3, PySem.W.fnOf "goal_now" "Mode.goal_now" (defArgs st4) (defBody st4) (defScope st4) .none kV4 dc4 pm4 an4 cd4 ct4, PySem.W.fnOf "arrive_at" "Mode.arrive_at" (defArgs st5) (defBody st5) (defScope st5) .none kV5 dc5 pm5 an5 cd5 ct5, PySem.W.fnOf "turn_key" "Mode.turn_key" (defArgs st6) (defBody st6) (defScope st6) .none kV6 dc6 pm6 an6 cd6 ct6, PySem.W.fnOf "all_clear" "Mode.all_clear" (defArgs st7) (defBody st7) (defScope st7) .none kV7 dc7 pm7 an7 cd7 ct7, PySem.W.fnOf "take_own" "Mode.take_own" (defArgs st8) (defBody st8) (defScope st8) .none kV8 dc8 pm8 an8 cd8 ct8, PySem.W.fnOf "give_back" "Mode.give_back" (defArgs st9) (defBody st9) (defScope st9) .none kV9 dc9 pm9 an9 cd9 ct9, PySem.W.fnOf "take_care" "Mode.take_care" (defArgs st10) (defBody st10) (defScope st10) .none kV10 dc10 pm10 an10 cd10 ct10, PySem.W.fnOf "let_fail" "Mode.let_fail" (defArgs st11) (defBody st11) (defScope st11) .none kV11 dc11 pm11 an11 cd11 ct11, PySem.W.fnOf "takes_calls" "Mode.takes_calls" (defArgs st12) (defBody st12) (defScope st12) .none kV12 dc12 pm12 an12 cd12 ct12, PySem.W.fnOf "door_by_itself" "Mode.door_by_itself" (defArgs st13) (defBody st13) (defScope st13) .none kV13 dc13 pm13 an13 cd13 ct13, PySem.W.fnOf "seconds_in" "Mode.seconds_in" (defArgs st14) (defBody st14) (defScope st14) .none kV14 dc14 pm14 an14 cd14 ct14, PySem.W.fnOf "mode_at" "Mode.mode_at" (defArgs st15) (defBody st15) (defScope st15) .none kV15 dc15 pm15 an15 cd15 ct15, PySem.W.fnOf "share_in_use" "Mode.share_in_use" (defArgs st16) (defBody st16) (defScope st16) .none kV16 dc16 pm16 an16 cd16 ct16, PySem.W.fnOf "move_lines" "Mode.move_lines" (defArgs st17) (defBody st17) (defScope st17) .none kV17 dc17 pm17 an17 cd17 ct17, PySem.W.fnOf "_law_dice" "_law_dice" (defArgs st18) (defBody st18) (defScope st18) .none kV18 dc18 pm18 an18 cd18 ct18, PySem.W.fnOf "_law_roll" "_law_roll" (defArgs st19) (defBody st19) (defScope st19) .none kV19 dc19 pm19 an19 cd19 ct19, PySem.W.fnOf "_law_rounds" "_law_rounds" (defArgs st20) (defBody st20) (defScope st20) .none kV20 dc20 pm20 an20 cd20 ct20, PySem.W.fnOf "_law_told" "_law_told" (defArgs st21) (defBody st21) (defScope st21) .none kV21 dc21 pm21 an21 cd21 ct21, PySem.W.fnOf "_law_goal" "_law_goal" (defArgs st22) (defBody st22) (defScope st22) .none kV22 dc22 pm22 an22 cd22 ct22, PySem.W.fnOf "_law_to" "_law_to" (defArgs st23) (defBody st23) (defScope st23) .none kV23 dc23 pm23 an23 cd23 ct23, PySem.W.fnOf "_law_deed" "_law_deed" (defArgs st24) (defBody st24) (defScope st24) .none kV24 dc24 pm24 an24 cd24 ct24, PySem.W.fnOf "_law_plain" "_law_plain" (defArgs st25) (defBody st25) (defScope st25) .none kV25 dc25 pm25 an25 cd25 ct25, PySem.W.fnOf "law" "law" (defArgs st26) (defBody st26) (defScope st26) .none kV26 dc26 pm26 an26 cd26 ct26] : List FuncData).getD i (PySem.W.fnOf "_law_dice" "_law_dice" (defArgs st18) (defBody st18) (defScope st18) .none kV18 dc18 pm18 an18 cd18 ct18))) Z ⟨trivial, hB (cc0, cP0) (by simp), hB (cc1, cP1) (by simp), hB (cc2, cP2) (by simp), hB (cc3, cP3) (by simp), hB (cc4, cP4) (by simp)⟩⟩
  intro p hp
  simp only [TBo, List.mem_cons, List.not_mem_nil, or_false] at hp
  rcases hp with rfl | rfl | rfl | rfl | rfl
  · exact TabN.nil (hH (cc0, cP0) (by simp))
  · exact TabN.nil (hH (cc1, cP1) (by simp))
  · exact TabN.nil (hH (cc2, cP2) (by simp))
  · exact TabN.nil (hH (cc3, cP3) (by simp))
  · exact TabN.nil (hH (cc4, cP4) (by simp))
theorem all_mk1 {w : World} {K1 : PySem.W.Frag} {h : Heap} {mg : Str → Option Value} {fa : Addr} {C0 C1 C2 f18 f20 f0 f1 f2 f10 f9 f3 f4 f5 f6 f12 f13 f7 f8 f11 f15 f14 f16 f17 f21 f25 f19 f23 f22 f24 f26 g0 cc0 cP0 cc1 cP1 cc2 cP2 cc3 cP3 cc4 cP4 : Addr} {oc18 kV18 dc18 pm18 cd18 ct18 : Value} {od18 an18 : Option Addr} {sl18 : Array (Option Value)} {oc20 kV20 dc20 pm20 cd20 ct20 : Value} {od20 an20 : Option Addr} {sl20 : Array (Option Value)} {oc0 kV0 dc0 pm0 cd0 ct0 : Value} {od0 an0 : Option Addr} {sl0 : Array (Option Value)} {oc1 kV1 dc1 pm1 cd1 ct1 : Value} {od1 an1 : Option Addr} {sl1 : Array (Option Value)} {oc2 kV2 dc2 pm2 cd2 ct2 : Value} {od2 an2 : Option Addr} {sl2 : Array (Option Value)} {oc10 kV10 dc10 pm10 cd10 ct10 : Value} {od10 an10 : Option Addr} {sl10 : Array (Option Value)} {oc9 kV9 dc9 pm9 cd9 ct9 : Value} {od9 an9 : Option Addr} {sl9 : Array (Option Value)} {oc3 kV3 dc3 pm3 cd3 ct3 : Value} {od3 an3 : Option Addr} {sl3 : Array (Option Value)} {oc4 kV4 dc4 pm4 cd4 ct4 : Value} {od4 an4 : Option Addr} {sl4 : Array (Option Value)} {oc5 kV5 dc5 pm5 cd5 ct5 : Value} {od5 an5 : Option Addr} {sl5 : Array (Option Value)} {oc6 kV6 dc6 pm6 cd6 ct6 : Value} {od6 an6 : Option Addr} {sl6 : Array (Option Value)} {oc12 kV12 dc12 pm12 cd12 ct12 : Value} {od12 an12 : Option Addr} {sl12 : Array (Option Value)} {oc13 kV13 dc13 pm13 cd13 ct13 : Value} {od13 an13 : Option Addr} {sl13 : Array (Option Value)} {oc7 kV7 dc7 pm7 cd7 ct7 : Value} {od7 an7 : Option Addr} {sl7 : Array (Option Value)} {oc8 kV8 dc8 pm8 cd8 ct8 : Value} {od8 an8 : Option Addr} {sl8 : Array (Option Value)} {oc11 kV11 dc11 pm11 cd11 ct11 : Value} {od11 an11 : Option Addr} {sl11 : Array (Option Value)} {oc15 kV15 dc15 pm15 cd15 ct15 : Value} {od15 an15 : Option Addr} {sl15 : Array (Option Value)} {oc14 kV14 dc14 pm14 cd14 ct14 : Value} {od14 an14 : Option Addr} {sl14 : Array (Option Value)} {oc16 kV16 dc16 pm16 cd16 ct16 : Value} {od16 an16 : Option Addr} {sl16 : Array (Option Value)} {oc17 kV17 dc17 pm17 cd17 ct17 : Value} {od17 an17 : Option Addr} {sl17 : Array (Option Value)} {oc21 kV21 dc21 pm21 cd21 ct21 : Value} {od21 an21 : Option Addr} {sl21 : Array (Option Value)} {oc25 kV25 dc25 pm25 cd25 ct25 : Value} {od25 an25 : Option Addr} {sl25 : Array (Option Value)} {oc19 kV19 dc19 pm19 cd19 ct19 : Value} {od19 an19 : Option Addr} {sl19 : Array (Option Value)} {oc23 kV23 dc23 pm23 cd23 ct23 : Value} {od23 an23 : Option Addr} {sl23 : Array (Option Value)} {oc22 kV22 dc22 pm22 cd22 ct22 : Value} {od22 an22 : Option Addr} {sl22 : Array (Option Value)} {oc24 kV24 dc24 pm24 cd24 ct24 : Value} {od24 an24 : Option Addr} {sl24 : Array (Option Value)} {oc26 kV26 dc26 pm26 cd26 ct26 : Value} {od26 an26 : Option Addr} {sl26 : Array (Option Value)} {ocC0 : Value} {odC0 : Option Addr} {vsC0 : Array Value} {slC0 : Array (Option Value)} {ocC1 : Value} {odC1 : Option Addr} {vsC1 : Array Value} {slC1 : Array (Option Value)} {ocC2 : Value} {odC2 : Option Addr} {vsC2 : Array Value} {slC2 : Array (Option Value)} {ocC3 : Value} {odC3 : Option Addr} {vsC3 : Array Value} {slC3 : Array (Option Value)} {ocC4 : Value} {odC4 : Option Addr} {vsC4 : Array Value} {slC4 : Array (Option Value)} {n0 : Nat} {sl_g0 : Array (Option Value)} {its0 : Array Value} {tg1 : Tok} (X1 : K1.In h) (X : (cutF K1).In h) (G : h.Ns mainGlobals mg) (hfa : mg "law" = some (.ref fa))
    (xaC0 : PySem.W.nsIn K1 mainGlobals "LiftFault" = some (some (.ref C0)))
    (xaC1 : PySem.W.nsIn K1 mainGlobals "ModeError" = some (some (.ref C1)))
    (xaC2 : PySem.W.nsIn K1 mainGlobals "Mode" = some (some (.ref C2)))
    (xa18 : PySem.W.nsIn K1 mainGlobals "_law_dice" = some (some (.ref f18)))
    (xl18 : K1.lookup f18 = some ⟨oc18, od18, .func (PySem.W.fnOf "_law_dice" "_law_dice" (defArgs st18) (defBody st18) (defScope st18) .none kV18 dc18 pm18 an18 cd18 ct18), sl18⟩)
    (xa20 : PySem.W.nsIn K1 mainGlobals "_law_rounds" = some (some (.ref f20)))
    (xl20 : K1.lookup f20 = some ⟨oc20, od20, .func (PySem.W.fnOf "_law_rounds" "_law_rounds" (defArgs st20) (defBody st20) (defScope st20) .none kV20 dc20 pm20 an20 cd20 ct20), sl20⟩)
    (xa0 : PySem.W.findIn K1 (.ref C2) "__init__" = some (some (.ref f0)))
    (xl0 : K1.lookup f0 = some ⟨oc0, od0, .func (PySem.W.fnOf "__init__" "Mode.__init__" (defArgs st0) (defBody st0) (defScope st0) .none kV0 dc0 pm0 an0 cd0 ct0), sl0⟩)
    (xa1 : PySem.W.findIn K1 (.ref C2) "check_second" = some (some (.ref f1)))
    (xl1 : K1.lookup f1 = some ⟨oc1, od1, .func (PySem.W.fnOf "check_second" "Mode.check_second" (defArgs st1) (defBody st1) (defScope st1) .none kV1 dc1 pm1 an1 cd1 ct1), sl1⟩)
    (xa2 : PySem.W.findIn K1 (.ref C2) "change_to" = some (some (.ref f2)))
    (xl2 : K1.lookup f2 = some ⟨oc2, od2, .func (PySem.W.fnOf "change_to" "Mode.change_to" (defArgs st2) (defBody st2) (defScope st2) .none kV2 dc2 pm2 an2 cd2 ct2), sl2⟩)
    (xa10 : PySem.W.findIn K1 (.ref C2) "take_care" = some (some (.ref f10)))
    (xl10 : K1.lookup f10 = some ⟨oc10, od10, .func (PySem.W.fnOf "take_care" "Mode.take_care" (defArgs st10) (defBody st10) (defScope st10) .none kV10 dc10 pm10 an10 cd10 ct10), sl10⟩)
    (xa9 : PySem.W.findIn K1 (.ref C2) "give_back" = some (some (.ref f9)))
    (xl9 : K1.lookup f9 = some ⟨oc9, od9, .func (PySem.W.fnOf "give_back" "Mode.give_back" (defArgs st9) (defBody st9) (defScope st9) .none kV9 dc9 pm9 an9 cd9 ct9), sl9⟩)
    (xa3 : PySem.W.findIn K1 (.ref C2) "put_alarm" = some (some (.ref f3)))
    (xl3 : K1.lookup f3 = some ⟨oc3, od3, .func (PySem.W.fnOf "put_alarm" "Mode.put_alarm" (defArgs st3) (defBody st3) (defScope st3) .none kV3 dc3 pm3 an3 cd3 ct3), sl3⟩)
    (xa4 : PySem.W.findIn K1 (.ref C2) "goal_now" = some (some (.ref f4)))
    (xl4 : K1.lookup f4 = some ⟨oc4, od4, .func (PySem.W.fnOf "goal_now" "Mode.goal_now" (defArgs st4) (defBody st4) (defScope st4) .none kV4 dc4 pm4 an4 cd4 ct4), sl4⟩)
    (xa5 : PySem.W.findIn K1 (.ref C2) "arrive_at" = some (some (.ref f5)))
    (xl5 : K1.lookup f5 = some ⟨oc5, od5, .func (PySem.W.fnOf "arrive_at" "Mode.arrive_at" (defArgs st5) (defBody st5) (defScope st5) .none kV5 dc5 pm5 an5 cd5 ct5), sl5⟩)
    (xa6 : PySem.W.findIn K1 (.ref C2) "turn_key" = some (some (.ref f6)))
    (xl6 : K1.lookup f6 = some ⟨oc6, od6, .func (PySem.W.fnOf "turn_key" "Mode.turn_key" (defArgs st6) (defBody st6) (defScope st6) .none kV6 dc6 pm6 an6 cd6 ct6), sl6⟩)
    (xa12 : PySem.W.findIn K1 (.ref C2) "takes_calls" = some (some (.ref f12)))
    (xl12 : K1.lookup f12 = some ⟨oc12, od12, .func (PySem.W.fnOf "takes_calls" "Mode.takes_calls" (defArgs st12) (defBody st12) (defScope st12) .none kV12 dc12 pm12 an12 cd12 ct12), sl12⟩)
    (xa13 : PySem.W.findIn K1 (.ref C2) "door_by_itself" = some (some (.ref f13)))
    (xl13 : K1.lookup f13 = some ⟨oc13, od13, .func (PySem.W.fnOf "door_by_itself" "Mode.door_by_itself" (defArgs st13) (defBody st13) (defScope st13) .none kV13 dc13 pm13 an13 cd13 ct13), sl13⟩)
    (xa7 : PySem.W.findIn K1 (.ref C2) "all_clear" = some (some (.ref f7)))
    (xl7 : K1.lookup f7 = some ⟨oc7, od7, .func (PySem.W.fnOf "all_clear" "Mode.all_clear" (defArgs st7) (defBody st7) (defScope st7) .none kV7 dc7 pm7 an7 cd7 ct7), sl7⟩)
    (xa8 : PySem.W.findIn K1 (.ref C2) "take_own" = some (some (.ref f8)))
    (xl8 : K1.lookup f8 = some ⟨oc8, od8, .func (PySem.W.fnOf "take_own" "Mode.take_own" (defArgs st8) (defBody st8) (defScope st8) .none kV8 dc8 pm8 an8 cd8 ct8), sl8⟩)
    (xa11 : PySem.W.findIn K1 (.ref C2) "let_fail" = some (some (.ref f11)))
    (xl11 : K1.lookup f11 = some ⟨oc11, od11, .func (PySem.W.fnOf "let_fail" "Mode.let_fail" (defArgs st11) (defBody st11) (defScope st11) .none kV11 dc11 pm11 an11 cd11 ct11), sl11⟩)
    (xa15 : PySem.W.findIn K1 (.ref C2) "mode_at" = some (some (.ref f15)))
    (xl15 : K1.lookup f15 = some ⟨oc15, od15, .func (PySem.W.fnOf "mode_at" "Mode.mode_at" (defArgs st15) (defBody st15) (defScope st15) .none kV15 dc15 pm15 an15 cd15 ct15), sl15⟩)
    (xa14 : PySem.W.findIn K1 (.ref C2) "seconds_in" = some (some (.ref f14)))
    (xl14 : K1.lookup f14 = some ⟨oc14, od14, .func (PySem.W.fnOf "seconds_in" "Mode.seconds_in" (defArgs st14) (defBody st14) (defScope st14) .none kV14 dc14 pm14 an14 cd14 ct14), sl14⟩)
    (xa16 : PySem.W.findIn K1 (.ref C2) "share_in_use" = some (some (.ref f16)))
    (xl16 : K1.lookup f16 = some ⟨oc16, od16, .func (PySem.W.fnOf "share_in_use" "Mode.share_in_use" (defArgs st16) (defBody st16) (defScope st16) .none kV16 dc16 pm16 an16 cd16 ct16), sl16⟩)
    (xa17 : PySem.W.findIn K1 (.ref C2) "move_lines" = some (some (.ref f17)))
    (xl17 : K1.lookup f17 = some ⟨oc17, od17, .func (PySem.W.fnOf "move_lines" "Mode.move_lines" (defArgs st17) (defBody st17) (defScope st17) .none kV17 dc17 pm17 an17 cd17 ct17), sl17⟩)
    (xa21 : PySem.W.nsIn K1 mainGlobals "_law_told" = some (some (.ref f21)))
    (xl21 : K1.lookup f21 = some ⟨oc21, od21, .func (PySem.W.fnOf "_law_told" "_law_told" (defArgs st21) (defBody st21) (defScope st21) .none kV21 dc21 pm21 an21 cd21 ct21), sl21⟩)
    (xa25 : PySem.W.nsIn K1 mainGlobals "_law_plain" = some (some (.ref f25)))
    (xl25 : K1.lookup f25 = some ⟨oc25, od25, .func (PySem.W.fnOf "_law_plain" "_law_plain" (defArgs st25) (defBody st25) (defScope st25) .none kV25 dc25 pm25 an25 cd25 ct25), sl25⟩)
    (xa19 : PySem.W.nsIn K1 mainGlobals "_law_roll" = some (some (.ref f19)))
    (xl19 : K1.lookup f19 = some ⟨oc19, od19, .func (PySem.W.fnOf "_law_roll" "_law_roll" (defArgs st19) (defBody st19) (defScope st19) .none kV19 dc19 pm19 an19 cd19 ct19), sl19⟩)
    (xa23 : PySem.W.nsIn K1 mainGlobals "_law_to" = some (some (.ref f23)))
    (xl23 : K1.lookup f23 = some ⟨oc23, od23, .func (PySem.W.fnOf "_law_to" "_law_to" (defArgs st23) (defBody st23) (defScope st23) .none kV23 dc23 pm23 an23 cd23 ct23), sl23⟩)
    (xa22 : PySem.W.nsIn K1 mainGlobals "_law_goal" = some (some (.ref f22)))
    (xl22 : K1.lookup f22 = some ⟨oc22, od22, .func (PySem.W.fnOf "_law_goal" "_law_goal" (defArgs st22) (defBody st22) (defScope st22) .none kV22 dc22 pm22 an22 cd22 ct22), sl22⟩)
    (xa24 : PySem.W.nsIn K1 mainGlobals "_law_deed" = some (some (.ref f24)))
    (xl24 : K1.lookup f24 = some ⟨oc24, od24, .func (PySem.W.fnOf "_law_deed" "_law_deed" (defArgs st24) (defBody st24) (defScope st24) .none kV24 dc24 pm24 an24 cd24 ct24), sl24⟩)
    (xa26 : PySem.W.nsIn K1 mainGlobals "law" = some (some (.ref f26)))
    (xl26 : K1.lookup f26 = some ⟨oc26, od26, .func (PySem.W.fnOf "law" "law" (defArgs st26) (defBody st26) (defScope st26) .none kV26 dc26 pm26 an26 cd26 ct26), sl26⟩)
    (e0 : cd14 = .ref cc0)
    (xlC0 : K1.lookup cc0 = some ⟨ocC0, odC0, .fields vsC0, slC0⟩)
    (vC0 : vsC0[11]? = some (.ref cP0))
    (e1 : cd17 = .ref cc1)
    (xlC1 : K1.lookup cc1 = some ⟨ocC1, odC1, .fields vsC1, slC1⟩)
    (vC1 : vsC1[11]? = some (.ref cP1))
    (e2 : cd25 = .ref cc2)
    (xlC2 : K1.lookup cc2 = some ⟨ocC2, odC2, .fields vsC2, slC2⟩)
    (vC2 : vsC2[11]? = some (.ref cP2))
    (e3 : cd24 = .ref cc3)
    (xlC3 : K1.lookup cc3 = some ⟨ocC3, odC3, .fields vsC3, slC3⟩)
    (vC3 : vsC3[11]? = some (.ref cP3))
    (e4 : cd26 = .ref cc4)
    (xlC4 : K1.lookup cc4 = some ⟨ocC4, odC4, .fields vsC4, slC4⟩)
    (vC4 : vsC4[11]? = some (.ref cP4))
    (xag0 : PySem.W.nsIn K1 mainGlobals "MODES" = some (some (.ref g0)))
    (xlg0 : K1.lookup g0 = some ⟨.type "tuple", none, .seq its0 n0, sl_g0⟩)
    (vg0 : Vals [.str ⟨[110, 111, 114, 109, 97, 108].toArray⟩, .str ⟨[111, 119, 110].toArray⟩, .str ⟨[114, 101, 99, 97, 108, 108].toArray⟩, .str ⟨[102, 105, 114, 101].toArray⟩, .str ⟨[99, 97, 114, 101].toArray⟩, .str ⟨[111, 117, 116].toArray⟩] its0.toList)
    (xag1 : PySem.W.nsIn K1 mainGlobals "MOST_MOVES" = some (some (.int 300 tg1)))
    (aC0 : PySem.W.nsIn (cutF K1) mainGlobals "LiftFault" = some (some (.ref C0)))
    (xe0 : PySem.W.excIn (cutF K1) C0 [.type "ValueError", .type "Exception", .type "BaseException", .type "object"] "ValueError.__new__" = true)
    (xk0 : PySem.W.keepIn (cutF K1) (.ref C0) = true)
    (xs0 : PySem.W.subIn (cutF K1) (.ref C0) (.type "BaseException") = some true)
    (xt0 : PySem.W.typeIn (cutF K1) (.ref C0) = some (.type "type"))
    (aC1 : PySem.W.nsIn (cutF K1) mainGlobals "ModeError" = some (some (.ref C1)))
    (xe1 : PySem.W.excIn (cutF K1) C1 [.type "ValueError", .type "Exception", .type "BaseException", .type "object"] "ValueError.__new__" = true)
    (xk1 : PySem.W.keepIn (cutF K1) (.ref C1) = true)
    (xs1 : PySem.W.subIn (cutF K1) (.ref C1) (.type "BaseException") = some true)
    (xt1 : PySem.W.typeIn (cutF K1) (.ref C1) = some (.type "type"))
    (aC2 : PySem.W.nsIn (cutF K1) mainGlobals "Mode" = some (some (.ref C2)))
    (pg2 : PySem.W.plainGet (cutF K1) C2 Str.empty = true)
    (hd2 : PySem.W.hasDictIn (cutF K1) C2 = true)
    (po2 : PySem.W.plainOver (cutF K1) C2 = true)
    (sa2 : PySem.W.findIn (cutF K1) (.ref C2) "__setattr__" = some (some (.builtin "object.__setattr__")))
    (mk2 : PySem.W.makesIn (cutF K1) C2 = true)
    (kc2 : PySem.W.keepIn (cutF K1) (.ref C2) = true)
    (na2_mode : PySem.W.findIn (cutF K1) (.ref C2) "mode" = some none)
    (na2_place : PySem.W.findIn (cutF K1) (.ref C2) "place" = some none)
    (na2_home : PySem.W.findIn (cutF K1) (.ref C2) "home" = some none)
    (na2_other : PySem.W.findIn (cutF K1) (.ref C2) "other" = some none)
    (na2_burns : PySem.W.findIn (cutF K1) (.ref C2) "burns" = some none)
    (na2_moves : PySem.W.findIn (cutF K1) (.ref C2) "moves" = some none)
    (na2_now : PySem.W.findIn (cutF K1) (.ref C2) "now" = some none)
    (a18 : PySem.W.nsIn (cutF K1) mainGlobals "_law_dice" = some (some (.ref f18)))
    (l18 : (cutF K1).lookup f18 = some ⟨oc18, od18, .func (PySem.W.fnOf "_law_dice" "_law_dice" (defArgs st18) (defBody st18) (defScope st18) .none kV18 dc18 pm18 an18 cd18 ct18), sl18⟩)
    (c18 : PySem.W.codeIn (cutF K1) cd18 "_law_dice" = true)
    (k18 : PySem.W.keepIn (cutF K1) (.ref f18) = true)
    (a20 : PySem.W.nsIn (cutF K1) mainGlobals "_law_rounds" = some (some (.ref f20)))
    (l20 : (cutF K1).lookup f20 = some ⟨oc20, od20, .func (PySem.W.fnOf "_law_rounds" "_law_rounds" (defArgs st20) (defBody st20) (defScope st20) .none kV20 dc20 pm20 an20 cd20 ct20), sl20⟩)
    (c20 : PySem.W.codeIn (cutF K1) cd20 "_law_rounds" = true)
    (k20 : PySem.W.keepIn (cutF K1) (.ref f20) = true)
    (a0 : PySem.W.findIn (cutF K1) (.ref C2) "__init__" = some (some (.ref f0)))
    (i0 : PySem.W.isFn (cutF K1) (.ref f0) = true)
    (l0 : (cutF K1).lookup f0 = some ⟨oc0, od0, .func (PySem.W.fnOf "__init__" "Mode.__init__" (defArgs st0) (defBody st0) (defScope st0) .none kV0 dc0 pm0 an0 cd0 ct0), sl0⟩)
    (c0 : PySem.W.codeIn (cutF K1) cd0 "Mode.__init__" = true)
    (k0 : PySem.W.keepIn (cutF K1) (.ref f0) = true)
    (a1 : PySem.W.findIn (cutF K1) (.ref C2) "check_second" = some (some (.ref f1)))
    (i1 : PySem.W.isFn (cutF K1) (.ref f1) = true)
    (l1 : (cutF K1).lookup f1 = some ⟨oc1, od1, .func (PySem.W.fnOf "check_second" "Mode.check_second" (defArgs st1) (defBody st1) (defScope st1) .none kV1 dc1 pm1 an1 cd1 ct1), sl1⟩)
    (c1 : PySem.W.codeIn (cutF K1) cd1 "Mode.check_second" = true)
    (k1 : PySem.W.keepIn (cutF K1) (.ref f1) = true)
    (a2 : PySem.W.findIn (cutF K1) (.ref C2) "change_to" = some (some (.ref f2)))
    (i2 : PySem.W.isFn (cutF K1) (.ref f2) = true)
    (l2 : (cutF K1).lookup f2 = some ⟨oc2, od2, .func (PySem.W.fnOf "change_to" "Mode.change_to" (defArgs st2) (defBody st2) (defScope st2) .none kV2 dc2 pm2 an2 cd2 ct2), sl2⟩)
    (c2 : PySem.W.codeIn (cutF K1) cd2 "Mode.change_to" = true)
    (k2 : PySem.W.keepIn (cutF K1) (.ref f2) = true)
    (a10 : PySem.W.findIn (cutF K1) (.ref C2) "take_care" = some (some (.ref f10)))
    (i10 : PySem.W.isFn (cutF K1) (.ref f10) = true)
    (l10 : (cutF K1).lookup f10 = some ⟨oc10, od10, .func (PySem.W.fnOf "take_care" "Mode.take_care" (defArgs st10) (defBody st10) (defScope st10) .none kV10 dc10 pm10 an10 cd10 ct10), sl10⟩)
    (c10 : PySem.W.codeIn (cutF K1) cd10 "Mode.take_care" = true)
    (k10 : PySem.W.keepIn (cutF K1) (.ref f10) = true)
    (a9 : PySem.W.findIn (cutF K1) (.ref C2) "give_back" = some (some (.ref f9)))
    (i9 : PySem.W.isFn (cutF K1) (.ref f9) = true)
    (l9 : (cutF K1).lookup f9 = some ⟨oc9, od9, .func (PySem.W.fnOf "give_back" "Mode.give_back" (defArgs st9) (defBody st9) (defScope st9) .none kV9 dc9 pm9 an9 cd9 ct9), sl9⟩)
    (c9 : PySem.W.codeIn (cutF K1) cd9 "Mode.give_back" = true)
    (k9 : PySem.W.keepIn (cutF K1) (.ref f9) = true)
    (a3 : PySem.W.findIn (cutF K1) (.ref C2) "put_alarm" = some (some (.ref f3)))
    (i3 : PySem.W.isFn (cutF K1) (.ref f3) = true)
    (l3 : (cutF K1).lookup f3 = some ⟨oc3, od3, .func (PySem.W.fnOf "put_alarm" "Mode.put_alarm" (defArgs st3) (defBody st3) (defScope st3) .none kV3 dc3 pm3 an3 cd3 ct3), sl3⟩)
    (c3 : PySem.W.codeIn (cutF K1) cd3 "Mode.put_alarm" = true)
    (k3 : PySem.W.keepIn (cutF K1) (.ref f3) = true)
    (a4 : PySem.W.findIn (cutF K1) (.ref C2) "goal_now" = some (some (.ref f4)))
    (i4 : PySem.W.isFn (cutF K1) (.ref f4) = true)
    (l4 : (cutF K1).lookup f4 = some ⟨oc4, od4, .func (PySem.W.fnOf "goal_now" "Mode.goal_now" (defArgs st4) (defBody st4) (defScope st4) .none kV4 dc4 pm4 an4 cd4 ct4), sl4⟩)
    (c4 : PySem.W.codeIn (cutF K1) cd4 "Mode.goal_now" = true)
    (k4 : PySem.W.keepIn (cutF K1) (.ref f4) = true)
    (a5 : PySem.W.findIn (cutF K1) (.ref C2) "arrive_at" = some (some (.ref f5)))
    (i5 : PySem.W.isFn (cutF K1) (.ref f5) = true)
    (l5 : (cutF K1).lookup f5 = some ⟨oc5, od5, .func (PySem.W.fnOf "arrive_at" "Mode.arrive_at" (defArgs st5) (defBody st5) (defScope st5) .none kV5 dc5 pm5 an5 cd5 ct5), sl5⟩)
    (c5 : PySem.W.codeIn (cutF K1) cd5 "Mode.arrive_at" = true)
    (k5 : PySem.W.keepIn (cutF K1) (.ref f5) = true)
    (a6 : PySem.W.findIn (cutF K1) (.ref C2) "turn_key" = some (some (.ref f6)))
    (i6 : PySem.W.isFn (cutF K1) (.ref f6) = true)
    (l6 : (cutF K1).lookup f6 = some ⟨oc6, od6, .func (PySem.W.fnOf "turn_key" "Mode.turn_key" (defArgs st6) (defBody st6) (defScope st6) .none kV6 dc6 pm6 an6 cd6 ct6), sl6⟩)
    (c6 : PySem.W.codeIn (cutF K1) cd6 "Mode.turn_key" = true)
    (k6 : PySem.W.keepIn (cutF K1) (.ref f6) = true)
    (a12 : PySem.W.findIn (cutF K1) (.ref C2) "takes_calls" = some (some (.ref f12)))
    (i12 : PySem.W.isFn (cutF K1) (.ref f12) = true)
    (l12 : (cutF K1).lookup f12 = some ⟨oc12, od12, .func (PySem.W.fnOf "takes_calls" "Mode.takes_calls" (defArgs st12) (defBody st12) (defScope st12) .none kV12 dc12 pm12 an12 cd12 ct12), sl12⟩)
    (c12 : PySem.W.codeIn (cutF K1) cd12 "Mode.takes_calls" = true)
    (k12 : PySem.W.keepIn (cutF K1) (.ref f12) = true)
    (a13 : PySem.W.findIn (cutF K1) (.ref C2) "door_by_itself" = some (some (.ref f13)))
    (i13 : PySem.W.isFn (cutF K1) (.ref f13) = true)
    (l13 : (cutF K1).lookup f13 = some ⟨oc13, od13, .func (PySem.W.fnOf "door_by_itself" "Mode.door_by_itself" (defArgs st13) (defBody st13) (defScope st13) .none kV13 dc13 pm13 an13 cd13 ct13), sl13⟩)
    (c13 : PySem.W.codeIn (cutF K1) cd13 "Mode.door_by_itself" = true)
    (k13 : PySem.W.keepIn (cutF K1) (.ref f13) = true)
    (a7 : PySem.W.findIn (cutF K1) (.ref C2) "all_clear" = some (some (.ref f7)))
    (i7 : PySem.W.isFn (cutF K1) (.ref f7) = true)
    (l7 : (cutF K1).lookup f7 = some ⟨oc7, od7, .func (PySem.W.fnOf "all_clear" "Mode.all_clear" (defArgs st7) (defBody st7) (defScope st7) .none kV7 dc7 pm7 an7 cd7 ct7), sl7⟩)
    (c7 : PySem.W.codeIn (cutF K1) cd7 "Mode.all_clear" = true)
    (k7 : PySem.W.keepIn (cutF K1) (.ref f7) = true)
    (a8 : PySem.W.findIn (cutF K1) (.ref C2) "take_own" = some (some (.ref f8)))
    (i8 : PySem.W.isFn (cutF K1) (.ref f8) = true)
    (l8 : (cutF K1).lookup f8 = some ⟨oc8, od8, .func (PySem.W.fnOf "take_own" "Mode.take_own" (defArgs st8) (defBody st8) (defScope st8) .none kV8 dc8 pm8 an8 cd8 ct8), sl8⟩)
    (c8 : PySem.W.codeIn (cutF K1) cd8 "Mode.take_own" = true)
    (k8 : PySem.W.keepIn (cutF K1) (.ref f8) = true)
    (a11 : PySem.W.findIn (cutF K1) (.ref C2) "let_fail" = some (some (.ref f11)))
    (i11 : PySem.W.isFn (cutF K1) (.ref f11) = true)
    (l11 : (cutF K1).lookup f11 = some ⟨oc11, od11, .func (PySem.W.fnOf "let_fail" "Mode.let_fail" (defArgs st11) (defBody st11) (defScope st11) .none kV11 dc11 pm11 an11 cd11 ct11), sl11⟩)
    (c11 : PySem.W.codeIn (cutF K1) cd11 "Mode.let_fail" = true)
    (k11 : PySem.W.keepIn (cutF K1) (.ref f11) = true)
    (a15 : PySem.W.findIn (cutF K1) (.ref C2) "mode_at" = some (some (.ref f15)))
    (i15 : PySem.W.isFn (cutF K1) (.ref f15) = true)
    (l15 : (cutF K1).lookup f15 = some ⟨oc15, od15, .func (PySem.W.fnOf "mode_at" "Mode.mode_at" (defArgs st15) (defBody st15) (defScope st15) .none kV15 dc15 pm15 an15 cd15 ct15), sl15⟩)
    (c15 : PySem.W.codeIn (cutF K1) cd15 "Mode.mode_at" = true)
    (k15 : PySem.W.keepIn (cutF K1) (.ref f15) = true)
    (a14 : PySem.W.findIn (cutF K1) (.ref C2) "seconds_in" = some (some (.ref f14)))
    (i14 : PySem.W.isFn (cutF K1) (.ref f14) = true)
    (l14 : (cutF K1).lookup f14 = some ⟨oc14, od14, .func (PySem.W.fnOf "seconds_in" "Mode.seconds_in" (defArgs st14) (defBody st14) (defScope st14) .none kV14 dc14 pm14 an14 cd14 ct14), sl14⟩)
    (c14 : PySem.W.codeIn (cutF K1) cd14 "Mode.seconds_in" = true)
    (k14 : PySem.W.keepIn (cutF K1) (.ref f14) = true)
    (a16 : PySem.W.findIn (cutF K1) (.ref C2) "share_in_use" = some (some (.ref f16)))
    (i16 : PySem.W.isFn (cutF K1) (.ref f16) = true)
    (l16 : (cutF K1).lookup f16 = some ⟨oc16, od16, .func (PySem.W.fnOf "share_in_use" "Mode.share_in_use" (defArgs st16) (defBody st16) (defScope st16) .none kV16 dc16 pm16 an16 cd16 ct16), sl16⟩)
    (c16 : PySem.W.codeIn (cutF K1) cd16 "Mode.share_in_use" = true)
    (k16 : PySem.W.keepIn (cutF K1) (.ref f16) = true)
    (a17 : PySem.W.findIn (cutF K1) (.ref C2) "move_lines" = some (some (.ref f17)))
    (i17 : PySem.W.isFn (cutF K1) (.ref f17) = true)
    (l17 : (cutF K1).lookup f17 = some ⟨oc17, od17, .func (PySem.W.fnOf "move_lines" "Mode.move_lines" (defArgs st17) (defBody st17) (defScope st17) .none kV17 dc17 pm17 an17 cd17 ct17), sl17⟩)
    (c17 : PySem.W.codeIn (cutF K1) cd17 "Mode.move_lines" = true)
    (k17 : PySem.W.keepIn (cutF K1) (.ref f17) = true)
    (a21 : PySem.W.nsIn (cutF K1) mainGlobals "_law_told" = some (some (.ref f21)))
    (l21 : (cutF K1).lookup f21 = some ⟨oc21, od21, .func (PySem.W.fnOf "_law_told" "_law_told" (defArgs st21) (defBody st21) (defScope st21) .none kV21 dc21 pm21 an21 cd21 ct21), sl21⟩)
    (c21 : PySem.W.codeIn (cutF K1) cd21 "_law_told" = true)
    (k21 : PySem.W.keepIn (cutF K1) (.ref f21) = true)
    (a25 : PySem.W.nsIn (cutF K1) mainGlobals "_law_plain" = some (some (.ref f25)))
    (l25 : (cutF K1).lookup f25 = some ⟨oc25, od25, .func (PySem.W.fnOf "_law_plain" "_law_plain" (defArgs st25) (defBody st25) (defScope st25) .none kV25 dc25 pm25 an25 cd25 ct25), sl25⟩)
    (c25 : PySem.W.codeIn (cutF K1) cd25 "_law_plain" = true)
    (k25 : PySem.W.keepIn (cutF K1) (.ref f25) = true)
    (a19 : PySem.W.nsIn (cutF K1) mainGlobals "_law_roll" = some (some (.ref f19)))
    (l19 : (cutF K1).lookup f19 = some ⟨oc19, od19, .func (PySem.W.fnOf "_law_roll" "_law_roll" (defArgs st19) (defBody st19) (defScope st19) .none kV19 dc19 pm19 an19 cd19 ct19), sl19⟩)
    (c19 : PySem.W.codeIn (cutF K1) cd19 "_law_roll" = true)
    (k19 : PySem.W.keepIn (cutF K1) (.ref f19) = true)
    (a23 : PySem.W.nsIn (cutF K1) mainGlobals "_law_to" = some (some (.ref f23)))
    (l23 : (cutF K1).lookup f23 = some ⟨oc23, od23, .func (PySem.W.fnOf "_law_to" "_law_to" (defArgs st23) (defBody st23) (defScope st23) .none kV23 dc23 pm23 an23 cd23 ct23), sl23⟩)
    (c23 : PySem.W.codeIn (cutF K1) cd23 "_law_to" = true)
    (k23 : PySem.W.keepIn (cutF K1) (.ref f23) = true)
    (a22 : PySem.W.nsIn (cutF K1) mainGlobals "_law_goal" = some (some (.ref f22)))
    (l22 : (cutF K1).lookup f22 = some ⟨oc22, od22, .func (PySem.W.fnOf "_law_goal" "_law_goal" (defArgs st22) (defBody st22) (defScope st22) .none kV22 dc22 pm22 an22 cd22 ct22), sl22⟩)
    (c22 : PySem.W.codeIn (cutF K1) cd22 "_law_goal" = true)
    (k22 : PySem.W.keepIn (cutF K1) (.ref f22) = true)
    (a24 : PySem.W.nsIn (cutF K1) mainGlobals "_law_deed" = some (some (.ref f24)))
    (l24 : (cutF K1).lookup f24 = some ⟨oc24, od24, .func (PySem.W.fnOf "_law_deed" "_law_deed" (defArgs st24) (defBody st24) (defScope st24) .none kV24 dc24 pm24 an24 cd24 ct24), sl24⟩)
    (c24 : PySem.W.codeIn (cutF K1) cd24 "_law_deed" = true)
    (k24 : PySem.W.keepIn (cutF K1) (.ref f24) = true)
    (a26 : PySem.W.nsIn (cutF K1) mainGlobals "law" = some (some (.ref f26)))
    (l26 : (cutF K1).lookup f26 = some ⟨oc26, od26, .func (PySem.W.fnOf "law" "law" (defArgs st26) (defBody st26) (defScope st26) .none kV26 dc26 pm26 an26 cd26 ct26), sl26⟩)
    (c26 : PySem.W.codeIn (cutF K1) cd26 "law" = true)
    (k26 : PySem.W.keepIn (cutF K1) (.ref f26) = true)
    (lC0 : (cutF K1).lookup cc0 = some ⟨ocC0, odC0, .fields vsC0, slC0⟩)
    (hC0 : PySem.W.codeHdIn (cutF K1) cc0 cP0 = true)
    (nC0 : (cutF K1).lookup cP0 = none)
    (tC0 : K1.lookup cP0 = some { cls := .none, data := .fields #[] })
    (lC1 : (cutF K1).lookup cc1 = some ⟨ocC1, odC1, .fields vsC1, slC1⟩)
    (hC1 : PySem.W.codeHdIn (cutF K1) cc1 cP1 = true)
    (nC1 : (cutF K1).lookup cP1 = none)
    (tC1 : K1.lookup cP1 = some { cls := .none, data := .fields #[] })
    (lC2 : (cutF K1).lookup cc2 = some ⟨ocC2, odC2, .fields vsC2, slC2⟩)
    (hC2 : PySem.W.codeHdIn (cutF K1) cc2 cP2 = true)
    (nC2 : (cutF K1).lookup cP2 = none)
    (tC2 : K1.lookup cP2 = some { cls := .none, data := .fields #[] })
    (lC3 : (cutF K1).lookup cc3 = some ⟨ocC3, odC3, .fields vsC3, slC3⟩)
    (hC3 : PySem.W.codeHdIn (cutF K1) cc3 cP3 = true)
    (nC3 : (cutF K1).lookup cP3 = none)
    (tC3 : K1.lookup cP3 = some { cls := .none, data := .fields #[] })
    (lC4 : (cutF K1).lookup cc4 = some ⟨ocC4, odC4, .fields vsC4, slC4⟩)
    (hC4 : PySem.W.codeHdIn (cutF K1) cc4 cP4 = true)
    (nC4 : (cutF K1).lookup cP4 = none)
    (tC4 : K1.lookup cP4 = some { cls := .none, data := .fields #[] })
    (np0_1 : cP0 ≠ cP1)
    (np0_2 : cP0 ≠ cP2)
    (np0_3 : cP0 ≠ cP3)
    (np0_4 : cP0 ≠ cP4)
    (np1_2 : cP1 ≠ cP2)
    (np1_3 : cP1 ≠ cP3)
    (np1_4 : cP1 ≠ cP4)
    (np2_3 : cP2 ≠ cP3)
    (np2_4 : cP2 ≠ cP4)
    (np3_4 : cP3 ≠ cP4)
    (bi_abs : PySem.W.nsIn (cutF K1) mainGlobals "abs" = some none)
    (bi_int : PySem.W.nsIn (cutF K1) mainGlobals "int" = some none)
    (bi_len : PySem.W.nsIn (cutF K1) mainGlobals "len" = some none)
    (bi_list : PySem.W.nsIn (cutF K1) mainGlobals "list" = some none)
    (bi_min : PySem.W.nsIn (cutF K1) mainGlobals "min" = some none)
    (bi_range : PySem.W.nsIn (cutF K1) mainGlobals "range" = some none)
    (bi_str : PySem.W.nsIn (cutF K1) mainGlobals "str" = some none)
    (bi_sum : PySem.W.nsIn (cutF K1) mainGlobals "sum" = some none)
    (bi_tuple : PySem.W.nsIn (cutF K1) mainGlobals "tuple" = some none)
    (bi_zip : PySem.W.nsIn (cutF K1) mainGlobals "zip" = some none)
    (ag0 : PySem.W.nsIn (cutF K1) mainGlobals "MODES" = some (some (.ref g0)))
    (lg0 : (cutF K1).lookup g0 = some ⟨.type "tuple", none, .seq its0 n0, sl_g0⟩)
    (zg0 : its0.size ≤ 1000)
    (ag1 : PySem.W.nsIn (cutF K1) mainGlobals "MOST_MOVES" = some (some (.int 300 tg1)))
    (tcl : PySem.W.isClsIn (cutF K1) C1 = true)
    (ts1 : PySem.W.subIn (cutF K1) (.ref C1) (.ref C1) = some true)
    (lawP : ∀ ns : List Int, ns.length ≤ 63 → (∀ z ∈ ns, Builtin.Int.intBits z ≤ 1048576) → ∃ M, g_law [.fix (ns.map T.int)] [] = .ok (.bl true) M) :
    LamX.LawAtS PySem.Challenge.rw_liftstack_k13_modes_of_a_car w (cutF K1) (L2.CX PySem.Challenge.pw_liftstack_k13_modes_of_a_car w) 11 63 "script" mg fa h :=
  all_mk X G hfa aC0 xe0 xk0 xs0 xt0 aC1 xe1 xk1 xs1 xt1 aC2 pg2 hd2 po2 sa2 mk2 kc2 na2_mode na2_place na2_home na2_other na2_burns na2_moves na2_now a18 l18 c18 k18 a20 l20 c20 k20 a0 i0 l0 c0 k0 a1 i1 l1 c1 k1 a2 i2 l2 c2 k2 a10 i10 l10 c10 k10 a9 i9 l9 c9 k9 a3 i3 l3 c3 k3 a4 i4 l4 c4 k4 a5 i5 l5 c5 k5 a6 i6 l6 c6 k6 a12 i12 l12 c12 k12 a13 i13 l13 c13 k13 a7 i7 l7 c7 k7 a8 i8 l8 c8 k8 a11 i11 l11 c11 k11 a15 i15 l15 c15 k15 a14 i14 l14 c14 k14 a16 i16 l16 c16 k16 a17 i17 l17 c17 k17 a21 l21 c21 k21 a25 l25 c25 k25 a19 l19 c19 k19 a23 l23 c23 k23 a22 l22 c22 k22 a24 l24 c24 k24 a26 l26 c26 k26 e0 lC0 vC0 hC0 nC0 (tab_at X1 tC0) e1 lC1 vC1 hC1 nC1 (tab_at X1 tC1) e2 lC2 vC2 hC2 nC2 (tab_at X1 tC2) e3 lC3 vC3 hC3 nC3 (tab_at X1 tC3) e4 lC4 vC4 hC4 nC4 (tab_at X1 tC4) np0_1 np0_2 np0_3 np0_4 np1_2 np1_3 np1_4 np2_3 np2_4 np3_4 bi_abs bi_int bi_len bi_list bi_min bi_range bi_str bi_sum bi_tuple bi_zip ag0 lg0 vg0 zg0 ag1 tcl ts1 lawP
end Mi
namespace Mi
open PySem PySem.Spec PyProof.Rows
theorem roll_at {R : Hs} {D : Di} {many : Int} (h0 : 0 < many) (h1 : many ≤ 100000000) : g_law_roll [.ref 0, .int many] (D.ob :: R) = .ok (.int (D.k many)) ((D.n many).ob :: R) := by
  obtain ⟨a, b, c⟩ := D
  have n0 : many ≠ 0 := by omega
  have n1 : many.natAbs < 1073741824 := by omega
  have n2 : ¬ 100000000 < many := by omega
  have e0 : g_law_roll = mBody 3 (b_law_roll (g_law_roll_n 2)) := rfl
  by_cases c2 : c = 2
  · subst c2
    simp [e0, b_law_roll, Di.ob, Di.k, Di.n, Di.big, n0, n1, ↓p_bind, ↓p_st, ↓p_seq, ↓p_if, ↓p_ifE, ↓p_and, ↓p_or, ↓p_not, ↓p_bool, ↓p_ofB, ↓p_C, ↓p_var, ↓p_op2, ↓p_op1, ↓p_nil, ↓p_cons, ↓p_app, ↓p_call, ↓p_tup, ↓p_lst, ↓p_lstR, ↓p_fld, ↓p_meth, ↓p_make, ↓p_tru, ↓p_orV, ↓p_andV, ↓p_bm, ↓p_told, ↓p_set, ↓p_exp, ↓p_ret, ↓p_retN, ↓p_skip, ↓p_raise, ↓p_brk, ↓p_cnt, ↓p_body, ↓p_asg, ↓p_par, ↓p_setFld, ↓p_setSub, ↓p_augVar, ↓p_chain, ↓p_fmt, ↓p_js0, ↓p_js1, ↓p_iv, ↓p_ia, ↓p_for, ↓p_noP, ↓p_pt, ↓p_sl, ↓p_pairs0, ↓p_pairs1, ↓p_dct, ↓p_dctR, ↓p_dctR0, ↓p_yes, ↓p_lc, ↓p_gtup, ↓p_gsum, ↓p_gsorted, ↓p_gmin, ↓p_gmax, ↓p_gany, ↓p_gall, ↓p_lcT, ↓p_byT, wipeT, rngV2, fList, fCount, fIndex, okT, tru, fEqG, drF_s, drF_non, drF_bl, drF_int, drF_str, fEqP, deR, dp, teq_ss, teq_ii, teq_bb, teq_nn, teq_sn, teq_ns, teq_in, teq_ni, teq_bn, teq_nb, teq_si, teq_is, teq_sb, teq_bs, teq_ll, teq_tt, teq_ln, teq_tn, teqL_nn, teqL_cc, teqL_e, teqL_e2, fAdd, fSub, fMul, fDiv, fMod, fPow, fNeg, fLt, fLe, fGt, fGe, fIs, fIsN, isNon, smallI, putFld, rdFld, fIAdd, fPut, fIx, fTix, fstIx, fAbs, fMax2, fMin2, fMax3, fMin3, fInt, fLen, fStr, isDR, isLR, isLs, fAppend, fUpd, dcOf, isRef, lsW, lsOf, kEq, isKey, okD, stL, gTp, gC, gN, gZ, fInG, atI_lit, atI_0, atI_1, atI_m1, cutL_from, cutL_from1, cutL_to, cutL_to1, L2.ixN, emp_app, List.isEmpty_cons, List.isEmpty_nil, Bool.and_false, lt_line, le_line, srcV, rngV1, forS, fSl, dMerge, dPut, dHas, dGet, ft_burns, ft_home, ft_mode, ft_moves, ft_now, ft_other, ft_place,cs_told, ret_told]
  · by_cases c1 : c = 1
    · subst c1
      by_cases ha : 0 < a
      · simp [e0, b_law_roll, Di.ob, Di.k, Di.n, Di.big, ha, n0, n1, ↓p_bind, ↓p_st, ↓p_seq, ↓p_if, ↓p_ifE, ↓p_and, ↓p_or, ↓p_not, ↓p_bool, ↓p_ofB, ↓p_C, ↓p_var, ↓p_op2, ↓p_op1, ↓p_nil, ↓p_cons, ↓p_app, ↓p_call, ↓p_tup, ↓p_lst, ↓p_lstR, ↓p_fld, ↓p_meth, ↓p_make, ↓p_tru, ↓p_orV, ↓p_andV, ↓p_bm, ↓p_told, ↓p_set, ↓p_exp, ↓p_ret, ↓p_retN, ↓p_skip, ↓p_raise, ↓p_brk, ↓p_cnt, ↓p_body, ↓p_asg, ↓p_par, ↓p_setFld, ↓p_setSub, ↓p_augVar, ↓p_chain, ↓p_fmt, ↓p_js0, ↓p_js1, ↓p_iv, ↓p_ia, ↓p_for, ↓p_noP, ↓p_pt, ↓p_sl, ↓p_pairs0, ↓p_pairs1, ↓p_dct, ↓p_dctR, ↓p_dctR0, ↓p_yes, ↓p_lc, ↓p_gtup, ↓p_gsum, ↓p_gsorted, ↓p_gmin, ↓p_gmax, ↓p_gany, ↓p_gall, ↓p_lcT, ↓p_byT, wipeT, rngV2, fList, fCount, fIndex, okT, tru, fEqG, drF_s, drF_non, drF_bl, drF_int, drF_str, fEqP, deR, dp, teq_ss, teq_ii, teq_bb, teq_nn, teq_sn, teq_ns, teq_in, teq_ni, teq_bn, teq_nb, teq_si, teq_is, teq_sb, teq_bs, teq_ll, teq_tt, teq_ln, teq_tn, teqL_nn, teqL_cc, teqL_e, teqL_e2, fAdd, fSub, fMul, fDiv, fMod, fPow, fNeg, fLt, fLe, fGt, fGe, fIs, fIsN, isNon, smallI, putFld, rdFld, fIAdd, fPut, fIx, fTix, fstIx, fAbs, fMax2, fMin2, fMax3, fMin3, fInt, fLen, fStr, isDR, isLR, isLs, fAppend, fUpd, dcOf, isRef, lsW, lsOf, kEq, isKey, okD, stL, gTp, gC, gN, gZ, fInG, atI_lit, atI_0, atI_1, atI_m1, cutL_from, cutL_from1, cutL_to, cutL_to1, L2.ixN, emp_app, List.isEmpty_cons, List.isEmpty_nil, Bool.and_false, lt_line, le_line, srcV, rngV1, forS, fSl, dMerge, dPut, dHas, dGet, ft_burns, ft_home, ft_mode, ft_moves, ft_now, ft_other, ft_place,cs_told, ret_told]
      · simp [e0, b_law_roll, Di.ob, Di.k, Di.n, Di.big, Di.na, ha, n0, n1, n2, ↓p_bind, ↓p_st, ↓p_seq, ↓p_if, ↓p_ifE, ↓p_and, ↓p_or, ↓p_not, ↓p_bool, ↓p_ofB, ↓p_C, ↓p_var, ↓p_op2, ↓p_op1, ↓p_nil, ↓p_cons, ↓p_app, ↓p_call, ↓p_tup, ↓p_lst, ↓p_lstR, ↓p_fld, ↓p_meth, ↓p_make, ↓p_tru, ↓p_orV, ↓p_andV, ↓p_bm, ↓p_told, ↓p_set, ↓p_exp, ↓p_ret, ↓p_retN, ↓p_skip, ↓p_raise, ↓p_brk, ↓p_cnt, ↓p_body, ↓p_asg, ↓p_par, ↓p_setFld, ↓p_setSub, ↓p_augVar, ↓p_chain, ↓p_fmt, ↓p_js0, ↓p_js1, ↓p_iv, ↓p_ia, ↓p_for, ↓p_noP, ↓p_pt, ↓p_sl, ↓p_pairs0, ↓p_pairs1, ↓p_dct, ↓p_dctR, ↓p_dctR0, ↓p_yes, ↓p_lc, ↓p_gtup, ↓p_gsum, ↓p_gsorted, ↓p_gmin, ↓p_gmax, ↓p_gany, ↓p_gall, ↓p_lcT, ↓p_byT, wipeT, rngV2, fList, fCount, fIndex, okT, tru, fEqG, drF_s, drF_non, drF_bl, drF_int, drF_str, fEqP, deR, dp, teq_ss, teq_ii, teq_bb, teq_nn, teq_sn, teq_ns, teq_in, teq_ni, teq_bn, teq_nb, teq_si, teq_is, teq_sb, teq_bs, teq_ll, teq_tt, teq_ln, teq_tn, teqL_nn, teqL_cc, teqL_e, teqL_e2, fAdd, fSub, fMul, fDiv, fMod, fPow, fNeg, fLt, fLe, fGt, fGe, fIs, fIsN, isNon, smallI, putFld, rdFld, fIAdd, fPut, fIx, fTix, fstIx, fAbs, fMax2, fMin2, fMax3, fMin3, fInt, fLen, fStr, isDR, isLR, isLs, fAppend, fUpd, dcOf, isRef, lsW, lsOf, kEq, isKey, okD, stL, gTp, gC, gN, gZ, fInG, atI_lit, atI_0, atI_1, atI_m1, cutL_from, cutL_from1, cutL_to, cutL_to1, L2.ixN, emp_app, List.isEmpty_cons, List.isEmpty_nil, Bool.and_false, lt_line, le_line, srcV, rngV1, forS, fSl, dMerge, dPut, dHas, dGet, ft_burns, ft_home, ft_mode, ft_moves, ft_now, ft_other, ft_place,cs_told, ret_told]
    · simp [e0, b_law_roll, Di.ob, Di.k, Di.n, Di.big, Di.na, c1, c2, n0, n1, n2, ↓p_bind, ↓p_st, ↓p_seq, ↓p_if, ↓p_ifE, ↓p_and, ↓p_or, ↓p_not, ↓p_bool, ↓p_ofB, ↓p_C, ↓p_var, ↓p_op2, ↓p_op1, ↓p_nil, ↓p_cons, ↓p_app, ↓p_call, ↓p_tup, ↓p_lst, ↓p_lstR, ↓p_fld, ↓p_meth, ↓p_make, ↓p_tru, ↓p_orV, ↓p_andV, ↓p_bm, ↓p_told, ↓p_set, ↓p_exp, ↓p_ret, ↓p_retN, ↓p_skip, ↓p_raise, ↓p_brk, ↓p_cnt, ↓p_body, ↓p_asg, ↓p_par, ↓p_setFld, ↓p_setSub, ↓p_augVar, ↓p_chain, ↓p_fmt, ↓p_js0, ↓p_js1, ↓p_iv, ↓p_ia, ↓p_for, ↓p_noP, ↓p_pt, ↓p_sl, ↓p_pairs0, ↓p_pairs1, ↓p_dct, ↓p_dctR, ↓p_dctR0, ↓p_yes, ↓p_lc, ↓p_gtup, ↓p_gsum, ↓p_gsorted, ↓p_gmin, ↓p_gmax, ↓p_gany, ↓p_gall, ↓p_lcT, ↓p_byT, wipeT, rngV2, fList, fCount, fIndex, okT, tru, fEqG, drF_s, drF_non, drF_bl, drF_int, drF_str, fEqP, deR, dp, teq_ss, teq_ii, teq_bb, teq_nn, teq_sn, teq_ns, teq_in, teq_ni, teq_bn, teq_nb, teq_si, teq_is, teq_sb, teq_bs, teq_ll, teq_tt, teq_ln, teq_tn, teqL_nn, teqL_cc, teqL_e, teqL_e2, fAdd, fSub, fMul, fDiv, fMod, fPow, fNeg, fLt, fLe, fGt, fGe, fIs, fIsN, isNon, smallI, putFld, rdFld, fIAdd, fPut, fIx, fTix, fstIx, fAbs, fMax2, fMin2, fMax3, fMin3, fInt, fLen, fStr, isDR, isLR, isLs, fAppend, fUpd, dcOf, isRef, lsW, lsOf, kEq, isKey, okD, stL, gTp, gC, gN, gZ, fInG, atI_lit, atI_0, atI_1, atI_m1, cutL_from, cutL_from1, cutL_to, cutL_to1, L2.ixN, emp_app, List.isEmpty_cons, List.isEmpty_nil, Bool.and_false, lt_line, le_line, srcV, rngV1, forS, fSl, dMerge, dPut, dHas, dGet, ft_burns, ft_home, ft_mode, ft_moves, ft_now, ft_other, ft_place,cs_told, ret_told]
/-! ### the state -/
structure Md where
  mode : List Nat
  place : Int
  home : Int
  other : Int
  burns : List Nat
  rows : List T
  now : Int
def Md.ob (d : Md) : Ob := .ins 2 [.str d.mode, .int d.place, .int d.home, .int d.other, .str d.burns, .ref 2, .int d.now]
def Md.kv (d : Md) : List (T × T) := [(.str [109, 111, 100, 101], .str d.mode), (.str [112, 108, 97, 99, 101], .int d.place), (.str [104, 111, 109, 101], .int d.home), (.str [111, 116, 104, 101, 114], .int d.other), (.str [98, 117, 114, 110, 115], .str d.burns), (.str [109, 111, 118, 101, 115], .lst d.rows), (.str [110, 111, 119], .int d.now)]
def st (D : Di) (d e : Md) : Hs := [D.ob, d.ob, .lst d.rows, .dct e.kv]
theorem st_roll {D : Di} {d e : Md} {many : Int} (h0 : 0 < many) (h1 : many ≤ 100000000) : g_law_roll [.ref 0, .int many] (st D d e) = .ok (.int (D.k many)) (st (D.n many) d e) := roll_at h0 h1
theorem st_1 {D : Di} {d e : Md} : (st D d e)[1]? = some (.ins 2 [.str d.mode, .int d.place, .int d.home, .int d.other, .str d.burns, .ref 2, .int d.now]) := rfl
theorem st_2 {D : Di} {d e : Md} : (st D d e)[2]? = some (.lst d.rows) := rfl
theorem st_3 {D : Di} {d e : Md} : (st D d e)[3]? = some (.dct [(.str [109, 111, 100, 101], .str e.mode), (.str [112, 108, 97, 99, 101], .int e.place), (.str [104, 111, 109, 101], .int e.home), (.str [111, 116, 104, 101, 114], .int e.other), (.str [98, 117, 114, 110, 115], .str e.burns), (.str [109, 111, 118, 101, 115], .lst e.rows), (.str [110, 111, 119], .int e.now)]) := rfl
theorem st_s1 {D : Di} {d e : Md} {m b : List Nat} {p h o n : Int} : (st D d e).set 1 (.ins 2 [.str m, .int p, .int h, .int o, .str b, .ref 2, .int n]) = st D ⟨m, p, h, o, b, d.rows, n⟩ e := rfl
theorem st_s2 {D : Di} {d e : Md} {r : List T} : (st D d e).set 2 (.lst r) = st D ⟨d.mode, d.place, d.home, d.other, d.burns, r, d.now⟩ e := rfl
theorem st_s3 {D : Di} {d e : Md} {m b : List Nat} {p h o n : Int} {r : List T} : (st D d e).set 3 (.dct [(.str [109, 111, 100, 101], .str m), (.str [112, 108, 97, 99, 101], .int p), (.str [104, 111, 109, 101], .int h), (.str [111, 116, 104, 101, 114], .int o), (.str [98, 117, 114, 110, 115], .str b), (.str [109, 111, 118, 101, 115], .lst r), (.str [110, 111, 119], .int n)]) = st D d ⟨m, p, h, o, b, r, n⟩ := rfl
def Md.to (d : Md) (m w : List Nat) (t : Int) : Md := ⟨m, d.place, d.home, d.other, d.burns, d.rows ++ [.tup [.int t, .str m, .str w]], t⟩
def Md.goal (d : Md) : T := if d.mode = [114, 101, 99, 97, 108, 108] then .int (if d.burns = decT d.home then d.other else d.home) else .non
section
variable {D : Di} {d e : Md}
theorem chk_eq {t : Int} : g_Mode_check_second [.ref 1, .int t] (st D d e) = if t < d.now ∨ 300 ≤ d.rows.length then .ex 1 (st D d e) else .ok .non (st D d e) := by
  by_cases h1 : t < d.now
  · simp [g_Mode_check_second, b_Mode_check_second, c_MOST_MOVES, st_1, st_2, h1, ↓p_bind, ↓p_st, ↓p_seq, ↓p_if, ↓p_ifE, ↓p_and, ↓p_or, ↓p_not, ↓p_bool, ↓p_ofB, ↓p_C, ↓p_var, ↓p_op2, ↓p_op1, ↓p_nil, ↓p_cons, ↓p_app, ↓p_call, ↓p_tup, ↓p_lst, ↓p_lstR, ↓p_fld, ↓p_meth, ↓p_make, ↓p_tru, ↓p_orV, ↓p_andV, ↓p_bm, ↓p_told, ↓p_set, ↓p_exp, ↓p_ret, ↓p_retN, ↓p_skip, ↓p_raise, ↓p_brk, ↓p_cnt, ↓p_body, ↓p_asg, ↓p_par, ↓p_setFld, ↓p_setSub, ↓p_augVar, ↓p_chain, ↓p_fmt, ↓p_js0, ↓p_js1, ↓p_iv, ↓p_ia, ↓p_for, ↓p_noP, ↓p_pt, ↓p_sl, ↓p_pairs0, ↓p_pairs1, ↓p_dct, ↓p_dctR, ↓p_dctR0, ↓p_yes, ↓p_lc, ↓p_gtup, ↓p_gsum, ↓p_gsorted, ↓p_gmin, ↓p_gmax, ↓p_gany, ↓p_gall, ↓p_lcT, ↓p_byT, wipeT, rngV2, fList, fCount, fIndex, okT, tru, fEqG, drF_s, drF_non, drF_bl, drF_int, drF_str, fEqP, deR, dp, teq_ss, teq_ii, teq_bb, teq_nn, teq_sn, teq_ns, teq_in, teq_ni, teq_bn, teq_nb, teq_si, teq_is, teq_sb, teq_bs, teq_ll, teq_tt, teq_ln, teq_tn, teqL_nn, teqL_cc, teqL_e, teqL_e2, fAdd, fSub, fMul, fDiv, fMod, fPow, fNeg, fLt, fLe, fGt, fGe, fIs, fIsN, isNon, smallI, putFld, rdFld, fIAdd, fPut, fIx, fTix, fstIx, fAbs, fMax2, fMin2, fMax3, fMin3, fInt, fLen, fStr, isDR, isLR, isLs, fAppend, fUpd, dcOf, isRef, lsW, lsOf, kEq, isKey, okD, stL, gTp, gC, gN, gZ, fInG, atI_lit, atI_0, atI_1, atI_m1, cutL_from, cutL_from1, cutL_to, cutL_to1, L2.ixN, emp_app, List.isEmpty_cons, List.isEmpty_nil, Bool.and_false, lt_line, le_line, srcV, rngV1, forS, fSl, dMerge, dPut, dHas, dGet, ft_burns, ft_home, ft_mode, ft_moves, ft_now, ft_other, ft_place,cs_told, ret_told]
  · by_cases h2 : (300 : Int) ≤ (d.rows.length : Int)
    · have h3 : 300 ≤ d.rows.length := by omega
      simp [g_Mode_check_second, b_Mode_check_second, c_MOST_MOVES, st_1, st_2, h1, h2, h3, ↓p_bind, ↓p_st, ↓p_seq, ↓p_if, ↓p_ifE, ↓p_and, ↓p_or, ↓p_not, ↓p_bool, ↓p_ofB, ↓p_C, ↓p_var, ↓p_op2, ↓p_op1, ↓p_nil, ↓p_cons, ↓p_app, ↓p_call, ↓p_tup, ↓p_lst, ↓p_lstR, ↓p_fld, ↓p_meth, ↓p_make, ↓p_tru, ↓p_orV, ↓p_andV, ↓p_bm, ↓p_told, ↓p_set, ↓p_exp, ↓p_ret, ↓p_retN, ↓p_skip, ↓p_raise, ↓p_brk, ↓p_cnt, ↓p_body, ↓p_asg, ↓p_par, ↓p_setFld, ↓p_setSub, ↓p_augVar, ↓p_chain, ↓p_fmt, ↓p_js0, ↓p_js1, ↓p_iv, ↓p_ia, ↓p_for, ↓p_noP, ↓p_pt, ↓p_sl, ↓p_pairs0, ↓p_pairs1, ↓p_dct, ↓p_dctR, ↓p_dctR0, ↓p_yes, ↓p_lc, ↓p_gtup, ↓p_gsum, ↓p_gsorted, ↓p_gmin, ↓p_gmax, ↓p_gany, ↓p_gall, ↓p_lcT, ↓p_byT, wipeT, rngV2, fList, fCount, fIndex, okT, tru, fEqG, drF_s, drF_non, drF_bl, drF_int, drF_str, fEqP, deR, dp, teq_ss, teq_ii, teq_bb, teq_nn, teq_sn, teq_ns, teq_in, teq_ni, teq_bn, teq_nb, teq_si, teq_is, teq_sb, teq_bs, teq_ll, teq_tt, teq_ln, teq_tn, teqL_nn, teqL_cc, teqL_e, teqL_e2, fAdd, fSub, fMul, fDiv, fMod, fPow, fNeg, fLt, fLe, fGt, fGe, fIs, fIsN, isNon, smallI, putFld, rdFld, fIAdd, fPut, fIx, fTix, fstIx, fAbs, fMax2, fMin2, fMax3, fMin3, fInt, fLen, fStr, isDR, isLR, isLs, fAppend, fUpd, dcOf, isRef, lsW, lsOf, kEq, isKey, okD, stL, gTp, gC, gN, gZ, fInG, atI_lit, atI_0, atI_1, atI_m1, cutL_from, cutL_from1, cutL_to, cutL_to1, L2.ixN, emp_app, List.isEmpty_cons, List.isEmpty_nil, Bool.and_false, lt_line, le_line, srcV, rngV1, forS, fSl, dMerge, dPut, dHas, dGet, ft_burns, ft_home, ft_mode, ft_moves, ft_now, ft_other, ft_place,cs_told, ret_told]
    · have h3 : ¬ 300 ≤ d.rows.length := by omega
      simp [g_Mode_check_second, b_Mode_check_second, c_MOST_MOVES, st_1, st_2, h1, h2, h3, ↓p_bind, ↓p_st, ↓p_seq, ↓p_if, ↓p_ifE, ↓p_and, ↓p_or, ↓p_not, ↓p_bool, ↓p_ofB, ↓p_C, ↓p_var, ↓p_op2, ↓p_op1, ↓p_nil, ↓p_cons, ↓p_app, ↓p_call, ↓p_tup, ↓p_lst, ↓p_lstR, ↓p_fld, ↓p_meth, ↓p_make, ↓p_tru, ↓p_orV, ↓p_andV, ↓p_bm, ↓p_told, ↓p_set, ↓p_exp, ↓p_ret, ↓p_retN, ↓p_skip, ↓p_raise, ↓p_brk, ↓p_cnt, ↓p_body, ↓p_asg, ↓p_par, ↓p_setFld, ↓p_setSub, ↓p_augVar, ↓p_chain, ↓p_fmt, ↓p_js0, ↓p_js1, ↓p_iv, ↓p_ia, ↓p_for, ↓p_noP, ↓p_pt, ↓p_sl, ↓p_pairs0, ↓p_pairs1, ↓p_dct, ↓p_dctR, ↓p_dctR0, ↓p_yes, ↓p_lc, ↓p_gtup, ↓p_gsum, ↓p_gsorted, ↓p_gmin, ↓p_gmax, ↓p_gany, ↓p_gall, ↓p_lcT, ↓p_byT, wipeT, rngV2, fList, fCount, fIndex, okT, tru, fEqG, drF_s, drF_non, drF_bl, drF_int, drF_str, fEqP, deR, dp, teq_ss, teq_ii, teq_bb, teq_nn, teq_sn, teq_ns, teq_in, teq_ni, teq_bn, teq_nb, teq_si, teq_is, teq_sb, teq_bs, teq_ll, teq_tt, teq_ln, teq_tn, teqL_nn, teqL_cc, teqL_e, teqL_e2, fAdd, fSub, fMul, fDiv, fMod, fPow, fNeg, fLt, fLe, fGt, fGe, fIs, fIsN, isNon, smallI, putFld, rdFld, fIAdd, fPut, fIx, fTix, fstIx, fAbs, fMax2, fMin2, fMax3, fMin3, fInt, fLen, fStr, isDR, isLR, isLs, fAppend, fUpd, dcOf, isRef, lsW, lsOf, kEq, isKey, okD, stL, gTp, gC, gN, gZ, fInG, atI_lit, atI_0, atI_1, atI_m1, cutL_from, cutL_from1, cutL_to, cutL_to1, L2.ixN, emp_app, List.isEmpty_cons, List.isEmpty_nil, Bool.and_false, lt_line, le_line, srcV, rngV1, forS, fSl, dMerge, dPut, dHas, dGet, ft_burns, ft_home, ft_mode, ft_moves, ft_now, ft_other, ft_place,cs_told, ret_told]
theorem to_eq {m w : List Nat} {t : Int} (h : d.rows.length < 300) : g_Mode_change_to [.ref 1, .str m, .str w, .int t] (st D d e) = .ok .non (st D (d.to m w t) e) := by
  have : d.rows.length < lineN := lt_line (by omega)
  simp [g_Mode_change_to, b_Mode_change_to, st_1, st_2, st_s1, st_s2, this, Md.to, ↓p_bind, ↓p_st, ↓p_seq, ↓p_if, ↓p_ifE, ↓p_and, ↓p_or, ↓p_not, ↓p_bool, ↓p_ofB, ↓p_C, ↓p_var, ↓p_op2, ↓p_op1, ↓p_nil, ↓p_cons, ↓p_app, ↓p_call, ↓p_tup, ↓p_lst, ↓p_lstR, ↓p_fld, ↓p_meth, ↓p_make, ↓p_tru, ↓p_orV, ↓p_andV, ↓p_bm, ↓p_told, ↓p_set, ↓p_exp, ↓p_ret, ↓p_retN, ↓p_skip, ↓p_raise, ↓p_brk, ↓p_cnt, ↓p_body, ↓p_asg, ↓p_par, ↓p_setFld, ↓p_setSub, ↓p_augVar, ↓p_chain, ↓p_fmt, ↓p_js0, ↓p_js1, ↓p_iv, ↓p_ia, ↓p_for, ↓p_noP, ↓p_pt, ↓p_sl, ↓p_pairs0, ↓p_pairs1, ↓p_dct, ↓p_dctR, ↓p_dctR0, ↓p_yes, ↓p_lc, ↓p_gtup, ↓p_gsum, ↓p_gsorted, ↓p_gmin, ↓p_gmax, ↓p_gany, ↓p_gall, ↓p_lcT, ↓p_byT, wipeT, rngV2, fList, fCount, fIndex, okT, tru, fEqG, drF_s, drF_non, drF_bl, drF_int, drF_str, fEqP, deR, dp, teq_ss, teq_ii, teq_bb, teq_nn, teq_sn, teq_ns, teq_in, teq_ni, teq_bn, teq_nb, teq_si, teq_is, teq_sb, teq_bs, teq_ll, teq_tt, teq_ln, teq_tn, teqL_nn, teqL_cc, teqL_e, teqL_e2, fAdd, fSub, fMul, fDiv, fMod, fPow, fNeg, fLt, fLe, fGt, fGe, fIs, fIsN, isNon, smallI, putFld, rdFld, fIAdd, fPut, fIx, fTix, fstIx, fAbs, fMax2, fMin2, fMax3, fMin3, fInt, fLen, fStr, isDR, isLR, isLs, fAppend, fUpd, dcOf, isRef, lsW, lsOf, kEq, isKey, okD, stL, gTp, gC, gN, gZ, fInG, atI_lit, atI_0, atI_1, atI_m1, cutL_from, cutL_from1, cutL_to, cutL_to1, L2.ixN, emp_app, List.isEmpty_cons, List.isEmpty_nil, Bool.and_false, lt_line, le_line, srcV, rngV1, forS, fSl, dMerge, dPut, dHas, dGet, ft_burns, ft_home, ft_mode, ft_moves, ft_now, ft_other, ft_place,cs_told, ret_told]
theorem lto_eq {m w : List Nat} {t : Int} (h : e.rows.length < 300) : g_law_to [.ref 3, .str m, .str w, .int t] (st D d e) = .ok .non (st D d { e with mode := m, rows := e.rows ++ [.tup [.int t, .str m, .str w]] }) := by
  have : e.rows.length + 1 ≤ lineN := le_line (by omega)
  simp [g_law_to, b_law_to, st_3, st_s3, this, ↓p_bind, ↓p_st, ↓p_seq, ↓p_if, ↓p_ifE, ↓p_and, ↓p_or, ↓p_not, ↓p_bool, ↓p_ofB, ↓p_C, ↓p_var, ↓p_op2, ↓p_op1, ↓p_nil, ↓p_cons, ↓p_app, ↓p_call, ↓p_tup, ↓p_lst, ↓p_lstR, ↓p_fld, ↓p_meth, ↓p_make, ↓p_tru, ↓p_orV, ↓p_andV, ↓p_bm, ↓p_told, ↓p_set, ↓p_exp, ↓p_ret, ↓p_retN, ↓p_skip, ↓p_raise, ↓p_brk, ↓p_cnt, ↓p_body, ↓p_asg, ↓p_par, ↓p_setFld, ↓p_setSub, ↓p_augVar, ↓p_chain, ↓p_fmt, ↓p_js0, ↓p_js1, ↓p_iv, ↓p_ia, ↓p_for, ↓p_noP, ↓p_pt, ↓p_sl, ↓p_pairs0, ↓p_pairs1, ↓p_dct, ↓p_dctR, ↓p_dctR0, ↓p_yes, ↓p_lc, ↓p_gtup, ↓p_gsum, ↓p_gsorted, ↓p_gmin, ↓p_gmax, ↓p_gany, ↓p_gall, ↓p_lcT, ↓p_byT, wipeT, rngV2, fList, fCount, fIndex, okT, tru, fEqG, drF_s, drF_non, drF_bl, drF_int, drF_str, fEqP, deR, dp, teq_ss, teq_ii, teq_bb, teq_nn, teq_sn, teq_ns, teq_in, teq_ni, teq_bn, teq_nb, teq_si, teq_is, teq_sb, teq_bs, teq_ll, teq_tt, teq_ln, teq_tn, teqL_nn, teqL_cc, teqL_e, teqL_e2, fAdd, fSub, fMul, fDiv, fMod, fPow, fNeg, fLt, fLe, fGt, fGe, fIs, fIsN, isNon, smallI, putFld, rdFld, fIAdd, fPut, fIx, fTix, fstIx, fAbs, fMax2, fMin2, fMax3, fMin3, fInt, fLen, fStr, isDR, isLR, isLs, fAppend, fUpd, dcOf, isRef, lsW, lsOf, kEq, isKey, okD, stL, gTp, gC, gN, gZ, fInG, atI_lit, atI_0, atI_1, atI_m1, cutL_from, cutL_from1, cutL_to, cutL_to1, L2.ixN, emp_app, List.isEmpty_cons, List.isEmpty_nil, Bool.and_false, lt_line, le_line, srcV, rngV1, forS, fSl, dMerge, dPut, dHas, dGet, ft_burns, ft_home, ft_mode, ft_moves, ft_now, ft_other, ft_place,cs_told, ret_told]
theorem goal_eq (h : okDec d.home = true) : g_Mode_goal_now [.ref 1] (st D d e) = .ok d.goal (st D d e) := by
  by_cases h1 : d.mode = [114, 101, 99, 97, 108, 108] <;> by_cases h2 : d.burns = decT d.home <;> simp [g_Mode_goal_now, b_Mode_goal_now, st_1, h1, h2, h, Md.goal, ↓p_bind, ↓p_st, ↓p_seq, ↓p_if, ↓p_ifE, ↓p_and, ↓p_or, ↓p_not, ↓p_bool, ↓p_ofB, ↓p_C, ↓p_var, ↓p_op2, ↓p_op1, ↓p_nil, ↓p_cons, ↓p_app, ↓p_call, ↓p_tup, ↓p_lst, ↓p_lstR, ↓p_fld, ↓p_meth, ↓p_make, ↓p_tru, ↓p_orV, ↓p_andV, ↓p_bm, ↓p_told, ↓p_set, ↓p_exp, ↓p_ret, ↓p_retN, ↓p_skip, ↓p_raise, ↓p_brk, ↓p_cnt, ↓p_body, ↓p_asg, ↓p_par, ↓p_setFld, ↓p_setSub, ↓p_augVar, ↓p_chain, ↓p_fmt, ↓p_js0, ↓p_js1, ↓p_iv, ↓p_ia, ↓p_for, ↓p_noP, ↓p_pt, ↓p_sl, ↓p_pairs0, ↓p_pairs1, ↓p_dct, ↓p_dctR, ↓p_dctR0, ↓p_yes, ↓p_lc, ↓p_gtup, ↓p_gsum, ↓p_gsorted, ↓p_gmin, ↓p_gmax, ↓p_gany, ↓p_gall, ↓p_lcT, ↓p_byT, wipeT, rngV2, fList, fCount, fIndex, okT, tru, fEqG, drF_s, drF_non, drF_bl, drF_int, drF_str, fEqP, deR, dp, teq_ss, teq_ii, teq_bb, teq_nn, teq_sn, teq_ns, teq_in, teq_ni, teq_bn, teq_nb, teq_si, teq_is, teq_sb, teq_bs, teq_ll, teq_tt, teq_ln, teq_tn, teqL_nn, teqL_cc, teqL_e, teqL_e2, fAdd, fSub, fMul, fDiv, fMod, fPow, fNeg, fLt, fLe, fGt, fGe, fIs, fIsN, isNon, smallI, putFld, rdFld, fIAdd, fPut, fIx, fTix, fstIx, fAbs, fMax2, fMin2, fMax3, fMin3, fInt, fLen, fStr, isDR, isLR, isLs, fAppend, fUpd, dcOf, isRef, lsW, lsOf, kEq, isKey, okD, stL, gTp, gC, gN, gZ, fInG, atI_lit, atI_0, atI_1, atI_m1, cutL_from, cutL_from1, cutL_to, cutL_to1, L2.ixN, emp_app, List.isEmpty_cons, List.isEmpty_nil, Bool.and_false, lt_line, le_line, srcV, rngV1, forS, fSl, dMerge, dPut, dHas, dGet, ft_burns, ft_home, ft_mode, ft_moves, ft_now, ft_other, ft_place,cs_told, ret_told]
theorem lgoal_eq (h : okDec e.home = true) : g_law_goal [.ref 3] (st D d e) = .ok e.goal (st D d e) := by
  by_cases h1 : e.mode = [114, 101, 99, 97, 108, 108] <;> by_cases h2 : e.burns = decT e.home <;> simp [g_law_goal, b_law_goal, st_3, h1, h2, h, Md.goal, ↓p_bind, ↓p_st, ↓p_seq, ↓p_if, ↓p_ifE, ↓p_and, ↓p_or, ↓p_not, ↓p_bool, ↓p_ofB, ↓p_C, ↓p_var, ↓p_op2, ↓p_op1, ↓p_nil, ↓p_cons, ↓p_app, ↓p_call, ↓p_tup, ↓p_lst, ↓p_lstR, ↓p_fld, ↓p_meth, ↓p_make, ↓p_tru, ↓p_orV, ↓p_andV, ↓p_bm, ↓p_told, ↓p_set, ↓p_exp, ↓p_ret, ↓p_retN, ↓p_skip, ↓p_raise, ↓p_brk, ↓p_cnt, ↓p_body, ↓p_asg, ↓p_par, ↓p_setFld, ↓p_setSub, ↓p_augVar, ↓p_chain, ↓p_fmt, ↓p_js0, ↓p_js1, ↓p_iv, ↓p_ia, ↓p_for, ↓p_noP, ↓p_pt, ↓p_sl, ↓p_pairs0, ↓p_pairs1, ↓p_dct, ↓p_dctR, ↓p_dctR0, ↓p_yes, ↓p_lc, ↓p_gtup, ↓p_gsum, ↓p_gsorted, ↓p_gmin, ↓p_gmax, ↓p_gany, ↓p_gall, ↓p_lcT, ↓p_byT, wipeT, rngV2, fList, fCount, fIndex, okT, tru, fEqG, drF_s, drF_non, drF_bl, drF_int, drF_str, fEqP, deR, dp, teq_ss, teq_ii, teq_bb, teq_nn, teq_sn, teq_ns, teq_in, teq_ni, teq_bn, teq_nb, teq_si, teq_is, teq_sb, teq_bs, teq_ll, teq_tt, teq_ln, teq_tn, teqL_nn, teqL_cc, teqL_e, teqL_e2, fAdd, fSub, fMul, fDiv, fMod, fPow, fNeg, fLt, fLe, fGt, fGe, fIs, fIsN, isNon, smallI, putFld, rdFld, fIAdd, fPut, fIx, fTix, fstIx, fAbs, fMax2, fMin2, fMax3, fMin3, fInt, fLen, fStr, isDR, isLR, isLs, fAppend, fUpd, dcOf, isRef, lsW, lsOf, kEq, isKey, okD, stL, gTp, gC, gN, gZ, fInG, atI_lit, atI_0, atI_1, atI_m1, cutL_from, cutL_from1, cutL_to, cutL_to1, L2.ixN, emp_app, List.isEmpty_cons, List.isEmpty_nil, Bool.and_false, lt_line, le_line, srcV, rngV1, forS, fSl, dMerge, dPut, dHas, dGet, ft_burns, ft_home, ft_mode, ft_moves, ft_now, ft_other, ft_place,cs_told, ret_told]
end
end Mi
namespace Mi
open PySem PySem.Spec PyProof.Rows
def Md.goalI (d : Md) : Int := if d.burns = decT d.home then d.other else d.home
theorem Md.goal_r {d : Md} (h : d.mode = [114, 101, 99, 97, 108, 108]) : d.goal = .int d.goalI := by simp [Md.goal, Md.goalI, h]
/-- what a deed comes to -/
def deedF (s p t k : Int) (d : Md) : Option Md :=
  if t < d.now then none else
  if s < 3 then (if 0 ≤ p ∧ d.burns = [] then some (if d.mode = [110, 111, 114, 109, 97, 108] ∨ d.mode = [111, 119, 110] then { d with burns := decT p }.to [114, 101, 99, 97, 108, 108] ([102, 105, 114, 101, 32, 97, 116, 32] ++ decT p) t else { d with burns := decT p, now := t }) else none)
  else if s < 7 then (if 0 ≤ p ∧ ¬ (d.mode = [111, 117, 116] ∨ d.mode = [99, 97, 114, 101]) then some { d with place := p, now := t } else none)
  else if s < 10 then (if d.mode = [114, 101, 99, 97, 108, 108] ∧ d.place = d.goalI then some (d.to [102, 105, 114, 101] [107, 101, 121] t) else if d.mode = [102, 105, 114, 101] ∧ (d.home = d.place ∨ d.other = d.place) then some (d.to [114, 101, 99, 97, 108, 108] [107, 101, 121] t) else none)
  else if s < 12 then (if d.burns ≠ [] ∧ d.mode ≠ [102, 105, 114, 101] then some (if d.mode = [114, 101, 99, 97, 108, 108] then { d with burns := [] }.to [110, 111, 114, 109, 97, 108] [99, 108, 101, 97, 114] t else { d with burns := [], now := t }) else none)
  else if s = 12 then (if d.mode = [110, 111, 114, 109, 97, 108] then some (d.to [111, 119, 110] [107, 101, 121] t) else none)
  else if s < 15 then (if d.mode = [111, 119, 110] ∨ d.mode = [99, 97, 114, 101] then some (d.to (if d.burns = [] then [110, 111, 114, 109, 97, 108] else [114, 101, 99, 97, 108, 108]) [98, 97, 99, 107] t) else none)
  else if s < 17 then (if d.mode = [110, 111, 114, 109, 97, 108] ∨ d.mode = [111, 119, 110] ∨ d.mode = [111, 117, 116] then some (d.to [99, 97, 114, 101] [99, 97, 114, 101] t) else none)
  else (if k < 3 ∧ d.mode ≠ [111, 117, 116] then some (d.to [111, 117, 116] [98, 101, 108, 116] t) else none)
/-- the modes -/
def okM (m : List Nat) : Prop := m = [110, 111, 114, 109, 97, 108] ∨ m = [111, 119, 110] ∨ m = [114, 101, 99, 97, 108, 108] ∨ m = [102, 105, 114, 101] ∨ m = [99, 97, 114, 101] ∨ m = [111, 117, 116]
section
variable {D : Di} {d e : Md} {p t : Int} (hL : d.rows.length < 299)
include hL
theorem chk_x (h0 : t < d.now) : g_Mode_check_second [.ref 1, .int t] (st D d e) = .ex 1 (st D d e) := by rw [chk_eq, if_pos (.inl h0)]
theorem chk_k (h0 : ¬ t < d.now) : g_Mode_check_second [.ref 1, .int t] (st D d e) = .ok .non (st D d e) := by rw [chk_eq, if_neg (by omega)]
theorem alarm_eq (hM : okM d.mode) (hp : p < 100) : g_Mode_put_alarm [.ref 1, .int p, .int t] (st D d e) = match deedF 0 p t 0 d with | some d' => .ok .non (st D d' e) | none => .ex 1 (st D d e) := by
  by_cases h0 : t < d.now
  · simp [g_Mode_put_alarm, b_Mode_put_alarm, deedF, chk_x hL h0, h0, st_1, ↓p_bind, ↓p_st, ↓p_seq, ↓p_if, ↓p_ifE, ↓p_and, ↓p_or, ↓p_not, ↓p_bool, ↓p_ofB, ↓p_C, ↓p_var, ↓p_op2, ↓p_op1, ↓p_nil, ↓p_cons, ↓p_app, ↓p_call, ↓p_tup, ↓p_lst, ↓p_lstR, ↓p_fld, ↓p_meth, ↓p_make, ↓p_tru, ↓p_orV, ↓p_andV, ↓p_bm, ↓p_told, ↓p_set, ↓p_exp, ↓p_ret, ↓p_retN, ↓p_skip, ↓p_raise, ↓p_brk, ↓p_cnt, ↓p_body, ↓p_asg, ↓p_par, ↓p_setFld, ↓p_setSub, ↓p_augVar, ↓p_chain, ↓p_fmt, ↓p_js0, ↓p_js1, ↓p_iv, ↓p_ia, ↓p_for, ↓p_noP, ↓p_pt, ↓p_sl, ↓p_pairs0, ↓p_pairs1, ↓p_dct, ↓p_dctR, ↓p_dctR0, ↓p_yes, ↓p_lc, ↓p_gtup, ↓p_gsum, ↓p_gsorted, ↓p_gmin, ↓p_gmax, ↓p_gany, ↓p_gall, ↓p_lcT, ↓p_byT, wipeT, rngV2, fList, fCount, fIndex, okT, tru, fEqG, drF_s, drF_non, drF_bl, drF_int, drF_str, fEqP, deR, dp, teq_ss, teq_ii, teq_bb, teq_nn, teq_sn, teq_ns, teq_in, teq_ni, teq_bn, teq_nb, teq_si, teq_is, teq_sb, teq_bs, teq_ll, teq_tt, teq_ln, teq_tn, teqL_nn, teqL_cc, teqL_e, teqL_e2, fAdd, fSub, fMul, fDiv, fMod, fPow, fNeg, fLt, fLe, fGt, fGe, fIs, fIsN, isNon, smallI, putFld, rdFld, fIAdd, fPut, fIx, fTix, fstIx, fAbs, fMax2, fMin2, fMax3, fMin3, fInt, fLen, fStr, isDR, isLR, isLs, fAppend, fUpd, dcOf, isRef, lsW, lsOf, kEq, isKey, okD, stL, gTp, gC, gN, gZ, fInG, atI_lit, atI_0, atI_1, atI_m1, cutL_from, cutL_from1, cutL_to, cutL_to1, L2.ixN, emp_app, List.isEmpty_cons, List.isEmpty_nil, Bool.and_false, lt_line, le_line, srcV, rngV1, forS, fSl, dMerge, dPut, dHas, dGet, ft_burns, ft_home, ft_mode, ft_moves, ft_now, ft_other, ft_place,cs_told, ret_told]
  · have ck := chk_k (D := D) (e := e) hL h0
    by_cases h1 : p < 0
    · have h2 : ¬ 0 ≤ p := by omega
      simp [g_Mode_put_alarm, b_Mode_put_alarm, deedF, ck, h0, h1, h2, st_1, ↓p_bind, ↓p_st, ↓p_seq, ↓p_if, ↓p_ifE, ↓p_and, ↓p_or, ↓p_not, ↓p_bool, ↓p_ofB, ↓p_C, ↓p_var, ↓p_op2, ↓p_op1, ↓p_nil, ↓p_cons, ↓p_app, ↓p_call, ↓p_tup, ↓p_lst, ↓p_lstR, ↓p_fld, ↓p_meth, ↓p_make, ↓p_tru, ↓p_orV, ↓p_andV, ↓p_bm, ↓p_told, ↓p_set, ↓p_exp, ↓p_ret, ↓p_retN, ↓p_skip, ↓p_raise, ↓p_brk, ↓p_cnt, ↓p_body, ↓p_asg, ↓p_par, ↓p_setFld, ↓p_setSub, ↓p_augVar, ↓p_chain, ↓p_fmt, ↓p_js0, ↓p_js1, ↓p_iv, ↓p_ia, ↓p_for, ↓p_noP, ↓p_pt, ↓p_sl, ↓p_pairs0, ↓p_pairs1, ↓p_dct, ↓p_dctR, ↓p_dctR0, ↓p_yes, ↓p_lc, ↓p_gtup, ↓p_gsum, ↓p_gsorted, ↓p_gmin, ↓p_gmax, ↓p_gany, ↓p_gall, ↓p_lcT, ↓p_byT, wipeT, rngV2, fList, fCount, fIndex, okT, tru, fEqG, drF_s, drF_non, drF_bl, drF_int, drF_str, fEqP, deR, dp, teq_ss, teq_ii, teq_bb, teq_nn, teq_sn, teq_ns, teq_in, teq_ni, teq_bn, teq_nb, teq_si, teq_is, teq_sb, teq_bs, teq_ll, teq_tt, teq_ln, teq_tn, teqL_nn, teqL_cc, teqL_e, teqL_e2, fAdd, fSub, fMul, fDiv, fMod, fPow, fNeg, fLt, fLe, fGt, fGe, fIs, fIsN, isNon, smallI, putFld, rdFld, fIAdd, fPut, fIx, fTix, fstIx, fAbs, fMax2, fMin2, fMax3, fMin3, fInt, fLen, fStr, isDR, isLR, isLs, fAppend, fUpd, dcOf, isRef, lsW, lsOf, kEq, isKey, okD, stL, gTp, gC, gN, gZ, fInG, atI_lit, atI_0, atI_1, atI_m1, cutL_from, cutL_from1, cutL_to, cutL_to1, L2.ixN, emp_app, List.isEmpty_cons, List.isEmpty_nil, Bool.and_false, lt_line, le_line, srcV, rngV1, forS, fSl, dMerge, dPut, dHas, dGet, ft_burns, ft_home, ft_mode, ft_moves, ft_now, ft_other, ft_place,cs_told, ret_told]
    · have h2 : 0 ≤ p := by omega
      have hd := okDec_of h2 (by omega)
      have hl : 8 + (decT p).length ≤ lineN := le_line (by have := decT_len h2 (by omega); omega)
      by_cases h3 : d.burns = []
      · have hL2 : d.rows.length < 300 := by omega
        rcases hM with h4 | h4 | h4 | h4 | h4 | h4 <;> simp [g_Mode_put_alarm, b_Mode_put_alarm, deedF, ck, h0, h1, h2, h3, h4, hd, hl, st_1, st_s1, to_eq, hL2, Md.to, ↓p_bind, ↓p_st, ↓p_seq, ↓p_if, ↓p_ifE, ↓p_and, ↓p_or, ↓p_not, ↓p_bool, ↓p_ofB, ↓p_C, ↓p_var, ↓p_op2, ↓p_op1, ↓p_nil, ↓p_cons, ↓p_app, ↓p_call, ↓p_tup, ↓p_lst, ↓p_lstR, ↓p_fld, ↓p_meth, ↓p_make, ↓p_tru, ↓p_orV, ↓p_andV, ↓p_bm, ↓p_told, ↓p_set, ↓p_exp, ↓p_ret, ↓p_retN, ↓p_skip, ↓p_raise, ↓p_brk, ↓p_cnt, ↓p_body, ↓p_asg, ↓p_par, ↓p_setFld, ↓p_setSub, ↓p_augVar, ↓p_chain, ↓p_fmt, ↓p_js0, ↓p_js1, ↓p_iv, ↓p_ia, ↓p_for, ↓p_noP, ↓p_pt, ↓p_sl, ↓p_pairs0, ↓p_pairs1, ↓p_dct, ↓p_dctR, ↓p_dctR0, ↓p_yes, ↓p_lc, ↓p_gtup, ↓p_gsum, ↓p_gsorted, ↓p_gmin, ↓p_gmax, ↓p_gany, ↓p_gall, ↓p_lcT, ↓p_byT, wipeT, rngV2, fList, fCount, fIndex, okT, tru, fEqG, drF_s, drF_non, drF_bl, drF_int, drF_str, fEqP, deR, dp, teq_ss, teq_ii, teq_bb, teq_nn, teq_sn, teq_ns, teq_in, teq_ni, teq_bn, teq_nb, teq_si, teq_is, teq_sb, teq_bs, teq_ll, teq_tt, teq_ln, teq_tn, teqL_nn, teqL_cc, teqL_e, teqL_e2, fAdd, fSub, fMul, fDiv, fMod, fPow, fNeg, fLt, fLe, fGt, fGe, fIs, fIsN, isNon, smallI, putFld, rdFld, fIAdd, fPut, fIx, fTix, fstIx, fAbs, fMax2, fMin2, fMax3, fMin3, fInt, fLen, fStr, isDR, isLR, isLs, fAppend, fUpd, dcOf, isRef, lsW, lsOf, kEq, isKey, okD, stL, gTp, gC, gN, gZ, fInG, atI_lit, atI_0, atI_1, atI_m1, cutL_from, cutL_from1, cutL_to, cutL_to1, L2.ixN, emp_app, List.isEmpty_cons, List.isEmpty_nil, Bool.and_false, lt_line, le_line, srcV, rngV1, forS, fSl, dMerge, dPut, dHas, dGet, ft_burns, ft_home, ft_mode, ft_moves, ft_now, ft_other, ft_place,cs_told, ret_told]
      · simp [g_Mode_put_alarm, b_Mode_put_alarm, deedF, ck, h0, h1, h2, h3, st_1, ↓p_bind, ↓p_st, ↓p_seq, ↓p_if, ↓p_ifE, ↓p_and, ↓p_or, ↓p_not, ↓p_bool, ↓p_ofB, ↓p_C, ↓p_var, ↓p_op2, ↓p_op1, ↓p_nil, ↓p_cons, ↓p_app, ↓p_call, ↓p_tup, ↓p_lst, ↓p_lstR, ↓p_fld, ↓p_meth, ↓p_make, ↓p_tru, ↓p_orV, ↓p_andV, ↓p_bm, ↓p_told, ↓p_set, ↓p_exp, ↓p_ret, ↓p_retN, ↓p_skip, ↓p_raise, ↓p_brk, ↓p_cnt, ↓p_body, ↓p_asg, ↓p_par, ↓p_setFld, ↓p_setSub, ↓p_augVar, ↓p_chain, ↓p_fmt, ↓p_js0, ↓p_js1, ↓p_iv, ↓p_ia, ↓p_for, ↓p_noP, ↓p_pt, ↓p_sl, ↓p_pairs0, ↓p_pairs1, ↓p_dct, ↓p_dctR, ↓p_dctR0, ↓p_yes, ↓p_lc, ↓p_gtup, ↓p_gsum, ↓p_gsorted, ↓p_gmin, ↓p_gmax, ↓p_gany, ↓p_gall, ↓p_lcT, ↓p_byT, wipeT, rngV2, fList, fCount, fIndex, okT, tru, fEqG, drF_s, drF_non, drF_bl, drF_int, drF_str, fEqP, deR, dp, teq_ss, teq_ii, teq_bb, teq_nn, teq_sn, teq_ns, teq_in, teq_ni, teq_bn, teq_nb, teq_si, teq_is, teq_sb, teq_bs, teq_ll, teq_tt, teq_ln, teq_tn, teqL_nn, teqL_cc, teqL_e, teqL_e2, fAdd, fSub, fMul, fDiv, fMod, fPow, fNeg, fLt, fLe, fGt, fGe, fIs, fIsN, isNon, smallI, putFld, rdFld, fIAdd, fPut, fIx, fTix, fstIx, fAbs, fMax2, fMin2, fMax3, fMin3, fInt, fLen, fStr, isDR, isLR, isLs, fAppend, fUpd, dcOf, isRef, lsW, lsOf, kEq, isKey, okD, stL, gTp, gC, gN, gZ, fInG, atI_lit, atI_0, atI_1, atI_m1, cutL_from, cutL_from1, cutL_to, cutL_to1, L2.ixN, emp_app, List.isEmpty_cons, List.isEmpty_nil, Bool.and_false, lt_line, le_line, srcV, rngV1, forS, fSl, dMerge, dPut, dHas, dGet, ft_burns, ft_home, ft_mode, ft_moves, ft_now, ft_other, ft_place,cs_told, ret_told]
theorem arrive_eq (hM : okM d.mode) : g_Mode_arrive_at [.ref 1, .int p, .int t] (st D d e) = match deedF 3 p t 0 d with | some d' => .ok .non (st D d' e) | none => .ex 1 (st D d e) := by
  by_cases h0 : t < d.now
  · simp [g_Mode_arrive_at, b_Mode_arrive_at, deedF, chk_x hL h0, h0, st_1, ↓p_bind, ↓p_st, ↓p_seq, ↓p_if, ↓p_ifE, ↓p_and, ↓p_or, ↓p_not, ↓p_bool, ↓p_ofB, ↓p_C, ↓p_var, ↓p_op2, ↓p_op1, ↓p_nil, ↓p_cons, ↓p_app, ↓p_call, ↓p_tup, ↓p_lst, ↓p_lstR, ↓p_fld, ↓p_meth, ↓p_make, ↓p_tru, ↓p_orV, ↓p_andV, ↓p_bm, ↓p_told, ↓p_set, ↓p_exp, ↓p_ret, ↓p_retN, ↓p_skip, ↓p_raise, ↓p_brk, ↓p_cnt, ↓p_body, ↓p_asg, ↓p_par, ↓p_setFld, ↓p_setSub, ↓p_augVar, ↓p_chain, ↓p_fmt, ↓p_js0, ↓p_js1, ↓p_iv, ↓p_ia, ↓p_for, ↓p_noP, ↓p_pt, ↓p_sl, ↓p_pairs0, ↓p_pairs1, ↓p_dct, ↓p_dctR, ↓p_dctR0, ↓p_yes, ↓p_lc, ↓p_gtup, ↓p_gsum, ↓p_gsorted, ↓p_gmin, ↓p_gmax, ↓p_gany, ↓p_gall, ↓p_lcT, ↓p_byT, wipeT, rngV2, fList, fCount, fIndex, okT, tru, fEqG, drF_s, drF_non, drF_bl, drF_int, drF_str, fEqP, deR, dp, teq_ss, teq_ii, teq_bb, teq_nn, teq_sn, teq_ns, teq_in, teq_ni, teq_bn, teq_nb, teq_si, teq_is, teq_sb, teq_bs, teq_ll, teq_tt, teq_ln, teq_tn, teqL_nn, teqL_cc, teqL_e, teqL_e2, fAdd, fSub, fMul, fDiv, fMod, fPow, fNeg, fLt, fLe, fGt, fGe, fIs, fIsN, isNon, smallI, putFld, rdFld, fIAdd, fPut, fIx, fTix, fstIx, fAbs, fMax2, fMin2, fMax3, fMin3, fInt, fLen, fStr, isDR, isLR, isLs, fAppend, fUpd, dcOf, isRef, lsW, lsOf, kEq, isKey, okD, stL, gTp, gC, gN, gZ, fInG, atI_lit, atI_0, atI_1, atI_m1, cutL_from, cutL_from1, cutL_to, cutL_to1, L2.ixN, emp_app, List.isEmpty_cons, List.isEmpty_nil, Bool.and_false, lt_line, le_line, srcV, rngV1, forS, fSl, dMerge, dPut, dHas, dGet, ft_burns, ft_home, ft_mode, ft_moves, ft_now, ft_other, ft_place,cs_told, ret_told]
  · have ck := chk_k (D := D) (e := e) hL h0
    by_cases h1 : p < 0
    · have h2 : ¬ 0 ≤ p := by omega
      simp [g_Mode_arrive_at, b_Mode_arrive_at, deedF, ck, h0, h1, h2, st_1, ↓p_bind, ↓p_st, ↓p_seq, ↓p_if, ↓p_ifE, ↓p_and, ↓p_or, ↓p_not, ↓p_bool, ↓p_ofB, ↓p_C, ↓p_var, ↓p_op2, ↓p_op1, ↓p_nil, ↓p_cons, ↓p_app, ↓p_call, ↓p_tup, ↓p_lst, ↓p_lstR, ↓p_fld, ↓p_meth, ↓p_make, ↓p_tru, ↓p_orV, ↓p_andV, ↓p_bm, ↓p_told, ↓p_set, ↓p_exp, ↓p_ret, ↓p_retN, ↓p_skip, ↓p_raise, ↓p_brk, ↓p_cnt, ↓p_body, ↓p_asg, ↓p_par, ↓p_setFld, ↓p_setSub, ↓p_augVar, ↓p_chain, ↓p_fmt, ↓p_js0, ↓p_js1, ↓p_iv, ↓p_ia, ↓p_for, ↓p_noP, ↓p_pt, ↓p_sl, ↓p_pairs0, ↓p_pairs1, ↓p_dct, ↓p_dctR, ↓p_dctR0, ↓p_yes, ↓p_lc, ↓p_gtup, ↓p_gsum, ↓p_gsorted, ↓p_gmin, ↓p_gmax, ↓p_gany, ↓p_gall, ↓p_lcT, ↓p_byT, wipeT, rngV2, fList, fCount, fIndex, okT, tru, fEqG, drF_s, drF_non, drF_bl, drF_int, drF_str, fEqP, deR, dp, teq_ss, teq_ii, teq_bb, teq_nn, teq_sn, teq_ns, teq_in, teq_ni, teq_bn, teq_nb, teq_si, teq_is, teq_sb, teq_bs, teq_ll, teq_tt, teq_ln, teq_tn, teqL_nn, teqL_cc, teqL_e, teqL_e2, fAdd, fSub, fMul, fDiv, fMod, fPow, fNeg, fLt, fLe, fGt, fGe, fIs, fIsN, isNon, smallI, putFld, rdFld, fIAdd, fPut, fIx, fTix, fstIx, fAbs, fMax2, fMin2, fMax3, fMin3, fInt, fLen, fStr, isDR, isLR, isLs, fAppend, fUpd, dcOf, isRef, lsW, lsOf, kEq, isKey, okD, stL, gTp, gC, gN, gZ, fInG, atI_lit, atI_0, atI_1, atI_m1, cutL_from, cutL_from1, cutL_to, cutL_to1, L2.ixN, emp_app, List.isEmpty_cons, List.isEmpty_nil, Bool.and_false, lt_line, le_line, srcV, rngV1, forS, fSl, dMerge, dPut, dHas, dGet, ft_burns, ft_home, ft_mode, ft_moves, ft_now, ft_other, ft_place,cs_told, ret_told]
    · have h2 : 0 ≤ p := by omega
      rcases hM with h4 | h4 | h4 | h4 | h4 | h4 <;> simp [g_Mode_arrive_at, b_Mode_arrive_at, deedF, ck, h0, h1, h2, h4, st_1, st_s1, ↓p_bind, ↓p_st, ↓p_seq, ↓p_if, ↓p_ifE, ↓p_and, ↓p_or, ↓p_not, ↓p_bool, ↓p_ofB, ↓p_C, ↓p_var, ↓p_op2, ↓p_op1, ↓p_nil, ↓p_cons, ↓p_app, ↓p_call, ↓p_tup, ↓p_lst, ↓p_lstR, ↓p_fld, ↓p_meth, ↓p_make, ↓p_tru, ↓p_orV, ↓p_andV, ↓p_bm, ↓p_told, ↓p_set, ↓p_exp, ↓p_ret, ↓p_retN, ↓p_skip, ↓p_raise, ↓p_brk, ↓p_cnt, ↓p_body, ↓p_asg, ↓p_par, ↓p_setFld, ↓p_setSub, ↓p_augVar, ↓p_chain, ↓p_fmt, ↓p_js0, ↓p_js1, ↓p_iv, ↓p_ia, ↓p_for, ↓p_noP, ↓p_pt, ↓p_sl, ↓p_pairs0, ↓p_pairs1, ↓p_dct, ↓p_dctR, ↓p_dctR0, ↓p_yes, ↓p_lc, ↓p_gtup, ↓p_gsum, ↓p_gsorted, ↓p_gmin, ↓p_gmax, ↓p_gany, ↓p_gall, ↓p_lcT, ↓p_byT, wipeT, rngV2, fList, fCount, fIndex, okT, tru, fEqG, drF_s, drF_non, drF_bl, drF_int, drF_str, fEqP, deR, dp, teq_ss, teq_ii, teq_bb, teq_nn, teq_sn, teq_ns, teq_in, teq_ni, teq_bn, teq_nb, teq_si, teq_is, teq_sb, teq_bs, teq_ll, teq_tt, teq_ln, teq_tn, teqL_nn, teqL_cc, teqL_e, teqL_e2, fAdd, fSub, fMul, fDiv, fMod, fPow, fNeg, fLt, fLe, fGt, fGe, fIs, fIsN, isNon, smallI, putFld, rdFld, fIAdd, fPut, fIx, fTix, fstIx, fAbs, fMax2, fMin2, fMax3, fMin3, fInt, fLen, fStr, isDR, isLR, isLs, fAppend, fUpd, dcOf, isRef, lsW, lsOf, kEq, isKey, okD, stL, gTp, gC, gN, gZ, fInG, atI_lit, atI_0, atI_1, atI_m1, cutL_from, cutL_from1, cutL_to, cutL_to1, L2.ixN, emp_app, List.isEmpty_cons, List.isEmpty_nil, Bool.and_false, lt_line, le_line, srcV, rngV1, forS, fSl, dMerge, dPut, dHas, dGet, ft_burns, ft_home, ft_mode, ft_moves, ft_now, ft_other, ft_place,cs_told, ret_told]
theorem key_eq (hM : okM d.mode) (hh : okDec d.home = true) : g_Mode_turn_key [.ref 1, .int t] (st D d e) = match deedF 7 p t 0 d with | some d' => .ok .non (st D d' e) | none => .ex 1 (st D d e) := by
  by_cases h0 : t < d.now
  · simp [g_Mode_turn_key, b_Mode_turn_key, deedF, chk_x hL h0, h0, st_1, ↓p_bind, ↓p_st, ↓p_seq, ↓p_if, ↓p_ifE, ↓p_and, ↓p_or, ↓p_not, ↓p_bool, ↓p_ofB, ↓p_C, ↓p_var, ↓p_op2, ↓p_op1, ↓p_nil, ↓p_cons, ↓p_app, ↓p_call, ↓p_tup, ↓p_lst, ↓p_lstR, ↓p_fld, ↓p_meth, ↓p_make, ↓p_tru, ↓p_orV, ↓p_andV, ↓p_bm, ↓p_told, ↓p_set, ↓p_exp, ↓p_ret, ↓p_retN, ↓p_skip, ↓p_raise, ↓p_brk, ↓p_cnt, ↓p_body, ↓p_asg, ↓p_par, ↓p_setFld, ↓p_setSub, ↓p_augVar, ↓p_chain, ↓p_fmt, ↓p_js0, ↓p_js1, ↓p_iv, ↓p_ia, ↓p_for, ↓p_noP, ↓p_pt, ↓p_sl, ↓p_pairs0, ↓p_pairs1, ↓p_dct, ↓p_dctR, ↓p_dctR0, ↓p_yes, ↓p_lc, ↓p_gtup, ↓p_gsum, ↓p_gsorted, ↓p_gmin, ↓p_gmax, ↓p_gany, ↓p_gall, ↓p_lcT, ↓p_byT, wipeT, rngV2, fList, fCount, fIndex, okT, tru, fEqG, drF_s, drF_non, drF_bl, drF_int, drF_str, fEqP, deR, dp, teq_ss, teq_ii, teq_bb, teq_nn, teq_sn, teq_ns, teq_in, teq_ni, teq_bn, teq_nb, teq_si, teq_is, teq_sb, teq_bs, teq_ll, teq_tt, teq_ln, teq_tn, teqL_nn, teqL_cc, teqL_e, teqL_e2, fAdd, fSub, fMul, fDiv, fMod, fPow, fNeg, fLt, fLe, fGt, fGe, fIs, fIsN, isNon, smallI, putFld, rdFld, fIAdd, fPut, fIx, fTix, fstIx, fAbs, fMax2, fMin2, fMax3, fMin3, fInt, fLen, fStr, isDR, isLR, isLs, fAppend, fUpd, dcOf, isRef, lsW, lsOf, kEq, isKey, okD, stL, gTp, gC, gN, gZ, fInG, atI_lit, atI_0, atI_1, atI_m1, cutL_from, cutL_from1, cutL_to, cutL_to1, L2.ixN, emp_app, List.isEmpty_cons, List.isEmpty_nil, Bool.and_false, lt_line, le_line, srcV, rngV1, forS, fSl, dMerge, dPut, dHas, dGet, ft_burns, ft_home, ft_mode, ft_moves, ft_now, ft_other, ft_place,cs_told, ret_told]
  · have ck := chk_k (D := D) (e := e) hL h0
    have tq := fun m w => to_eq (D := D) (d := d) (e := e) (m := m) (w := w) (t := t) (by omega)
    have gq := goal_eq (D := D) (e := e) hh
    rcases hM with h4 | h4 | h4 | h4 | h4 | h4
    case inr.inr.inl =>
      rw [Md.goal_r h4] at gq
      by_cases h5 : d.place = d.goalI <;> simp [g_Mode_turn_key, b_Mode_turn_key, deedF, ck, gq, h0, h4, h5, tq, st_1, st_s1, ↓p_bind, ↓p_st, ↓p_seq, ↓p_if, ↓p_ifE, ↓p_and, ↓p_or, ↓p_not, ↓p_bool, ↓p_ofB, ↓p_C, ↓p_var, ↓p_op2, ↓p_op1, ↓p_nil, ↓p_cons, ↓p_app, ↓p_call, ↓p_tup, ↓p_lst, ↓p_lstR, ↓p_fld, ↓p_meth, ↓p_make, ↓p_tru, ↓p_orV, ↓p_andV, ↓p_bm, ↓p_told, ↓p_set, ↓p_exp, ↓p_ret, ↓p_retN, ↓p_skip, ↓p_raise, ↓p_brk, ↓p_cnt, ↓p_body, ↓p_asg, ↓p_par, ↓p_setFld, ↓p_setSub, ↓p_augVar, ↓p_chain, ↓p_fmt, ↓p_js0, ↓p_js1, ↓p_iv, ↓p_ia, ↓p_for, ↓p_noP, ↓p_pt, ↓p_sl, ↓p_pairs0, ↓p_pairs1, ↓p_dct, ↓p_dctR, ↓p_dctR0, ↓p_yes, ↓p_lc, ↓p_gtup, ↓p_gsum, ↓p_gsorted, ↓p_gmin, ↓p_gmax, ↓p_gany, ↓p_gall, ↓p_lcT, ↓p_byT, wipeT, rngV2, fList, fCount, fIndex, okT, tru, fEqG, drF_s, drF_non, drF_bl, drF_int, drF_str, fEqP, deR, dp, teq_ss, teq_ii, teq_bb, teq_nn, teq_sn, teq_ns, teq_in, teq_ni, teq_bn, teq_nb, teq_si, teq_is, teq_sb, teq_bs, teq_ll, teq_tt, teq_ln, teq_tn, teqL_nn, teqL_cc, teqL_e, teqL_e2, fAdd, fSub, fMul, fDiv, fMod, fPow, fNeg, fLt, fLe, fGt, fGe, fIs, fIsN, isNon, smallI, putFld, rdFld, fIAdd, fPut, fIx, fTix, fstIx, fAbs, fMax2, fMin2, fMax3, fMin3, fInt, fLen, fStr, isDR, isLR, isLs, fAppend, fUpd, dcOf, isRef, lsW, lsOf, kEq, isKey, okD, stL, gTp, gC, gN, gZ, fInG, atI_lit, atI_0, atI_1, atI_m1, cutL_from, cutL_from1, cutL_to, cutL_to1, L2.ixN, emp_app, List.isEmpty_cons, List.isEmpty_nil, Bool.and_false, lt_line, le_line, srcV, rngV1, forS, fSl, dMerge, dPut, dHas, dGet, ft_burns, ft_home, ft_mode, ft_moves, ft_now, ft_other, ft_place,cs_told, ret_told]
    case inr.inr.inr.inl =>
      by_cases h5 : d.home = d.place
      · simp [g_Mode_turn_key, b_Mode_turn_key, deedF, ck, gq, h0, h4, h5, tq, st_1, st_s1, ↓p_bind, ↓p_st, ↓p_seq, ↓p_if, ↓p_ifE, ↓p_and, ↓p_or, ↓p_not, ↓p_bool, ↓p_ofB, ↓p_C, ↓p_var, ↓p_op2, ↓p_op1, ↓p_nil, ↓p_cons, ↓p_app, ↓p_call, ↓p_tup, ↓p_lst, ↓p_lstR, ↓p_fld, ↓p_meth, ↓p_make, ↓p_tru, ↓p_orV, ↓p_andV, ↓p_bm, ↓p_told, ↓p_set, ↓p_exp, ↓p_ret, ↓p_retN, ↓p_skip, ↓p_raise, ↓p_brk, ↓p_cnt, ↓p_body, ↓p_asg, ↓p_par, ↓p_setFld, ↓p_setSub, ↓p_augVar, ↓p_chain, ↓p_fmt, ↓p_js0, ↓p_js1, ↓p_iv, ↓p_ia, ↓p_for, ↓p_noP, ↓p_pt, ↓p_sl, ↓p_pairs0, ↓p_pairs1, ↓p_dct, ↓p_dctR, ↓p_dctR0, ↓p_yes, ↓p_lc, ↓p_gtup, ↓p_gsum, ↓p_gsorted, ↓p_gmin, ↓p_gmax, ↓p_gany, ↓p_gall, ↓p_lcT, ↓p_byT, wipeT, rngV2, fList, fCount, fIndex, okT, tru, fEqG, drF_s, drF_non, drF_bl, drF_int, drF_str, fEqP, deR, dp, teq_ss, teq_ii, teq_bb, teq_nn, teq_sn, teq_ns, teq_in, teq_ni, teq_bn, teq_nb, teq_si, teq_is, teq_sb, teq_bs, teq_ll, teq_tt, teq_ln, teq_tn, teqL_nn, teqL_cc, teqL_e, teqL_e2, fAdd, fSub, fMul, fDiv, fMod, fPow, fNeg, fLt, fLe, fGt, fGe, fIs, fIsN, isNon, smallI, putFld, rdFld, fIAdd, fPut, fIx, fTix, fstIx, fAbs, fMax2, fMin2, fMax3, fMin3, fInt, fLen, fStr, isDR, isLR, isLs, fAppend, fUpd, dcOf, isRef, lsW, lsOf, kEq, isKey, okD, stL, gTp, gC, gN, gZ, fInG, atI_lit, atI_0, atI_1, atI_m1, cutL_from, cutL_from1, cutL_to, cutL_to1, L2.ixN, emp_app, List.isEmpty_cons, List.isEmpty_nil, Bool.and_false, lt_line, le_line, srcV, rngV1, forS, fSl, dMerge, dPut, dHas, dGet, ft_burns, ft_home, ft_mode, ft_moves, ft_now, ft_other, ft_place,cs_told, ret_told]
      · by_cases h7 : d.other = d.place <;> simp [g_Mode_turn_key, b_Mode_turn_key, deedF, ck, gq, h0, h4, h5, h7, tq, st_1, st_s1, ↓p_bind, ↓p_st, ↓p_seq, ↓p_if, ↓p_ifE, ↓p_and, ↓p_or, ↓p_not, ↓p_bool, ↓p_ofB, ↓p_C, ↓p_var, ↓p_op2, ↓p_op1, ↓p_nil, ↓p_cons, ↓p_app, ↓p_call, ↓p_tup, ↓p_lst, ↓p_lstR, ↓p_fld, ↓p_meth, ↓p_make, ↓p_tru, ↓p_orV, ↓p_andV, ↓p_bm, ↓p_told, ↓p_set, ↓p_exp, ↓p_ret, ↓p_retN, ↓p_skip, ↓p_raise, ↓p_brk, ↓p_cnt, ↓p_body, ↓p_asg, ↓p_par, ↓p_setFld, ↓p_setSub, ↓p_augVar, ↓p_chain, ↓p_fmt, ↓p_js0, ↓p_js1, ↓p_iv, ↓p_ia, ↓p_for, ↓p_noP, ↓p_pt, ↓p_sl, ↓p_pairs0, ↓p_pairs1, ↓p_dct, ↓p_dctR, ↓p_dctR0, ↓p_yes, ↓p_lc, ↓p_gtup, ↓p_gsum, ↓p_gsorted, ↓p_gmin, ↓p_gmax, ↓p_gany, ↓p_gall, ↓p_lcT, ↓p_byT, wipeT, rngV2, fList, fCount, fIndex, okT, tru, fEqG, drF_s, drF_non, drF_bl, drF_int, drF_str, fEqP, deR, dp, teq_ss, teq_ii, teq_bb, teq_nn, teq_sn, teq_ns, teq_in, teq_ni, teq_bn, teq_nb, teq_si, teq_is, teq_sb, teq_bs, teq_ll, teq_tt, teq_ln, teq_tn, teqL_nn, teqL_cc, teqL_e, teqL_e2, fAdd, fSub, fMul, fDiv, fMod, fPow, fNeg, fLt, fLe, fGt, fGe, fIs, fIsN, isNon, smallI, putFld, rdFld, fIAdd, fPut, fIx, fTix, fstIx, fAbs, fMax2, fMin2, fMax3, fMin3, fInt, fLen, fStr, isDR, isLR, isLs, fAppend, fUpd, dcOf, isRef, lsW, lsOf, kEq, isKey, okD, stL, gTp, gC, gN, gZ, fInG, atI_lit, atI_0, atI_1, atI_m1, cutL_from, cutL_from1, cutL_to, cutL_to1, L2.ixN, emp_app, List.isEmpty_cons, List.isEmpty_nil, Bool.and_false, lt_line, le_line, srcV, rngV1, forS, fSl, dMerge, dPut, dHas, dGet, ft_burns, ft_home, ft_mode, ft_moves, ft_now, ft_other, ft_place,cs_told, ret_told]
    all_goals simp [g_Mode_turn_key, b_Mode_turn_key, deedF, ck, gq, h0, h4, tq, st_1, st_s1, ↓p_bind, ↓p_st, ↓p_seq, ↓p_if, ↓p_ifE, ↓p_and, ↓p_or, ↓p_not, ↓p_bool, ↓p_ofB, ↓p_C, ↓p_var, ↓p_op2, ↓p_op1, ↓p_nil, ↓p_cons, ↓p_app, ↓p_call, ↓p_tup, ↓p_lst, ↓p_lstR, ↓p_fld, ↓p_meth, ↓p_make, ↓p_tru, ↓p_orV, ↓p_andV, ↓p_bm, ↓p_told, ↓p_set, ↓p_exp, ↓p_ret, ↓p_retN, ↓p_skip, ↓p_raise, ↓p_brk, ↓p_cnt, ↓p_body, ↓p_asg, ↓p_par, ↓p_setFld, ↓p_setSub, ↓p_augVar, ↓p_chain, ↓p_fmt, ↓p_js0, ↓p_js1, ↓p_iv, ↓p_ia, ↓p_for, ↓p_noP, ↓p_pt, ↓p_sl, ↓p_pairs0, ↓p_pairs1, ↓p_dct, ↓p_dctR, ↓p_dctR0, ↓p_yes, ↓p_lc, ↓p_gtup, ↓p_gsum, ↓p_gsorted, ↓p_gmin, ↓p_gmax, ↓p_gany, ↓p_gall, ↓p_lcT, ↓p_byT, wipeT, rngV2, fList, fCount, fIndex, okT, tru, fEqG, drF_s, drF_non, drF_bl, drF_int, drF_str, fEqP, deR, dp, teq_ss, teq_ii, teq_bb, teq_nn, teq_sn, teq_ns, teq_in, teq_ni, teq_bn, teq_nb, teq_si, teq_is, teq_sb, teq_bs, teq_ll, teq_tt, teq_ln, teq_tn, teqL_nn, teqL_cc, teqL_e, teqL_e2, fAdd, fSub, fMul, fDiv, fMod, fPow, fNeg, fLt, fLe, fGt, fGe, fIs, fIsN, isNon, smallI, putFld, rdFld, fIAdd, fPut, fIx, fTix, fstIx, fAbs, fMax2, fMin2, fMax3, fMin3, fInt, fLen, fStr, isDR, isLR, isLs, fAppend, fUpd, dcOf, isRef, lsW, lsOf, kEq, isKey, okD, stL, gTp, gC, gN, gZ, fInG, atI_lit, atI_0, atI_1, atI_m1, cutL_from, cutL_from1, cutL_to, cutL_to1, L2.ixN, emp_app, List.isEmpty_cons, List.isEmpty_nil, Bool.and_false, lt_line, le_line, srcV, rngV1, forS, fSl, dMerge, dPut, dHas, dGet, ft_burns, ft_home, ft_mode, ft_moves, ft_now, ft_other, ft_place,cs_told, ret_told]
theorem clear_eq (hM : okM d.mode) : g_Mode_all_clear [.ref 1, .int t] (st D d e) = match deedF 10 p t 0 d with | some d' => .ok .non (st D d' e) | none => .ex 1 (st D d e) := by
  by_cases h0 : t < d.now
  · simp [g_Mode_all_clear, b_Mode_all_clear, deedF, chk_x hL h0, h0, st_1, ↓p_bind, ↓p_st, ↓p_seq, ↓p_if, ↓p_ifE, ↓p_and, ↓p_or, ↓p_not, ↓p_bool, ↓p_ofB, ↓p_C, ↓p_var, ↓p_op2, ↓p_op1, ↓p_nil, ↓p_cons, ↓p_app, ↓p_call, ↓p_tup, ↓p_lst, ↓p_lstR, ↓p_fld, ↓p_meth, ↓p_make, ↓p_tru, ↓p_orV, ↓p_andV, ↓p_bm, ↓p_told, ↓p_set, ↓p_exp, ↓p_ret, ↓p_retN, ↓p_skip, ↓p_raise, ↓p_brk, ↓p_cnt, ↓p_body, ↓p_asg, ↓p_par, ↓p_setFld, ↓p_setSub, ↓p_augVar, ↓p_chain, ↓p_fmt, ↓p_js0, ↓p_js1, ↓p_iv, ↓p_ia, ↓p_for, ↓p_noP, ↓p_pt, ↓p_sl, ↓p_pairs0, ↓p_pairs1, ↓p_dct, ↓p_dctR, ↓p_dctR0, ↓p_yes, ↓p_lc, ↓p_gtup, ↓p_gsum, ↓p_gsorted, ↓p_gmin, ↓p_gmax, ↓p_gany, ↓p_gall, ↓p_lcT, ↓p_byT, wipeT, rngV2, fList, fCount, fIndex, okT, tru, fEqG, drF_s, drF_non, drF_bl, drF_int, drF_str, fEqP, deR, dp, teq_ss, teq_ii, teq_bb, teq_nn, teq_sn, teq_ns, teq_in, teq_ni, teq_bn, teq_nb, teq_si, teq_is, teq_sb, teq_bs, teq_ll, teq_tt, teq_ln, teq_tn, teqL_nn, teqL_cc, teqL_e, teqL_e2, fAdd, fSub, fMul, fDiv, fMod, fPow, fNeg, fLt, fLe, fGt, fGe, fIs, fIsN, isNon, smallI, putFld, rdFld, fIAdd, fPut, fIx, fTix, fstIx, fAbs, fMax2, fMin2, fMax3, fMin3, fInt, fLen, fStr, isDR, isLR, isLs, fAppend, fUpd, dcOf, isRef, lsW, lsOf, kEq, isKey, okD, stL, gTp, gC, gN, gZ, fInG, atI_lit, atI_0, atI_1, atI_m1, cutL_from, cutL_from1, cutL_to, cutL_to1, L2.ixN, emp_app, List.isEmpty_cons, List.isEmpty_nil, Bool.and_false, lt_line, le_line, srcV, rngV1, forS, fSl, dMerge, dPut, dHas, dGet, ft_burns, ft_home, ft_mode, ft_moves, ft_now, ft_other, ft_place,cs_told, ret_told]
  · have ck := chk_k (D := D) (e := e) hL h0
    by_cases h3 : d.burns = []
    · simp [g_Mode_all_clear, b_Mode_all_clear, deedF, ck, h0, h3, st_1, ↓p_bind, ↓p_st, ↓p_seq, ↓p_if, ↓p_ifE, ↓p_and, ↓p_or, ↓p_not, ↓p_bool, ↓p_ofB, ↓p_C, ↓p_var, ↓p_op2, ↓p_op1, ↓p_nil, ↓p_cons, ↓p_app, ↓p_call, ↓p_tup, ↓p_lst, ↓p_lstR, ↓p_fld, ↓p_meth, ↓p_make, ↓p_tru, ↓p_orV, ↓p_andV, ↓p_bm, ↓p_told, ↓p_set, ↓p_exp, ↓p_ret, ↓p_retN, ↓p_skip, ↓p_raise, ↓p_brk, ↓p_cnt, ↓p_body, ↓p_asg, ↓p_par, ↓p_setFld, ↓p_setSub, ↓p_augVar, ↓p_chain, ↓p_fmt, ↓p_js0, ↓p_js1, ↓p_iv, ↓p_ia, ↓p_for, ↓p_noP, ↓p_pt, ↓p_sl, ↓p_pairs0, ↓p_pairs1, ↓p_dct, ↓p_dctR, ↓p_dctR0, ↓p_yes, ↓p_lc, ↓p_gtup, ↓p_gsum, ↓p_gsorted, ↓p_gmin, ↓p_gmax, ↓p_gany, ↓p_gall, ↓p_lcT, ↓p_byT, wipeT, rngV2, fList, fCount, fIndex, okT, tru, fEqG, drF_s, drF_non, drF_bl, drF_int, drF_str, fEqP, deR, dp, teq_ss, teq_ii, teq_bb, teq_nn, teq_sn, teq_ns, teq_in, teq_ni, teq_bn, teq_nb, teq_si, teq_is, teq_sb, teq_bs, teq_ll, teq_tt, teq_ln, teq_tn, teqL_nn, teqL_cc, teqL_e, teqL_e2, fAdd, fSub, fMul, fDiv, fMod, fPow, fNeg, fLt, fLe, fGt, fGe, fIs, fIsN, isNon, smallI, putFld, rdFld, fIAdd, fPut, fIx, fTix, fstIx, fAbs, fMax2, fMin2, fMax3, fMin3, fInt, fLen, fStr, isDR, isLR, isLs, fAppend, fUpd, dcOf, isRef, lsW, lsOf, kEq, isKey, okD, stL, gTp, gC, gN, gZ, fInG, atI_lit, atI_0, atI_1, atI_m1, cutL_from, cutL_from1, cutL_to, cutL_to1, L2.ixN, emp_app, List.isEmpty_cons, List.isEmpty_nil, Bool.and_false, lt_line, le_line, srcV, rngV1, forS, fSl, dMerge, dPut, dHas, dGet, ft_burns, ft_home, ft_mode, ft_moves, ft_now, ft_other, ft_place,cs_told, ret_told]
    · have hL2 : d.rows.length < 300 := by omega
      rcases hM with h4 | h4 | h4 | h4 | h4 | h4 <;> simp [g_Mode_all_clear, b_Mode_all_clear, deedF, ck, h0, h3, h4, st_1, st_s1, to_eq, hL2, Md.to, ↓p_bind, ↓p_st, ↓p_seq, ↓p_if, ↓p_ifE, ↓p_and, ↓p_or, ↓p_not, ↓p_bool, ↓p_ofB, ↓p_C, ↓p_var, ↓p_op2, ↓p_op1, ↓p_nil, ↓p_cons, ↓p_app, ↓p_call, ↓p_tup, ↓p_lst, ↓p_lstR, ↓p_fld, ↓p_meth, ↓p_make, ↓p_tru, ↓p_orV, ↓p_andV, ↓p_bm, ↓p_told, ↓p_set, ↓p_exp, ↓p_ret, ↓p_retN, ↓p_skip, ↓p_raise, ↓p_brk, ↓p_cnt, ↓p_body, ↓p_asg, ↓p_par, ↓p_setFld, ↓p_setSub, ↓p_augVar, ↓p_chain, ↓p_fmt, ↓p_js0, ↓p_js1, ↓p_iv, ↓p_ia, ↓p_for, ↓p_noP, ↓p_pt, ↓p_sl, ↓p_pairs0, ↓p_pairs1, ↓p_dct, ↓p_dctR, ↓p_dctR0, ↓p_yes, ↓p_lc, ↓p_gtup, ↓p_gsum, ↓p_gsorted, ↓p_gmin, ↓p_gmax, ↓p_gany, ↓p_gall, ↓p_lcT, ↓p_byT, wipeT, rngV2, fList, fCount, fIndex, okT, tru, fEqG, drF_s, drF_non, drF_bl, drF_int, drF_str, fEqP, deR, dp, teq_ss, teq_ii, teq_bb, teq_nn, teq_sn, teq_ns, teq_in, teq_ni, teq_bn, teq_nb, teq_si, teq_is, teq_sb, teq_bs, teq_ll, teq_tt, teq_ln, teq_tn, teqL_nn, teqL_cc, teqL_e, teqL_e2, fAdd, fSub, fMul, fDiv, fMod, fPow, fNeg, fLt, fLe, fGt, fGe, fIs, fIsN, isNon, smallI, putFld, rdFld, fIAdd, fPut, fIx, fTix, fstIx, fAbs, fMax2, fMin2, fMax3, fMin3, fInt, fLen, fStr, isDR, isLR, isLs, fAppend, fUpd, dcOf, isRef, lsW, lsOf, kEq, isKey, okD, stL, gTp, gC, gN, gZ, fInG, atI_lit, atI_0, atI_1, atI_m1, cutL_from, cutL_from1, cutL_to, cutL_to1, L2.ixN, emp_app, List.isEmpty_cons, List.isEmpty_nil, Bool.and_false, lt_line, le_line, srcV, rngV1, forS, fSl, dMerge, dPut, dHas, dGet, ft_burns, ft_home, ft_mode, ft_moves, ft_now, ft_other, ft_place,cs_told, ret_told]
theorem own_eq (hM : okM d.mode) : g_Mode_take_own [.ref 1, .int t] (st D d e) = match deedF 12 p t 0 d with | some d' => .ok .non (st D d' e) | none => .ex 1 (st D d e) := by
  by_cases h0 : t < d.now
  · simp [g_Mode_take_own, b_Mode_take_own, deedF, chk_x hL h0, h0, st_1, ↓p_bind, ↓p_st, ↓p_seq, ↓p_if, ↓p_ifE, ↓p_and, ↓p_or, ↓p_not, ↓p_bool, ↓p_ofB, ↓p_C, ↓p_var, ↓p_op2, ↓p_op1, ↓p_nil, ↓p_cons, ↓p_app, ↓p_call, ↓p_tup, ↓p_lst, ↓p_lstR, ↓p_fld, ↓p_meth, ↓p_make, ↓p_tru, ↓p_orV, ↓p_andV, ↓p_bm, ↓p_told, ↓p_set, ↓p_exp, ↓p_ret, ↓p_retN, ↓p_skip, ↓p_raise, ↓p_brk, ↓p_cnt, ↓p_body, ↓p_asg, ↓p_par, ↓p_setFld, ↓p_setSub, ↓p_augVar, ↓p_chain, ↓p_fmt, ↓p_js0, ↓p_js1, ↓p_iv, ↓p_ia, ↓p_for, ↓p_noP, ↓p_pt, ↓p_sl, ↓p_pairs0, ↓p_pairs1, ↓p_dct, ↓p_dctR, ↓p_dctR0, ↓p_yes, ↓p_lc, ↓p_gtup, ↓p_gsum, ↓p_gsorted, ↓p_gmin, ↓p_gmax, ↓p_gany, ↓p_gall, ↓p_lcT, ↓p_byT, wipeT, rngV2, fList, fCount, fIndex, okT, tru, fEqG, drF_s, drF_non, drF_bl, drF_int, drF_str, fEqP, deR, dp, teq_ss, teq_ii, teq_bb, teq_nn, teq_sn, teq_ns, teq_in, teq_ni, teq_bn, teq_nb, teq_si, teq_is, teq_sb, teq_bs, teq_ll, teq_tt, teq_ln, teq_tn, teqL_nn, teqL_cc, teqL_e, teqL_e2, fAdd, fSub, fMul, fDiv, fMod, fPow, fNeg, fLt, fLe, fGt, fGe, fIs, fIsN, isNon, smallI, putFld, rdFld, fIAdd, fPut, fIx, fTix, fstIx, fAbs, fMax2, fMin2, fMax3, fMin3, fInt, fLen, fStr, isDR, isLR, isLs, fAppend, fUpd, dcOf, isRef, lsW, lsOf, kEq, isKey, okD, stL, gTp, gC, gN, gZ, fInG, atI_lit, atI_0, atI_1, atI_m1, cutL_from, cutL_from1, cutL_to, cutL_to1, L2.ixN, emp_app, List.isEmpty_cons, List.isEmpty_nil, Bool.and_false, lt_line, le_line, srcV, rngV1, forS, fSl, dMerge, dPut, dHas, dGet, ft_burns, ft_home, ft_mode, ft_moves, ft_now, ft_other, ft_place,cs_told, ret_told]
  · have ck := chk_k (D := D) (e := e) hL h0
    have tq := fun m w => to_eq (D := D) (d := d) (e := e) (m := m) (w := w) (t := t) (by omega)
    rcases hM with h4 | h4 | h4 | h4 | h4 | h4 <;> simp [g_Mode_take_own, b_Mode_take_own, deedF, ck, h0, h4, tq, st_1, st_s1, ↓p_bind, ↓p_st, ↓p_seq, ↓p_if, ↓p_ifE, ↓p_and, ↓p_or, ↓p_not, ↓p_bool, ↓p_ofB, ↓p_C, ↓p_var, ↓p_op2, ↓p_op1, ↓p_nil, ↓p_cons, ↓p_app, ↓p_call, ↓p_tup, ↓p_lst, ↓p_lstR, ↓p_fld, ↓p_meth, ↓p_make, ↓p_tru, ↓p_orV, ↓p_andV, ↓p_bm, ↓p_told, ↓p_set, ↓p_exp, ↓p_ret, ↓p_retN, ↓p_skip, ↓p_raise, ↓p_brk, ↓p_cnt, ↓p_body, ↓p_asg, ↓p_par, ↓p_setFld, ↓p_setSub, ↓p_augVar, ↓p_chain, ↓p_fmt, ↓p_js0, ↓p_js1, ↓p_iv, ↓p_ia, ↓p_for, ↓p_noP, ↓p_pt, ↓p_sl, ↓p_pairs0, ↓p_pairs1, ↓p_dct, ↓p_dctR, ↓p_dctR0, ↓p_yes, ↓p_lc, ↓p_gtup, ↓p_gsum, ↓p_gsorted, ↓p_gmin, ↓p_gmax, ↓p_gany, ↓p_gall, ↓p_lcT, ↓p_byT, wipeT, rngV2, fList, fCount, fIndex, okT, tru, fEqG, drF_s, drF_non, drF_bl, drF_int, drF_str, fEqP, deR, dp, teq_ss, teq_ii, teq_bb, teq_nn, teq_sn, teq_ns, teq_in, teq_ni, teq_bn, teq_nb, teq_si, teq_is, teq_sb, teq_bs, teq_ll, teq_tt, teq_ln, teq_tn, teqL_nn, teqL_cc, teqL_e, teqL_e2, fAdd, fSub, fMul, fDiv, fMod, fPow, fNeg, fLt, fLe, fGt, fGe, fIs, fIsN, isNon, smallI, putFld, rdFld, fIAdd, fPut, fIx, fTix, fstIx, fAbs, fMax2, fMin2, fMax3, fMin3, fInt, fLen, fStr, isDR, isLR, isLs, fAppend, fUpd, dcOf, isRef, lsW, lsOf, kEq, isKey, okD, stL, gTp, gC, gN, gZ, fInG, atI_lit, atI_0, atI_1, atI_m1, cutL_from, cutL_from1, cutL_to, cutL_to1, L2.ixN, emp_app, List.isEmpty_cons, List.isEmpty_nil, Bool.and_false, lt_line, le_line, srcV, rngV1, forS, fSl, dMerge, dPut, dHas, dGet, ft_burns, ft_home, ft_mode, ft_moves, ft_now, ft_other, ft_place,cs_told, ret_told]
theorem back_eq (hM : okM d.mode) : g_Mode_give_back [.ref 1, .int t] (st D d e) = match deedF 13 p t 0 d with | some d' => .ok .non (st D d' e) | none => .ex 1 (st D d e) := by
  by_cases h0 : t < d.now
  · simp [g_Mode_give_back, b_Mode_give_back, deedF, chk_x hL h0, h0, st_1, ↓p_bind, ↓p_st, ↓p_seq, ↓p_if, ↓p_ifE, ↓p_and, ↓p_or, ↓p_not, ↓p_bool, ↓p_ofB, ↓p_C, ↓p_var, ↓p_op2, ↓p_op1, ↓p_nil, ↓p_cons, ↓p_app, ↓p_call, ↓p_tup, ↓p_lst, ↓p_lstR, ↓p_fld, ↓p_meth, ↓p_make, ↓p_tru, ↓p_orV, ↓p_andV, ↓p_bm, ↓p_told, ↓p_set, ↓p_exp, ↓p_ret, ↓p_retN, ↓p_skip, ↓p_raise, ↓p_brk, ↓p_cnt, ↓p_body, ↓p_asg, ↓p_par, ↓p_setFld, ↓p_setSub, ↓p_augVar, ↓p_chain, ↓p_fmt, ↓p_js0, ↓p_js1, ↓p_iv, ↓p_ia, ↓p_for, ↓p_noP, ↓p_pt, ↓p_sl, ↓p_pairs0, ↓p_pairs1, ↓p_dct, ↓p_dctR, ↓p_dctR0, ↓p_yes, ↓p_lc, ↓p_gtup, ↓p_gsum, ↓p_gsorted, ↓p_gmin, ↓p_gmax, ↓p_gany, ↓p_gall, ↓p_lcT, ↓p_byT, wipeT, rngV2, fList, fCount, fIndex, okT, tru, fEqG, drF_s, drF_non, drF_bl, drF_int, drF_str, fEqP, deR, dp, teq_ss, teq_ii, teq_bb, teq_nn, teq_sn, teq_ns, teq_in, teq_ni, teq_bn, teq_nb, teq_si, teq_is, teq_sb, teq_bs, teq_ll, teq_tt, teq_ln, teq_tn, teqL_nn, teqL_cc, teqL_e, teqL_e2, fAdd, fSub, fMul, fDiv, fMod, fPow, fNeg, fLt, fLe, fGt, fGe, fIs, fIsN, isNon, smallI, putFld, rdFld, fIAdd, fPut, fIx, fTix, fstIx, fAbs, fMax2, fMin2, fMax3, fMin3, fInt, fLen, fStr, isDR, isLR, isLs, fAppend, fUpd, dcOf, isRef, lsW, lsOf, kEq, isKey, okD, stL, gTp, gC, gN, gZ, fInG, atI_lit, atI_0, atI_1, atI_m1, cutL_from, cutL_from1, cutL_to, cutL_to1, L2.ixN, emp_app, List.isEmpty_cons, List.isEmpty_nil, Bool.and_false, lt_line, le_line, srcV, rngV1, forS, fSl, dMerge, dPut, dHas, dGet, ft_burns, ft_home, ft_mode, ft_moves, ft_now, ft_other, ft_place,cs_told, ret_told]
  · have ck := chk_k (D := D) (e := e) hL h0
    have tq := fun m w => to_eq (D := D) (d := d) (e := e) (m := m) (w := w) (t := t) (by omega)
    by_cases h3 : d.burns = [] <;> rcases hM with h4 | h4 | h4 | h4 | h4 | h4 <;> simp [g_Mode_give_back, b_Mode_give_back, deedF, ck, h0, h3, h4, tq, st_1, st_s1, ↓p_bind, ↓p_st, ↓p_seq, ↓p_if, ↓p_ifE, ↓p_and, ↓p_or, ↓p_not, ↓p_bool, ↓p_ofB, ↓p_C, ↓p_var, ↓p_op2, ↓p_op1, ↓p_nil, ↓p_cons, ↓p_app, ↓p_call, ↓p_tup, ↓p_lst, ↓p_lstR, ↓p_fld, ↓p_meth, ↓p_make, ↓p_tru, ↓p_orV, ↓p_andV, ↓p_bm, ↓p_told, ↓p_set, ↓p_exp, ↓p_ret, ↓p_retN, ↓p_skip, ↓p_raise, ↓p_brk, ↓p_cnt, ↓p_body, ↓p_asg, ↓p_par, ↓p_setFld, ↓p_setSub, ↓p_augVar, ↓p_chain, ↓p_fmt, ↓p_js0, ↓p_js1, ↓p_iv, ↓p_ia, ↓p_for, ↓p_noP, ↓p_pt, ↓p_sl, ↓p_pairs0, ↓p_pairs1, ↓p_dct, ↓p_dctR, ↓p_dctR0, ↓p_yes, ↓p_lc, ↓p_gtup, ↓p_gsum, ↓p_gsorted, ↓p_gmin, ↓p_gmax, ↓p_gany, ↓p_gall, ↓p_lcT, ↓p_byT, wipeT, rngV2, fList, fCount, fIndex, okT, tru, fEqG, drF_s, drF_non, drF_bl, drF_int, drF_str, fEqP, deR, dp, teq_ss, teq_ii, teq_bb, teq_nn, teq_sn, teq_ns, teq_in, teq_ni, teq_bn, teq_nb, teq_si, teq_is, teq_sb, teq_bs, teq_ll, teq_tt, teq_ln, teq_tn, teqL_nn, teqL_cc, teqL_e, teqL_e2, fAdd, fSub, fMul, fDiv, fMod, fPow, fNeg, fLt, fLe, fGt, fGe, fIs, fIsN, isNon, smallI, putFld, rdFld, fIAdd, fPut, fIx, fTix, fstIx, fAbs, fMax2, fMin2, fMax3, fMin3, fInt, fLen, fStr, isDR, isLR, isLs, fAppend, fUpd, dcOf, isRef, lsW, lsOf, kEq, isKey, okD, stL, gTp, gC, gN, gZ, fInG, atI_lit, atI_0, atI_1, atI_m1, cutL_from, cutL_from1, cutL_to, cutL_to1, L2.ixN, emp_app, List.isEmpty_cons, List.isEmpty_nil, Bool.and_false, lt_line, le_line, srcV, rngV1, forS, fSl, dMerge, dPut, dHas, dGet, ft_burns, ft_home, ft_mode, ft_moves, ft_now, ft_other, ft_place,cs_told, ret_told]
theorem care_eq (hM : okM d.mode) : g_Mode_take_care [.ref 1, .int t] (st D d e) = match deedF 15 p t 0 d with | some d' => .ok .non (st D d' e) | none => .ex 1 (st D d e) := by
  by_cases h0 : t < d.now
  · simp [g_Mode_take_care, b_Mode_take_care, deedF, chk_x hL h0, h0, st_1, ↓p_bind, ↓p_st, ↓p_seq, ↓p_if, ↓p_ifE, ↓p_and, ↓p_or, ↓p_not, ↓p_bool, ↓p_ofB, ↓p_C, ↓p_var, ↓p_op2, ↓p_op1, ↓p_nil, ↓p_cons, ↓p_app, ↓p_call, ↓p_tup, ↓p_lst, ↓p_lstR, ↓p_fld, ↓p_meth, ↓p_make, ↓p_tru, ↓p_orV, ↓p_andV, ↓p_bm, ↓p_told, ↓p_set, ↓p_exp, ↓p_ret, ↓p_retN, ↓p_skip, ↓p_raise, ↓p_brk, ↓p_cnt, ↓p_body, ↓p_asg, ↓p_par, ↓p_setFld, ↓p_setSub, ↓p_augVar, ↓p_chain, ↓p_fmt, ↓p_js0, ↓p_js1, ↓p_iv, ↓p_ia, ↓p_for, ↓p_noP, ↓p_pt, ↓p_sl, ↓p_pairs0, ↓p_pairs1, ↓p_dct, ↓p_dctR, ↓p_dctR0, ↓p_yes, ↓p_lc, ↓p_gtup, ↓p_gsum, ↓p_gsorted, ↓p_gmin, ↓p_gmax, ↓p_gany, ↓p_gall, ↓p_lcT, ↓p_byT, wipeT, rngV2, fList, fCount, fIndex, okT, tru, fEqG, drF_s, drF_non, drF_bl, drF_int, drF_str, fEqP, deR, dp, teq_ss, teq_ii, teq_bb, teq_nn, teq_sn, teq_ns, teq_in, teq_ni, teq_bn, teq_nb, teq_si, teq_is, teq_sb, teq_bs, teq_ll, teq_tt, teq_ln, teq_tn, teqL_nn, teqL_cc, teqL_e, teqL_e2, fAdd, fSub, fMul, fDiv, fMod, fPow, fNeg, fLt, fLe, fGt, fGe, fIs, fIsN, isNon, smallI, putFld, rdFld, fIAdd, fPut, fIx, fTix, fstIx, fAbs, fMax2, fMin2, fMax3, fMin3, fInt, fLen, fStr, isDR, isLR, isLs, fAppend, fUpd, dcOf, isRef, lsW, lsOf, kEq, isKey, okD, stL, gTp, gC, gN, gZ, fInG, atI_lit, atI_0, atI_1, atI_m1, cutL_from, cutL_from1, cutL_to, cutL_to1, L2.ixN, emp_app, List.isEmpty_cons, List.isEmpty_nil, Bool.and_false, lt_line, le_line, srcV, rngV1, forS, fSl, dMerge, dPut, dHas, dGet, ft_burns, ft_home, ft_mode, ft_moves, ft_now, ft_other, ft_place,cs_told, ret_told]
  · have ck := chk_k (D := D) (e := e) hL h0
    have tq := fun m w => to_eq (D := D) (d := d) (e := e) (m := m) (w := w) (t := t) (by omega)
    rcases hM with h4 | h4 | h4 | h4 | h4 | h4 <;> simp [g_Mode_take_care, b_Mode_take_care, deedF, ck, h0, h4, tq, st_1, st_s1, ↓p_bind, ↓p_st, ↓p_seq, ↓p_if, ↓p_ifE, ↓p_and, ↓p_or, ↓p_not, ↓p_bool, ↓p_ofB, ↓p_C, ↓p_var, ↓p_op2, ↓p_op1, ↓p_nil, ↓p_cons, ↓p_app, ↓p_call, ↓p_tup, ↓p_lst, ↓p_lstR, ↓p_fld, ↓p_meth, ↓p_make, ↓p_tru, ↓p_orV, ↓p_andV, ↓p_bm, ↓p_told, ↓p_set, ↓p_exp, ↓p_ret, ↓p_retN, ↓p_skip, ↓p_raise, ↓p_brk, ↓p_cnt, ↓p_body, ↓p_asg, ↓p_par, ↓p_setFld, ↓p_setSub, ↓p_augVar, ↓p_chain, ↓p_fmt, ↓p_js0, ↓p_js1, ↓p_iv, ↓p_ia, ↓p_for, ↓p_noP, ↓p_pt, ↓p_sl, ↓p_pairs0, ↓p_pairs1, ↓p_dct, ↓p_dctR, ↓p_dctR0, ↓p_yes, ↓p_lc, ↓p_gtup, ↓p_gsum, ↓p_gsorted, ↓p_gmin, ↓p_gmax, ↓p_gany, ↓p_gall, ↓p_lcT, ↓p_byT, wipeT, rngV2, fList, fCount, fIndex, okT, tru, fEqG, drF_s, drF_non, drF_bl, drF_int, drF_str, fEqP, deR, dp, teq_ss, teq_ii, teq_bb, teq_nn, teq_sn, teq_ns, teq_in, teq_ni, teq_bn, teq_nb, teq_si, teq_is, teq_sb, teq_bs, teq_ll, teq_tt, teq_ln, teq_tn, teqL_nn, teqL_cc, teqL_e, teqL_e2, fAdd, fSub, fMul, fDiv, fMod, fPow, fNeg, fLt, fLe, fGt, fGe, fIs, fIsN, isNon, smallI, putFld, rdFld, fIAdd, fPut, fIx, fTix, fstIx, fAbs, fMax2, fMin2, fMax3, fMin3, fInt, fLen, fStr, isDR, isLR, isLs, fAppend, fUpd, dcOf, isRef, lsW, lsOf, kEq, isKey, okD, stL, gTp, gC, gN, gZ, fInG, atI_lit, atI_0, atI_1, atI_m1, cutL_from, cutL_from1, cutL_to, cutL_to1, L2.ixN, emp_app, List.isEmpty_cons, List.isEmpty_nil, Bool.and_false, lt_line, le_line, srcV, rngV1, forS, fSl, dMerge, dPut, dHas, dGet, ft_burns, ft_home, ft_mode, ft_moves, ft_now, ft_other, ft_place,cs_told, ret_told]
theorem fail_eq (hM : okM d.mode) {k : Int} (hk : 0 ≤ k ∧ k < 4) : g_Mode_let_fail [.ref 1, .str (if k < 3 then [98, 101, 108, 116] else []), .int t] (st D d e) = match deedF 17 p t k d with | some d' => .ok .non (st D d' e) | none => .ex 1 (st D d e) := by
  by_cases h0 : t < d.now
  · simp [g_Mode_let_fail, b_Mode_let_fail, deedF, chk_x hL h0, h0, st_1, ↓p_bind, ↓p_st, ↓p_seq, ↓p_if, ↓p_ifE, ↓p_and, ↓p_or, ↓p_not, ↓p_bool, ↓p_ofB, ↓p_C, ↓p_var, ↓p_op2, ↓p_op1, ↓p_nil, ↓p_cons, ↓p_app, ↓p_call, ↓p_tup, ↓p_lst, ↓p_lstR, ↓p_fld, ↓p_meth, ↓p_make, ↓p_tru, ↓p_orV, ↓p_andV, ↓p_bm, ↓p_told, ↓p_set, ↓p_exp, ↓p_ret, ↓p_retN, ↓p_skip, ↓p_raise, ↓p_brk, ↓p_cnt, ↓p_body, ↓p_asg, ↓p_par, ↓p_setFld, ↓p_setSub, ↓p_augVar, ↓p_chain, ↓p_fmt, ↓p_js0, ↓p_js1, ↓p_iv, ↓p_ia, ↓p_for, ↓p_noP, ↓p_pt, ↓p_sl, ↓p_pairs0, ↓p_pairs1, ↓p_dct, ↓p_dctR, ↓p_dctR0, ↓p_yes, ↓p_lc, ↓p_gtup, ↓p_gsum, ↓p_gsorted, ↓p_gmin, ↓p_gmax, ↓p_gany, ↓p_gall, ↓p_lcT, ↓p_byT, wipeT, rngV2, fList, fCount, fIndex, okT, tru, fEqG, drF_s, drF_non, drF_bl, drF_int, drF_str, fEqP, deR, dp, teq_ss, teq_ii, teq_bb, teq_nn, teq_sn, teq_ns, teq_in, teq_ni, teq_bn, teq_nb, teq_si, teq_is, teq_sb, teq_bs, teq_ll, teq_tt, teq_ln, teq_tn, teqL_nn, teqL_cc, teqL_e, teqL_e2, fAdd, fSub, fMul, fDiv, fMod, fPow, fNeg, fLt, fLe, fGt, fGe, fIs, fIsN, isNon, smallI, putFld, rdFld, fIAdd, fPut, fIx, fTix, fstIx, fAbs, fMax2, fMin2, fMax3, fMin3, fInt, fLen, fStr, isDR, isLR, isLs, fAppend, fUpd, dcOf, isRef, lsW, lsOf, kEq, isKey, okD, stL, gTp, gC, gN, gZ, fInG, atI_lit, atI_0, atI_1, atI_m1, cutL_from, cutL_from1, cutL_to, cutL_to1, L2.ixN, emp_app, List.isEmpty_cons, List.isEmpty_nil, Bool.and_false, lt_line, le_line, srcV, rngV1, forS, fSl, dMerge, dPut, dHas, dGet, ft_burns, ft_home, ft_mode, ft_moves, ft_now, ft_other, ft_place,cs_told, ret_told]
  · have ck := chk_k (D := D) (e := e) hL h0
    have tq := fun m w => to_eq (D := D) (d := d) (e := e) (m := m) (w := w) (t := t) (by omega)
    by_cases h5 : k < 3 <;> rcases hM with h4 | h4 | h4 | h4 | h4 | h4 <;> simp [g_Mode_let_fail, b_Mode_let_fail, deedF, ck, h0, h4, h5, tq, st_1, st_s1, ↓p_bind, ↓p_st, ↓p_seq, ↓p_if, ↓p_ifE, ↓p_and, ↓p_or, ↓p_not, ↓p_bool, ↓p_ofB, ↓p_C, ↓p_var, ↓p_op2, ↓p_op1, ↓p_nil, ↓p_cons, ↓p_app, ↓p_call, ↓p_tup, ↓p_lst, ↓p_lstR, ↓p_fld, ↓p_meth, ↓p_make, ↓p_tru, ↓p_orV, ↓p_andV, ↓p_bm, ↓p_told, ↓p_set, ↓p_exp, ↓p_ret, ↓p_retN, ↓p_skip, ↓p_raise, ↓p_brk, ↓p_cnt, ↓p_body, ↓p_asg, ↓p_par, ↓p_setFld, ↓p_setSub, ↓p_augVar, ↓p_chain, ↓p_fmt, ↓p_js0, ↓p_js1, ↓p_iv, ↓p_ia, ↓p_for, ↓p_noP, ↓p_pt, ↓p_sl, ↓p_pairs0, ↓p_pairs1, ↓p_dct, ↓p_dctR, ↓p_dctR0, ↓p_yes, ↓p_lc, ↓p_gtup, ↓p_gsum, ↓p_gsorted, ↓p_gmin, ↓p_gmax, ↓p_gany, ↓p_gall, ↓p_lcT, ↓p_byT, wipeT, rngV2, fList, fCount, fIndex, okT, tru, fEqG, drF_s, drF_non, drF_bl, drF_int, drF_str, fEqP, deR, dp, teq_ss, teq_ii, teq_bb, teq_nn, teq_sn, teq_ns, teq_in, teq_ni, teq_bn, teq_nb, teq_si, teq_is, teq_sb, teq_bs, teq_ll, teq_tt, teq_ln, teq_tn, teqL_nn, teqL_cc, teqL_e, teqL_e2, fAdd, fSub, fMul, fDiv, fMod, fPow, fNeg, fLt, fLe, fGt, fGe, fIs, fIsN, isNon, smallI, putFld, rdFld, fIAdd, fPut, fIx, fTix, fstIx, fAbs, fMax2, fMin2, fMax3, fMin3, fInt, fLen, fStr, isDR, isLR, isLs, fAppend, fUpd, dcOf, isRef, lsW, lsOf, kEq, isKey, okD, stL, gTp, gC, gN, gZ, fInG, atI_lit, atI_0, atI_1, atI_m1, cutL_from, cutL_from1, cutL_to, cutL_to1, L2.ixN, emp_app, List.isEmpty_cons, List.isEmpty_nil, Bool.and_false, lt_line, le_line, srcV, rngV1, forS, fSl, dMerge, dPut, dHas, dGet, ft_burns, ft_home, ft_mode, ft_moves, ft_now, ft_other, ft_place,cs_told, ret_told]
theorem fail_b (hM : okM d.mode) {k : Int} (h0 : 0 ≤ k) (hk : k < 3) : g_Mode_let_fail [.ref 1, .str [98, 101, 108, 116], .int t] (st D d e) = match deedF 17 p t k d with | some d' => .ok .non (st D d' e) | none => .ex 1 (st D d e) := by
  have := fail_eq (p := p) (t := t) (D := D) (e := e) hL hM (k := k) ⟨h0, by omega⟩
  rwa [if_pos hk] at this
theorem fail_n (hM : okM d.mode) {k : Int} (h0 : k < 4) (hk : ¬ k < 3) : g_Mode_let_fail [.ref 1, .str [], .int t] (st D d e) = match deedF 17 p t k d with | some d' => .ok .non (st D d' e) | none => .ex 1 (st D d e) := by
  have := fail_eq (p := p) (t := t) (D := D) (e := e) hL hM (k := k) ⟨by omega, h0⟩
  rwa [if_neg hk] at this
end
end Mi
namespace Mi
open PySem PySem.Spec PyProof.Rows
def dp4 (s : Int) (D : Di) : Di := if s < 17 then D else D.n 4
theorem Md.eta (d : Md) : (⟨d.mode, d.place, d.home, d.other, d.burns, d.rows, d.now⟩ : Md) = d := rfl
section
variable {D : Di} {d : Md} {s p t : Int} (hL : d.rows.length < 299) (hM : okM d.mode) (hh : okDec d.home = true) (hp : p < 100)
include hL hM hh hp
theorem deed_A (s1 : s < 3) : b_law_deed_t0 [.ref 0, .ref 1, .ref 3, .bl (decide (d.now ≤ t)), .un, .str d.mode, .int t, .int p, .int s, .un, .un] (st D d d) = .rt (.bl true) (st (dp4 s D) ((deedF s p t (D.k 4) d).getD d) ((deedF s p t (D.k 4) d).getD d)) := by
  have hL2 : d.rows.length < 300 := by omega
  have s17 : s < 17 := by omega
  by_cases h0 : t < d.now
  · have h1 : ¬ d.now ≤ t := by omega
    simp [b_law_deed_t0, alarm_eq hL hM hp, deedF, dp4, h0, h1, s1, s17, st_1, st_3, st_s3, Md.eta, ↓p_bind, ↓p_st, ↓p_seq, ↓p_if, ↓p_ifE, ↓p_and, ↓p_or, ↓p_not, ↓p_bool, ↓p_ofB, ↓p_C, ↓p_var, ↓p_op2, ↓p_op1, ↓p_nil, ↓p_cons, ↓p_app, ↓p_call, ↓p_tup, ↓p_lst, ↓p_lstR, ↓p_fld, ↓p_meth, ↓p_make, ↓p_tru, ↓p_orV, ↓p_andV, ↓p_bm, ↓p_told, ↓p_set, ↓p_exp, ↓p_ret, ↓p_retN, ↓p_skip, ↓p_raise, ↓p_brk, ↓p_cnt, ↓p_body, ↓p_asg, ↓p_par, ↓p_setFld, ↓p_setSub, ↓p_augVar, ↓p_chain, ↓p_fmt, ↓p_js0, ↓p_js1, ↓p_iv, ↓p_ia, ↓p_for, ↓p_noP, ↓p_pt, ↓p_sl, ↓p_pairs0, ↓p_pairs1, ↓p_dct, ↓p_dctR, ↓p_dctR0, ↓p_yes, ↓p_lc, ↓p_gtup, ↓p_gsum, ↓p_gsorted, ↓p_gmin, ↓p_gmax, ↓p_gany, ↓p_gall, ↓p_lcT, ↓p_byT, wipeT, rngV2, fList, fCount, fIndex, okT, tru, fEqG, drF_s, drF_non, drF_bl, drF_int, drF_str, fEqP, deR, dp, teq_ss, teq_ii, teq_bb, teq_nn, teq_sn, teq_ns, teq_in, teq_ni, teq_bn, teq_nb, teq_si, teq_is, teq_sb, teq_bs, teq_ll, teq_tt, teq_ln, teq_tn, teqL_nn, teqL_cc, teqL_e, teqL_e2, fAdd, fSub, fMul, fDiv, fMod, fPow, fNeg, fLt, fLe, fGt, fGe, fIs, fIsN, isNon, smallI, putFld, rdFld, fIAdd, fPut, fIx, fTix, fstIx, fAbs, fMax2, fMin2, fMax3, fMin3, fInt, fLen, fStr, isDR, isLR, isLs, fAppend, fUpd, dcOf, isRef, lsW, lsOf, kEq, isKey, okD, stL, gTp, gC, gN, gZ, fInG, atI_lit, atI_0, atI_1, atI_m1, cutL_from, cutL_from1, cutL_to, cutL_to1, L2.ixN, emp_app, List.isEmpty_cons, List.isEmpty_nil, Bool.and_false, lt_line, le_line, srcV, rngV1, forS, fSl, dMerge, dPut, dHas, dGet, ft_burns, ft_home, ft_mode, ft_moves, ft_now, ft_other, ft_place,cs_told, ret_told]
  · have h1 : d.now ≤ t := by omega
    by_cases h2 : 0 ≤ p
    · have h3 : ¬ p < 0 := by omega
      have hd := okDec_of h2 (by omega)
      have hl : 8 + (decT p).length ≤ lineN := le_line (by have := decT_len h2 (by omega); omega)
      by_cases h5 : d.burns = [] <;> rcases id hM with h4 | h4 | h4 | h4 | h4 | h4 <;> (simp [b_law_deed_t0, alarm_eq hL hM hp, lto_eq, hL2, deedF, dp4, h0, h1, s1, s17, s1, h2, h3, hd, hl, h5, h4, st_1, st_3, st_s3, Md.eta, Md.to, ↓p_bind, ↓p_st, ↓p_seq, ↓p_if, ↓p_ifE, ↓p_and, ↓p_or, ↓p_not, ↓p_bool, ↓p_ofB, ↓p_C, ↓p_var, ↓p_op2, ↓p_op1, ↓p_nil, ↓p_cons, ↓p_app, ↓p_call, ↓p_tup, ↓p_lst, ↓p_lstR, ↓p_fld, ↓p_meth, ↓p_make, ↓p_tru, ↓p_orV, ↓p_andV, ↓p_bm, ↓p_told, ↓p_set, ↓p_exp, ↓p_ret, ↓p_retN, ↓p_skip, ↓p_raise, ↓p_brk, ↓p_cnt, ↓p_body, ↓p_asg, ↓p_par, ↓p_setFld, ↓p_setSub, ↓p_augVar, ↓p_chain, ↓p_fmt, ↓p_js0, ↓p_js1, ↓p_iv, ↓p_ia, ↓p_for, ↓p_noP, ↓p_pt, ↓p_sl, ↓p_pairs0, ↓p_pairs1, ↓p_dct, ↓p_dctR, ↓p_dctR0, ↓p_yes, ↓p_lc, ↓p_gtup, ↓p_gsum, ↓p_gsorted, ↓p_gmin, ↓p_gmax, ↓p_gany, ↓p_gall, ↓p_lcT, ↓p_byT, wipeT, rngV2, fList, fCount, fIndex, okT, tru, fEqG, drF_s, drF_non, drF_bl, drF_int, drF_str, fEqP, deR, dp, teq_ss, teq_ii, teq_bb, teq_nn, teq_sn, teq_ns, teq_in, teq_ni, teq_bn, teq_nb, teq_si, teq_is, teq_sb, teq_bs, teq_ll, teq_tt, teq_ln, teq_tn, teqL_nn, teqL_cc, teqL_e, teqL_e2, fAdd, fSub, fMul, fDiv, fMod, fPow, fNeg, fLt, fLe, fGt, fGe, fIs, fIsN, isNon, smallI, putFld, rdFld, fIAdd, fPut, fIx, fTix, fstIx, fAbs, fMax2, fMin2, fMax3, fMin3, fInt, fLen, fStr, isDR, isLR, isLs, fAppend, fUpd, dcOf, isRef, lsW, lsOf, kEq, isKey, okD, stL, gTp, gC, gN, gZ, fInG, atI_lit, atI_0, atI_1, atI_m1, cutL_from, cutL_from1, cutL_to, cutL_to1, L2.ixN, emp_app, List.isEmpty_cons, List.isEmpty_nil, Bool.and_false, lt_line, le_line, srcV, rngV1, forS, fSl, dMerge, dPut, dHas, dGet, ft_burns, ft_home, ft_mode, ft_moves, ft_now, ft_other, ft_place,cs_told, ret_told] <;> first | rfl | (rw [← h4]; done) | (rw [← h4]; rfl) | (rw [← h4, ← h5]; done) | (rw [← h4, ← h5]; rfl))
    · (simp [b_law_deed_t0, alarm_eq hL hM hp, lto_eq, hL2, deedF, dp4, h0, h1, s1, s17, s1, h2, st_1, st_3, st_s3, Md.eta, Md.to, ↓p_bind, ↓p_st, ↓p_seq, ↓p_if, ↓p_ifE, ↓p_and, ↓p_or, ↓p_not, ↓p_bool, ↓p_ofB, ↓p_C, ↓p_var, ↓p_op2, ↓p_op1, ↓p_nil, ↓p_cons, ↓p_app, ↓p_call, ↓p_tup, ↓p_lst, ↓p_lstR, ↓p_fld, ↓p_meth, ↓p_make, ↓p_tru, ↓p_orV, ↓p_andV, ↓p_bm, ↓p_told, ↓p_set, ↓p_exp, ↓p_ret, ↓p_retN, ↓p_skip, ↓p_raise, ↓p_brk, ↓p_cnt, ↓p_body, ↓p_asg, ↓p_par, ↓p_setFld, ↓p_setSub, ↓p_augVar, ↓p_chain, ↓p_fmt, ↓p_js0, ↓p_js1, ↓p_iv, ↓p_ia, ↓p_for, ↓p_noP, ↓p_pt, ↓p_sl, ↓p_pairs0, ↓p_pairs1, ↓p_dct, ↓p_dctR, ↓p_dctR0, ↓p_yes, ↓p_lc, ↓p_gtup, ↓p_gsum, ↓p_gsorted, ↓p_gmin, ↓p_gmax, ↓p_gany, ↓p_gall, ↓p_lcT, ↓p_byT, wipeT, rngV2, fList, fCount, fIndex, okT, tru, fEqG, drF_s, drF_non, drF_bl, drF_int, drF_str, fEqP, deR, dp, teq_ss, teq_ii, teq_bb, teq_nn, teq_sn, teq_ns, teq_in, teq_ni, teq_bn, teq_nb, teq_si, teq_is, teq_sb, teq_bs, teq_ll, teq_tt, teq_ln, teq_tn, teqL_nn, teqL_cc, teqL_e, teqL_e2, fAdd, fSub, fMul, fDiv, fMod, fPow, fNeg, fLt, fLe, fGt, fGe, fIs, fIsN, isNon, smallI, putFld, rdFld, fIAdd, fPut, fIx, fTix, fstIx, fAbs, fMax2, fMin2, fMax3, fMin3, fInt, fLen, fStr, isDR, isLR, isLs, fAppend, fUpd, dcOf, isRef, lsW, lsOf, kEq, isKey, okD, stL, gTp, gC, gN, gZ, fInG, atI_lit, atI_0, atI_1, atI_m1, cutL_from, cutL_from1, cutL_to, cutL_to1, L2.ixN, emp_app, List.isEmpty_cons, List.isEmpty_nil, Bool.and_false, lt_line, le_line, srcV, rngV1, forS, fSl, dMerge, dPut, dHas, dGet, ft_burns, ft_home, ft_mode, ft_moves, ft_now, ft_other, ft_place,cs_told, ret_told] <;> first | rfl | (rw [← h4]; done) | (rw [← h4]; rfl) | (rw [← h4, ← h5]; done) | (rw [← h4, ← h5]; rfl))
theorem deed_B (s1 : ¬ s < 3) (s2 : s < 7) : b_law_deed_t0 [.ref 0, .ref 1, .ref 3, .bl (decide (d.now ≤ t)), .un, .str d.mode, .int t, .int p, .int s, .un, .un] (st D d d) = .rt (.bl true) (st (dp4 s D) ((deedF s p t (D.k 4) d).getD d) ((deedF s p t (D.k 4) d).getD d)) := by
  have hL2 : d.rows.length < 300 := by omega
  have s17 : s < 17 := by omega
  by_cases h0 : t < d.now
  · have h1 : ¬ d.now ≤ t := by omega
    simp [b_law_deed_t0, arrive_eq hL hM, deedF, dp4, h0, h1, s1, s2, s17, st_1, st_3, st_s3, Md.eta, ↓p_bind, ↓p_st, ↓p_seq, ↓p_if, ↓p_ifE, ↓p_and, ↓p_or, ↓p_not, ↓p_bool, ↓p_ofB, ↓p_C, ↓p_var, ↓p_op2, ↓p_op1, ↓p_nil, ↓p_cons, ↓p_app, ↓p_call, ↓p_tup, ↓p_lst, ↓p_lstR, ↓p_fld, ↓p_meth, ↓p_make, ↓p_tru, ↓p_orV, ↓p_andV, ↓p_bm, ↓p_told, ↓p_set, ↓p_exp, ↓p_ret, ↓p_retN, ↓p_skip, ↓p_raise, ↓p_brk, ↓p_cnt, ↓p_body, ↓p_asg, ↓p_par, ↓p_setFld, ↓p_setSub, ↓p_augVar, ↓p_chain, ↓p_fmt, ↓p_js0, ↓p_js1, ↓p_iv, ↓p_ia, ↓p_for, ↓p_noP, ↓p_pt, ↓p_sl, ↓p_pairs0, ↓p_pairs1, ↓p_dct, ↓p_dctR, ↓p_dctR0, ↓p_yes, ↓p_lc, ↓p_gtup, ↓p_gsum, ↓p_gsorted, ↓p_gmin, ↓p_gmax, ↓p_gany, ↓p_gall, ↓p_lcT, ↓p_byT, wipeT, rngV2, fList, fCount, fIndex, okT, tru, fEqG, drF_s, drF_non, drF_bl, drF_int, drF_str, fEqP, deR, dp, teq_ss, teq_ii, teq_bb, teq_nn, teq_sn, teq_ns, teq_in, teq_ni, teq_bn, teq_nb, teq_si, teq_is, teq_sb, teq_bs, teq_ll, teq_tt, teq_ln, teq_tn, teqL_nn, teqL_cc, teqL_e, teqL_e2, fAdd, fSub, fMul, fDiv, fMod, fPow, fNeg, fLt, fLe, fGt, fGe, fIs, fIsN, isNon, smallI, putFld, rdFld, fIAdd, fPut, fIx, fTix, fstIx, fAbs, fMax2, fMin2, fMax3, fMin3, fInt, fLen, fStr, isDR, isLR, isLs, fAppend, fUpd, dcOf, isRef, lsW, lsOf, kEq, isKey, okD, stL, gTp, gC, gN, gZ, fInG, atI_lit, atI_0, atI_1, atI_m1, cutL_from, cutL_from1, cutL_to, cutL_to1, L2.ixN, emp_app, List.isEmpty_cons, List.isEmpty_nil, Bool.and_false, lt_line, le_line, srcV, rngV1, forS, fSl, dMerge, dPut, dHas, dGet, ft_burns, ft_home, ft_mode, ft_moves, ft_now, ft_other, ft_place,cs_told, ret_told]
  · have h1 : d.now ≤ t := by omega
    by_cases h2 : 0 ≤ p <;> rcases id hM with h4 | h4 | h4 | h4 | h4 | h4 <;> (simp [b_law_deed_t0, arrive_eq hL hM, lto_eq, hL2, deedF, dp4, h0, h1, s1, s2, s17, s1, s2, h2, h4, st_1, st_3, st_s3, Md.eta, Md.to, ↓p_bind, ↓p_st, ↓p_seq, ↓p_if, ↓p_ifE, ↓p_and, ↓p_or, ↓p_not, ↓p_bool, ↓p_ofB, ↓p_C, ↓p_var, ↓p_op2, ↓p_op1, ↓p_nil, ↓p_cons, ↓p_app, ↓p_call, ↓p_tup, ↓p_lst, ↓p_lstR, ↓p_fld, ↓p_meth, ↓p_make, ↓p_tru, ↓p_orV, ↓p_andV, ↓p_bm, ↓p_told, ↓p_set, ↓p_exp, ↓p_ret, ↓p_retN, ↓p_skip, ↓p_raise, ↓p_brk, ↓p_cnt, ↓p_body, ↓p_asg, ↓p_par, ↓p_setFld, ↓p_setSub, ↓p_augVar, ↓p_chain, ↓p_fmt, ↓p_js0, ↓p_js1, ↓p_iv, ↓p_ia, ↓p_for, ↓p_noP, ↓p_pt, ↓p_sl, ↓p_pairs0, ↓p_pairs1, ↓p_dct, ↓p_dctR, ↓p_dctR0, ↓p_yes, ↓p_lc, ↓p_gtup, ↓p_gsum, ↓p_gsorted, ↓p_gmin, ↓p_gmax, ↓p_gany, ↓p_gall, ↓p_lcT, ↓p_byT, wipeT, rngV2, fList, fCount, fIndex, okT, tru, fEqG, drF_s, drF_non, drF_bl, drF_int, drF_str, fEqP, deR, dp, teq_ss, teq_ii, teq_bb, teq_nn, teq_sn, teq_ns, teq_in, teq_ni, teq_bn, teq_nb, teq_si, teq_is, teq_sb, teq_bs, teq_ll, teq_tt, teq_ln, teq_tn, teqL_nn, teqL_cc, teqL_e, teqL_e2, fAdd, fSub, fMul, fDiv, fMod, fPow, fNeg, fLt, fLe, fGt, fGe, fIs, fIsN, isNon, smallI, putFld, rdFld, fIAdd, fPut, fIx, fTix, fstIx, fAbs, fMax2, fMin2, fMax3, fMin3, fInt, fLen, fStr, isDR, isLR, isLs, fAppend, fUpd, dcOf, isRef, lsW, lsOf, kEq, isKey, okD, stL, gTp, gC, gN, gZ, fInG, atI_lit, atI_0, atI_1, atI_m1, cutL_from, cutL_from1, cutL_to, cutL_to1, L2.ixN, emp_app, List.isEmpty_cons, List.isEmpty_nil, Bool.and_false, lt_line, le_line, srcV, rngV1, forS, fSl, dMerge, dPut, dHas, dGet, ft_burns, ft_home, ft_mode, ft_moves, ft_now, ft_other, ft_place,cs_told, ret_told] <;> first | rfl | (rw [← h4]; done) | (rw [← h4]; rfl) | (rw [← h4, ← h5]; done) | (rw [← h4, ← h5]; rfl))
theorem deed_C (s3 : s < 10) (s2 : ¬ s < 7) : b_law_deed_t0 [.ref 0, .ref 1, .ref 3, .bl (decide (d.now ≤ t)), .un, .str d.mode, .int t, .int p, .int s, .un, .un] (st D d d) = .rt (.bl true) (st (dp4 s D) ((deedF s p t (D.k 4) d).getD d) ((deedF s p t (D.k 4) d).getD d)) := by
  have hL2 : d.rows.length < 300 := by omega
  have s1 : ¬ s < 3 := by omega
  have s17 : s < 17 := by omega
  by_cases h0 : t < d.now
  · have h1 : ¬ d.now ≤ t := by omega
    simp [b_law_deed_t0, key_eq (p := p) hL hM hh, deedF, dp4, h0, h1, s1, s2, s3, s17, st_1, st_3, st_s3, Md.eta, ↓p_bind, ↓p_st, ↓p_seq, ↓p_if, ↓p_ifE, ↓p_and, ↓p_or, ↓p_not, ↓p_bool, ↓p_ofB, ↓p_C, ↓p_var, ↓p_op2, ↓p_op1, ↓p_nil, ↓p_cons, ↓p_app, ↓p_call, ↓p_tup, ↓p_lst, ↓p_lstR, ↓p_fld, ↓p_meth, ↓p_make, ↓p_tru, ↓p_orV, ↓p_andV, ↓p_bm, ↓p_told, ↓p_set, ↓p_exp, ↓p_ret, ↓p_retN, ↓p_skip, ↓p_raise, ↓p_brk, ↓p_cnt, ↓p_body, ↓p_asg, ↓p_par, ↓p_setFld, ↓p_setSub, ↓p_augVar, ↓p_chain, ↓p_fmt, ↓p_js0, ↓p_js1, ↓p_iv, ↓p_ia, ↓p_for, ↓p_noP, ↓p_pt, ↓p_sl, ↓p_pairs0, ↓p_pairs1, ↓p_dct, ↓p_dctR, ↓p_dctR0, ↓p_yes, ↓p_lc, ↓p_gtup, ↓p_gsum, ↓p_gsorted, ↓p_gmin, ↓p_gmax, ↓p_gany, ↓p_gall, ↓p_lcT, ↓p_byT, wipeT, rngV2, fList, fCount, fIndex, okT, tru, fEqG, drF_s, drF_non, drF_bl, drF_int, drF_str, fEqP, deR, dp, teq_ss, teq_ii, teq_bb, teq_nn, teq_sn, teq_ns, teq_in, teq_ni, teq_bn, teq_nb, teq_si, teq_is, teq_sb, teq_bs, teq_ll, teq_tt, teq_ln, teq_tn, teqL_nn, teqL_cc, teqL_e, teqL_e2, fAdd, fSub, fMul, fDiv, fMod, fPow, fNeg, fLt, fLe, fGt, fGe, fIs, fIsN, isNon, smallI, putFld, rdFld, fIAdd, fPut, fIx, fTix, fstIx, fAbs, fMax2, fMin2, fMax3, fMin3, fInt, fLen, fStr, isDR, isLR, isLs, fAppend, fUpd, dcOf, isRef, lsW, lsOf, kEq, isKey, okD, stL, gTp, gC, gN, gZ, fInG, atI_lit, atI_0, atI_1, atI_m1, cutL_from, cutL_from1, cutL_to, cutL_to1, L2.ixN, emp_app, List.isEmpty_cons, List.isEmpty_nil, Bool.and_false, lt_line, le_line, srcV, rngV1, forS, fSl, dMerge, dPut, dHas, dGet, ft_burns, ft_home, ft_mode, ft_moves, ft_now, ft_other, ft_place,cs_told, ret_told]
  · have h1 : d.now ≤ t := by omega
    have gq := fun D e => lgoal_eq (D := D) (d := e) (e := d) hh
    rcases id hM with h4 | h4 | h4 | h4 | h4 | h4
    case inr.inr.inl =>
      rw [Md.goal_r h4] at gq
      by_cases h5 : d.place = d.goalI <;> (simp [b_law_deed_t0, key_eq (p := p) hL hM hh, lto_eq, hL2, deedF, dp4, h0, h1, s1, s17, gq, s2, s3, h4, h5, st_1, st_3, st_s3, Md.eta, Md.to, ↓p_bind, ↓p_st, ↓p_seq, ↓p_if, ↓p_ifE, ↓p_and, ↓p_or, ↓p_not, ↓p_bool, ↓p_ofB, ↓p_C, ↓p_var, ↓p_op2, ↓p_op1, ↓p_nil, ↓p_cons, ↓p_app, ↓p_call, ↓p_tup, ↓p_lst, ↓p_lstR, ↓p_fld, ↓p_meth, ↓p_make, ↓p_tru, ↓p_orV, ↓p_andV, ↓p_bm, ↓p_told, ↓p_set, ↓p_exp, ↓p_ret, ↓p_retN, ↓p_skip, ↓p_raise, ↓p_brk, ↓p_cnt, ↓p_body, ↓p_asg, ↓p_par, ↓p_setFld, ↓p_setSub, ↓p_augVar, ↓p_chain, ↓p_fmt, ↓p_js0, ↓p_js1, ↓p_iv, ↓p_ia, ↓p_for, ↓p_noP, ↓p_pt, ↓p_sl, ↓p_pairs0, ↓p_pairs1, ↓p_dct, ↓p_dctR, ↓p_dctR0, ↓p_yes, ↓p_lc, ↓p_gtup, ↓p_gsum, ↓p_gsorted, ↓p_gmin, ↓p_gmax, ↓p_gany, ↓p_gall, ↓p_lcT, ↓p_byT, wipeT, rngV2, fList, fCount, fIndex, okT, tru, fEqG, drF_s, drF_non, drF_bl, drF_int, drF_str, fEqP, deR, dp, teq_ss, teq_ii, teq_bb, teq_nn, teq_sn, teq_ns, teq_in, teq_ni, teq_bn, teq_nb, teq_si, teq_is, teq_sb, teq_bs, teq_ll, teq_tt, teq_ln, teq_tn, teqL_nn, teqL_cc, teqL_e, teqL_e2, fAdd, fSub, fMul, fDiv, fMod, fPow, fNeg, fLt, fLe, fGt, fGe, fIs, fIsN, isNon, smallI, putFld, rdFld, fIAdd, fPut, fIx, fTix, fstIx, fAbs, fMax2, fMin2, fMax3, fMin3, fInt, fLen, fStr, isDR, isLR, isLs, fAppend, fUpd, dcOf, isRef, lsW, lsOf, kEq, isKey, okD, stL, gTp, gC, gN, gZ, fInG, atI_lit, atI_0, atI_1, atI_m1, cutL_from, cutL_from1, cutL_to, cutL_to1, L2.ixN, emp_app, List.isEmpty_cons, List.isEmpty_nil, Bool.and_false, lt_line, le_line, srcV, rngV1, forS, fSl, dMerge, dPut, dHas, dGet, ft_burns, ft_home, ft_mode, ft_moves, ft_now, ft_other, ft_place,cs_told, ret_told] <;> first | rfl | (rw [← h4]; done) | (rw [← h4]; rfl) | (rw [← h4, ← h5]; done) | (rw [← h4, ← h5]; rfl))
    case inr.inr.inr.inl =>
      by_cases h5 : d.home = d.place
      · (simp [b_law_deed_t0, key_eq (p := p) hL hM hh, lto_eq, hL2, deedF, dp4, h0, h1, s1, s17, gq, s2, s3, h4, h5, st_1, st_3, st_s3, Md.eta, Md.to, ↓p_bind, ↓p_st, ↓p_seq, ↓p_if, ↓p_ifE, ↓p_and, ↓p_or, ↓p_not, ↓p_bool, ↓p_ofB, ↓p_C, ↓p_var, ↓p_op2, ↓p_op1, ↓p_nil, ↓p_cons, ↓p_app, ↓p_call, ↓p_tup, ↓p_lst, ↓p_lstR, ↓p_fld, ↓p_meth, ↓p_make, ↓p_tru, ↓p_orV, ↓p_andV, ↓p_bm, ↓p_told, ↓p_set, ↓p_exp, ↓p_ret, ↓p_retN, ↓p_skip, ↓p_raise, ↓p_brk, ↓p_cnt, ↓p_body, ↓p_asg, ↓p_par, ↓p_setFld, ↓p_setSub, ↓p_augVar, ↓p_chain, ↓p_fmt, ↓p_js0, ↓p_js1, ↓p_iv, ↓p_ia, ↓p_for, ↓p_noP, ↓p_pt, ↓p_sl, ↓p_pairs0, ↓p_pairs1, ↓p_dct, ↓p_dctR, ↓p_dctR0, ↓p_yes, ↓p_lc, ↓p_gtup, ↓p_gsum, ↓p_gsorted, ↓p_gmin, ↓p_gmax, ↓p_gany, ↓p_gall, ↓p_lcT, ↓p_byT, wipeT, rngV2, fList, fCount, fIndex, okT, tru, fEqG, drF_s, drF_non, drF_bl, drF_int, drF_str, fEqP, deR, dp, teq_ss, teq_ii, teq_bb, teq_nn, teq_sn, teq_ns, teq_in, teq_ni, teq_bn, teq_nb, teq_si, teq_is, teq_sb, teq_bs, teq_ll, teq_tt, teq_ln, teq_tn, teqL_nn, teqL_cc, teqL_e, teqL_e2, fAdd, fSub, fMul, fDiv, fMod, fPow, fNeg, fLt, fLe, fGt, fGe, fIs, fIsN, isNon, smallI, putFld, rdFld, fIAdd, fPut, fIx, fTix, fstIx, fAbs, fMax2, fMin2, fMax3, fMin3, fInt, fLen, fStr, isDR, isLR, isLs, fAppend, fUpd, dcOf, isRef, lsW, lsOf, kEq, isKey, okD, stL, gTp, gC, gN, gZ, fInG, atI_lit, atI_0, atI_1, atI_m1, cutL_from, cutL_from1, cutL_to, cutL_to1, L2.ixN, emp_app, List.isEmpty_cons, List.isEmpty_nil, Bool.and_false, lt_line, le_line, srcV, rngV1, forS, fSl, dMerge, dPut, dHas, dGet, ft_burns, ft_home, ft_mode, ft_moves, ft_now, ft_other, ft_place,cs_told, ret_told] <;> first | rfl | (rw [← h4]; done) | (rw [← h4]; rfl) | (rw [← h4, ← h5]; done) | (rw [← h4, ← h5]; rfl))
      · by_cases h7 : d.other = d.place <;> (simp [b_law_deed_t0, key_eq (p := p) hL hM hh, lto_eq, hL2, deedF, dp4, h0, h1, s1, s17, gq, s2, s3, h4, h5, h7, st_1, st_3, st_s3, Md.eta, Md.to, ↓p_bind, ↓p_st, ↓p_seq, ↓p_if, ↓p_ifE, ↓p_and, ↓p_or, ↓p_not, ↓p_bool, ↓p_ofB, ↓p_C, ↓p_var, ↓p_op2, ↓p_op1, ↓p_nil, ↓p_cons, ↓p_app, ↓p_call, ↓p_tup, ↓p_lst, ↓p_lstR, ↓p_fld, ↓p_meth, ↓p_make, ↓p_tru, ↓p_orV, ↓p_andV, ↓p_bm, ↓p_told, ↓p_set, ↓p_exp, ↓p_ret, ↓p_retN, ↓p_skip, ↓p_raise, ↓p_brk, ↓p_cnt, ↓p_body, ↓p_asg, ↓p_par, ↓p_setFld, ↓p_setSub, ↓p_augVar, ↓p_chain, ↓p_fmt, ↓p_js0, ↓p_js1, ↓p_iv, ↓p_ia, ↓p_for, ↓p_noP, ↓p_pt, ↓p_sl, ↓p_pairs0, ↓p_pairs1, ↓p_dct, ↓p_dctR, ↓p_dctR0, ↓p_yes, ↓p_lc, ↓p_gtup, ↓p_gsum, ↓p_gsorted, ↓p_gmin, ↓p_gmax, ↓p_gany, ↓p_gall, ↓p_lcT, ↓p_byT, wipeT, rngV2, fList, fCount, fIndex, okT, tru, fEqG, drF_s, drF_non, drF_bl, drF_int, drF_str, fEqP, deR, dp, teq_ss, teq_ii, teq_bb, teq_nn, teq_sn, teq_ns, teq_in, teq_ni, teq_bn, teq_nb, teq_si, teq_is, teq_sb, teq_bs, teq_ll, teq_tt, teq_ln, teq_tn, teqL_nn, teqL_cc, teqL_e, teqL_e2, fAdd, fSub, fMul, fDiv, fMod, fPow, fNeg, fLt, fLe, fGt, fGe, fIs, fIsN, isNon, smallI, putFld, rdFld, fIAdd, fPut, fIx, fTix, fstIx, fAbs, fMax2, fMin2, fMax3, fMin3, fInt, fLen, fStr, isDR, isLR, isLs, fAppend, fUpd, dcOf, isRef, lsW, lsOf, kEq, isKey, okD, stL, gTp, gC, gN, gZ, fInG, atI_lit, atI_0, atI_1, atI_m1, cutL_from, cutL_from1, cutL_to, cutL_to1, L2.ixN, emp_app, List.isEmpty_cons, List.isEmpty_nil, Bool.and_false, lt_line, le_line, srcV, rngV1, forS, fSl, dMerge, dPut, dHas, dGet, ft_burns, ft_home, ft_mode, ft_moves, ft_now, ft_other, ft_place,cs_told, ret_told] <;> first | rfl | (rw [← h4]; done) | (rw [← h4]; rfl) | (rw [← h4, ← h5]; done) | (rw [← h4, ← h5]; rfl))
    all_goals (simp [b_law_deed_t0, key_eq (p := p) hL hM hh, lto_eq, hL2, deedF, dp4, h0, h1, s1, s17, gq, s2, s3, h4, st_1, st_3, st_s3, Md.eta, Md.to, ↓p_bind, ↓p_st, ↓p_seq, ↓p_if, ↓p_ifE, ↓p_and, ↓p_or, ↓p_not, ↓p_bool, ↓p_ofB, ↓p_C, ↓p_var, ↓p_op2, ↓p_op1, ↓p_nil, ↓p_cons, ↓p_app, ↓p_call, ↓p_tup, ↓p_lst, ↓p_lstR, ↓p_fld, ↓p_meth, ↓p_make, ↓p_tru, ↓p_orV, ↓p_andV, ↓p_bm, ↓p_told, ↓p_set, ↓p_exp, ↓p_ret, ↓p_retN, ↓p_skip, ↓p_raise, ↓p_brk, ↓p_cnt, ↓p_body, ↓p_asg, ↓p_par, ↓p_setFld, ↓p_setSub, ↓p_augVar, ↓p_chain, ↓p_fmt, ↓p_js0, ↓p_js1, ↓p_iv, ↓p_ia, ↓p_for, ↓p_noP, ↓p_pt, ↓p_sl, ↓p_pairs0, ↓p_pairs1, ↓p_dct, ↓p_dctR, ↓p_dctR0, ↓p_yes, ↓p_lc, ↓p_gtup, ↓p_gsum, ↓p_gsorted, ↓p_gmin, ↓p_gmax, ↓p_gany, ↓p_gall, ↓p_lcT, ↓p_byT, wipeT, rngV2, fList, fCount, fIndex, okT, tru, fEqG, drF_s, drF_non, drF_bl, drF_int, drF_str, fEqP, deR, dp, teq_ss, teq_ii, teq_bb, teq_nn, teq_sn, teq_ns, teq_in, teq_ni, teq_bn, teq_nb, teq_si, teq_is, teq_sb, teq_bs, teq_ll, teq_tt, teq_ln, teq_tn, teqL_nn, teqL_cc, teqL_e, teqL_e2, fAdd, fSub, fMul, fDiv, fMod, fPow, fNeg, fLt, fLe, fGt, fGe, fIs, fIsN, isNon, smallI, putFld, rdFld, fIAdd, fPut, fIx, fTix, fstIx, fAbs, fMax2, fMin2, fMax3, fMin3, fInt, fLen, fStr, isDR, isLR, isLs, fAppend, fUpd, dcOf, isRef, lsW, lsOf, kEq, isKey, okD, stL, gTp, gC, gN, gZ, fInG, atI_lit, atI_0, atI_1, atI_m1, cutL_from, cutL_from1, cutL_to, cutL_to1, L2.ixN, emp_app, List.isEmpty_cons, List.isEmpty_nil, Bool.and_false, lt_line, le_line, srcV, rngV1, forS, fSl, dMerge, dPut, dHas, dGet, ft_burns, ft_home, ft_mode, ft_moves, ft_now, ft_other, ft_place,cs_told, ret_told] <;> first | rfl | (rw [← h4]; done) | (rw [← h4]; rfl) | (rw [← h4, ← h5]; done) | (rw [← h4, ← h5]; rfl))
theorem deed_D (s4 : s < 12) (s3 : ¬ s < 10) : b_law_deed_t0 [.ref 0, .ref 1, .ref 3, .bl (decide (d.now ≤ t)), .un, .str d.mode, .int t, .int p, .int s, .un, .un] (st D d d) = .rt (.bl true) (st (dp4 s D) ((deedF s p t (D.k 4) d).getD d) ((deedF s p t (D.k 4) d).getD d)) := by
  have hL2 : d.rows.length < 300 := by omega
  have s1 : ¬ s < 3 := by omega
  have s2 : ¬ s < 7 := by omega
  have s17 : s < 17 := by omega
  by_cases h0 : t < d.now
  · have h1 : ¬ d.now ≤ t := by omega
    simp [b_law_deed_t0, clear_eq (p := p) hL hM, deedF, dp4, h0, h1, s1, s2, s3, s4, s17, st_1, st_3, st_s3, Md.eta, ↓p_bind, ↓p_st, ↓p_seq, ↓p_if, ↓p_ifE, ↓p_and, ↓p_or, ↓p_not, ↓p_bool, ↓p_ofB, ↓p_C, ↓p_var, ↓p_op2, ↓p_op1, ↓p_nil, ↓p_cons, ↓p_app, ↓p_call, ↓p_tup, ↓p_lst, ↓p_lstR, ↓p_fld, ↓p_meth, ↓p_make, ↓p_tru, ↓p_orV, ↓p_andV, ↓p_bm, ↓p_told, ↓p_set, ↓p_exp, ↓p_ret, ↓p_retN, ↓p_skip, ↓p_raise, ↓p_brk, ↓p_cnt, ↓p_body, ↓p_asg, ↓p_par, ↓p_setFld, ↓p_setSub, ↓p_augVar, ↓p_chain, ↓p_fmt, ↓p_js0, ↓p_js1, ↓p_iv, ↓p_ia, ↓p_for, ↓p_noP, ↓p_pt, ↓p_sl, ↓p_pairs0, ↓p_pairs1, ↓p_dct, ↓p_dctR, ↓p_dctR0, ↓p_yes, ↓p_lc, ↓p_gtup, ↓p_gsum, ↓p_gsorted, ↓p_gmin, ↓p_gmax, ↓p_gany, ↓p_gall, ↓p_lcT, ↓p_byT, wipeT, rngV2, fList, fCount, fIndex, okT, tru, fEqG, drF_s, drF_non, drF_bl, drF_int, drF_str, fEqP, deR, dp, teq_ss, teq_ii, teq_bb, teq_nn, teq_sn, teq_ns, teq_in, teq_ni, teq_bn, teq_nb, teq_si, teq_is, teq_sb, teq_bs, teq_ll, teq_tt, teq_ln, teq_tn, teqL_nn, teqL_cc, teqL_e, teqL_e2, fAdd, fSub, fMul, fDiv, fMod, fPow, fNeg, fLt, fLe, fGt, fGe, fIs, fIsN, isNon, smallI, putFld, rdFld, fIAdd, fPut, fIx, fTix, fstIx, fAbs, fMax2, fMin2, fMax3, fMin3, fInt, fLen, fStr, isDR, isLR, isLs, fAppend, fUpd, dcOf, isRef, lsW, lsOf, kEq, isKey, okD, stL, gTp, gC, gN, gZ, fInG, atI_lit, atI_0, atI_1, atI_m1, cutL_from, cutL_from1, cutL_to, cutL_to1, L2.ixN, emp_app, List.isEmpty_cons, List.isEmpty_nil, Bool.and_false, lt_line, le_line, srcV, rngV1, forS, fSl, dMerge, dPut, dHas, dGet, ft_burns, ft_home, ft_mode, ft_moves, ft_now, ft_other, ft_place,cs_told, ret_told]
  · have h1 : d.now ≤ t := by omega
    by_cases h5 : d.burns = [] <;> rcases id hM with h4 | h4 | h4 | h4 | h4 | h4 <;> (simp [b_law_deed_t0, clear_eq (p := p) hL hM, lto_eq, hL2, deedF, dp4, h0, h1, s1, s2, s17, s3, s4, h4, h5, st_1, st_3, st_s3, Md.eta, Md.to, ↓p_bind, ↓p_st, ↓p_seq, ↓p_if, ↓p_ifE, ↓p_and, ↓p_or, ↓p_not, ↓p_bool, ↓p_ofB, ↓p_C, ↓p_var, ↓p_op2, ↓p_op1, ↓p_nil, ↓p_cons, ↓p_app, ↓p_call, ↓p_tup, ↓p_lst, ↓p_lstR, ↓p_fld, ↓p_meth, ↓p_make, ↓p_tru, ↓p_orV, ↓p_andV, ↓p_bm, ↓p_told, ↓p_set, ↓p_exp, ↓p_ret, ↓p_retN, ↓p_skip, ↓p_raise, ↓p_brk, ↓p_cnt, ↓p_body, ↓p_asg, ↓p_par, ↓p_setFld, ↓p_setSub, ↓p_augVar, ↓p_chain, ↓p_fmt, ↓p_js0, ↓p_js1, ↓p_iv, ↓p_ia, ↓p_for, ↓p_noP, ↓p_pt, ↓p_sl, ↓p_pairs0, ↓p_pairs1, ↓p_dct, ↓p_dctR, ↓p_dctR0, ↓p_yes, ↓p_lc, ↓p_gtup, ↓p_gsum, ↓p_gsorted, ↓p_gmin, ↓p_gmax, ↓p_gany, ↓p_gall, ↓p_lcT, ↓p_byT, wipeT, rngV2, fList, fCount, fIndex, okT, tru, fEqG, drF_s, drF_non, drF_bl, drF_int, drF_str, fEqP, deR, dp, teq_ss, teq_ii, teq_bb, teq_nn, teq_sn, teq_ns, teq_in, teq_ni, teq_bn, teq_nb, teq_si, teq_is, teq_sb, teq_bs, teq_ll, teq_tt, teq_ln, teq_tn, teqL_nn, teqL_cc, teqL_e, teqL_e2, fAdd, fSub, fMul, fDiv, fMod, fPow, fNeg, fLt, fLe, fGt, fGe, fIs, fIsN, isNon, smallI, putFld, rdFld, fIAdd, fPut, fIx, fTix, fstIx, fAbs, fMax2, fMin2, fMax3, fMin3, fInt, fLen, fStr, isDR, isLR, isLs, fAppend, fUpd, dcOf, isRef, lsW, lsOf, kEq, isKey, okD, stL, gTp, gC, gN, gZ, fInG, atI_lit, atI_0, atI_1, atI_m1, cutL_from, cutL_from1, cutL_to, cutL_to1, L2.ixN, emp_app, List.isEmpty_cons, List.isEmpty_nil, Bool.and_false, lt_line, le_line, srcV, rngV1, forS, fSl, dMerge, dPut, dHas, dGet, ft_burns, ft_home, ft_mode, ft_moves, ft_now, ft_other, ft_place,cs_told, ret_told] <;> first | rfl | (rw [← h4]; done) | (rw [← h4]; rfl) | (rw [← h4, ← h5]; done) | (rw [← h4, ← h5]; rfl))
theorem deed_F (s5 : s = 12) : b_law_deed_t0 [.ref 0, .ref 1, .ref 3, .bl (decide (d.now ≤ t)), .un, .str d.mode, .int t, .int p, .int s, .un, .un] (st D d d) = .rt (.bl true) (st (dp4 s D) ((deedF s p t (D.k 4) d).getD d) ((deedF s p t (D.k 4) d).getD d)) := by
  have hL2 : d.rows.length < 300 := by omega
  by_cases h0 : t < d.now
  · have h1 : ¬ d.now ≤ t := by omega
    subst s5
    simp [b_law_deed_t0, own_eq (p := p) hL hM, deedF, dp4, h0, h1, st_1, st_3, st_s3, Md.eta, ↓p_bind, ↓p_st, ↓p_seq, ↓p_if, ↓p_ifE, ↓p_and, ↓p_or, ↓p_not, ↓p_bool, ↓p_ofB, ↓p_C, ↓p_var, ↓p_op2, ↓p_op1, ↓p_nil, ↓p_cons, ↓p_app, ↓p_call, ↓p_tup, ↓p_lst, ↓p_lstR, ↓p_fld, ↓p_meth, ↓p_make, ↓p_tru, ↓p_orV, ↓p_andV, ↓p_bm, ↓p_told, ↓p_set, ↓p_exp, ↓p_ret, ↓p_retN, ↓p_skip, ↓p_raise, ↓p_brk, ↓p_cnt, ↓p_body, ↓p_asg, ↓p_par, ↓p_setFld, ↓p_setSub, ↓p_augVar, ↓p_chain, ↓p_fmt, ↓p_js0, ↓p_js1, ↓p_iv, ↓p_ia, ↓p_for, ↓p_noP, ↓p_pt, ↓p_sl, ↓p_pairs0, ↓p_pairs1, ↓p_dct, ↓p_dctR, ↓p_dctR0, ↓p_yes, ↓p_lc, ↓p_gtup, ↓p_gsum, ↓p_gsorted, ↓p_gmin, ↓p_gmax, ↓p_gany, ↓p_gall, ↓p_lcT, ↓p_byT, wipeT, rngV2, fList, fCount, fIndex, okT, tru, fEqG, drF_s, drF_non, drF_bl, drF_int, drF_str, fEqP, deR, dp, teq_ss, teq_ii, teq_bb, teq_nn, teq_sn, teq_ns, teq_in, teq_ni, teq_bn, teq_nb, teq_si, teq_is, teq_sb, teq_bs, teq_ll, teq_tt, teq_ln, teq_tn, teqL_nn, teqL_cc, teqL_e, teqL_e2, fAdd, fSub, fMul, fDiv, fMod, fPow, fNeg, fLt, fLe, fGt, fGe, fIs, fIsN, isNon, smallI, putFld, rdFld, fIAdd, fPut, fIx, fTix, fstIx, fAbs, fMax2, fMin2, fMax3, fMin3, fInt, fLen, fStr, isDR, isLR, isLs, fAppend, fUpd, dcOf, isRef, lsW, lsOf, kEq, isKey, okD, stL, gTp, gC, gN, gZ, fInG, atI_lit, atI_0, atI_1, atI_m1, cutL_from, cutL_from1, cutL_to, cutL_to1, L2.ixN, emp_app, List.isEmpty_cons, List.isEmpty_nil, Bool.and_false, lt_line, le_line, srcV, rngV1, forS, fSl, dMerge, dPut, dHas, dGet, ft_burns, ft_home, ft_mode, ft_moves, ft_now, ft_other, ft_place,cs_told, ret_told]
  · have h1 : d.now ≤ t := by omega
    subst s5
    rcases id hM with h4 | h4 | h4 | h4 | h4 | h4 <;> (simp [b_law_deed_t0, own_eq (p := p) hL hM, lto_eq, hL2, deedF, dp4, h0, h1, h4, st_1, st_3, st_s3, Md.eta, Md.to, ↓p_bind, ↓p_st, ↓p_seq, ↓p_if, ↓p_ifE, ↓p_and, ↓p_or, ↓p_not, ↓p_bool, ↓p_ofB, ↓p_C, ↓p_var, ↓p_op2, ↓p_op1, ↓p_nil, ↓p_cons, ↓p_app, ↓p_call, ↓p_tup, ↓p_lst, ↓p_lstR, ↓p_fld, ↓p_meth, ↓p_make, ↓p_tru, ↓p_orV, ↓p_andV, ↓p_bm, ↓p_told, ↓p_set, ↓p_exp, ↓p_ret, ↓p_retN, ↓p_skip, ↓p_raise, ↓p_brk, ↓p_cnt, ↓p_body, ↓p_asg, ↓p_par, ↓p_setFld, ↓p_setSub, ↓p_augVar, ↓p_chain, ↓p_fmt, ↓p_js0, ↓p_js1, ↓p_iv, ↓p_ia, ↓p_for, ↓p_noP, ↓p_pt, ↓p_sl, ↓p_pairs0, ↓p_pairs1, ↓p_dct, ↓p_dctR, ↓p_dctR0, ↓p_yes, ↓p_lc, ↓p_gtup, ↓p_gsum, ↓p_gsorted, ↓p_gmin, ↓p_gmax, ↓p_gany, ↓p_gall, ↓p_lcT, ↓p_byT, wipeT, rngV2, fList, fCount, fIndex, okT, tru, fEqG, drF_s, drF_non, drF_bl, drF_int, drF_str, fEqP, deR, dp, teq_ss, teq_ii, teq_bb, teq_nn, teq_sn, teq_ns, teq_in, teq_ni, teq_bn, teq_nb, teq_si, teq_is, teq_sb, teq_bs, teq_ll, teq_tt, teq_ln, teq_tn, teqL_nn, teqL_cc, teqL_e, teqL_e2, fAdd, fSub, fMul, fDiv, fMod, fPow, fNeg, fLt, fLe, fGt, fGe, fIs, fIsN, isNon, smallI, putFld, rdFld, fIAdd, fPut, fIx, fTix, fstIx, fAbs, fMax2, fMin2, fMax3, fMin3, fInt, fLen, fStr, isDR, isLR, isLs, fAppend, fUpd, dcOf, isRef, lsW, lsOf, kEq, isKey, okD, stL, gTp, gC, gN, gZ, fInG, atI_lit, atI_0, atI_1, atI_m1, cutL_from, cutL_from1, cutL_to, cutL_to1, L2.ixN, emp_app, List.isEmpty_cons, List.isEmpty_nil, Bool.and_false, lt_line, le_line, srcV, rngV1, forS, fSl, dMerge, dPut, dHas, dGet, ft_burns, ft_home, ft_mode, ft_moves, ft_now, ft_other, ft_place,cs_told, ret_told] <;> first | rfl | (rw [← h4]; done) | (rw [← h4]; rfl) | (rw [← h4, ← h5]; done) | (rw [← h4, ← h5]; rfl))
theorem deed_G (s6 : s < 15) (s5 : 12 < s) : b_law_deed_t0 [.ref 0, .ref 1, .ref 3, .bl (decide (d.now ≤ t)), .un, .str d.mode, .int t, .int p, .int s, .un, .un] (st D d d) = .rt (.bl true) (st (dp4 s D) ((deedF s p t (D.k 4) d).getD d) ((deedF s p t (D.k 4) d).getD d)) := by
  have hL2 : d.rows.length < 300 := by omega
  have s1 : ¬ s < 3 := by omega
  have s2 : ¬ s < 7 := by omega
  have s3 : ¬ s < 10 := by omega
  have s4 : ¬ s < 12 := by omega
  have s12 : ¬ s = 12 := by omega
  have s17 : s < 17 := by omega
  by_cases h0 : t < d.now
  · have h1 : ¬ d.now ≤ t := by omega
    simp [b_law_deed_t0, back_eq (p := p) hL hM, deedF, dp4, h0, h1, s1, s2, s3, s4, s12, s6, s17, st_1, st_3, st_s3, Md.eta, ↓p_bind, ↓p_st, ↓p_seq, ↓p_if, ↓p_ifE, ↓p_and, ↓p_or, ↓p_not, ↓p_bool, ↓p_ofB, ↓p_C, ↓p_var, ↓p_op2, ↓p_op1, ↓p_nil, ↓p_cons, ↓p_app, ↓p_call, ↓p_tup, ↓p_lst, ↓p_lstR, ↓p_fld, ↓p_meth, ↓p_make, ↓p_tru, ↓p_orV, ↓p_andV, ↓p_bm, ↓p_told, ↓p_set, ↓p_exp, ↓p_ret, ↓p_retN, ↓p_skip, ↓p_raise, ↓p_brk, ↓p_cnt, ↓p_body, ↓p_asg, ↓p_par, ↓p_setFld, ↓p_setSub, ↓p_augVar, ↓p_chain, ↓p_fmt, ↓p_js0, ↓p_js1, ↓p_iv, ↓p_ia, ↓p_for, ↓p_noP, ↓p_pt, ↓p_sl, ↓p_pairs0, ↓p_pairs1, ↓p_dct, ↓p_dctR, ↓p_dctR0, ↓p_yes, ↓p_lc, ↓p_gtup, ↓p_gsum, ↓p_gsorted, ↓p_gmin, ↓p_gmax, ↓p_gany, ↓p_gall, ↓p_lcT, ↓p_byT, wipeT, rngV2, fList, fCount, fIndex, okT, tru, fEqG, drF_s, drF_non, drF_bl, drF_int, drF_str, fEqP, deR, dp, teq_ss, teq_ii, teq_bb, teq_nn, teq_sn, teq_ns, teq_in, teq_ni, teq_bn, teq_nb, teq_si, teq_is, teq_sb, teq_bs, teq_ll, teq_tt, teq_ln, teq_tn, teqL_nn, teqL_cc, teqL_e, teqL_e2, fAdd, fSub, fMul, fDiv, fMod, fPow, fNeg, fLt, fLe, fGt, fGe, fIs, fIsN, isNon, smallI, putFld, rdFld, fIAdd, fPut, fIx, fTix, fstIx, fAbs, fMax2, fMin2, fMax3, fMin3, fInt, fLen, fStr, isDR, isLR, isLs, fAppend, fUpd, dcOf, isRef, lsW, lsOf, kEq, isKey, okD, stL, gTp, gC, gN, gZ, fInG, atI_lit, atI_0, atI_1, atI_m1, cutL_from, cutL_from1, cutL_to, cutL_to1, L2.ixN, emp_app, List.isEmpty_cons, List.isEmpty_nil, Bool.and_false, lt_line, le_line, srcV, rngV1, forS, fSl, dMerge, dPut, dHas, dGet, ft_burns, ft_home, ft_mode, ft_moves, ft_now, ft_other, ft_place,cs_told, ret_told]
  · have h1 : d.now ≤ t := by omega
    by_cases h5 : d.burns = [] <;> rcases id hM with h4 | h4 | h4 | h4 | h4 | h4 <;> (simp [b_law_deed_t0, back_eq (p := p) hL hM, lto_eq, hL2, deedF, dp4, h0, h1, s1, s2, s3, s4, s12, s17, s6, h4, h5, st_1, st_3, st_s3, Md.eta, Md.to, ↓p_bind, ↓p_st, ↓p_seq, ↓p_if, ↓p_ifE, ↓p_and, ↓p_or, ↓p_not, ↓p_bool, ↓p_ofB, ↓p_C, ↓p_var, ↓p_op2, ↓p_op1, ↓p_nil, ↓p_cons, ↓p_app, ↓p_call, ↓p_tup, ↓p_lst, ↓p_lstR, ↓p_fld, ↓p_meth, ↓p_make, ↓p_tru, ↓p_orV, ↓p_andV, ↓p_bm, ↓p_told, ↓p_set, ↓p_exp, ↓p_ret, ↓p_retN, ↓p_skip, ↓p_raise, ↓p_brk, ↓p_cnt, ↓p_body, ↓p_asg, ↓p_par, ↓p_setFld, ↓p_setSub, ↓p_augVar, ↓p_chain, ↓p_fmt, ↓p_js0, ↓p_js1, ↓p_iv, ↓p_ia, ↓p_for, ↓p_noP, ↓p_pt, ↓p_sl, ↓p_pairs0, ↓p_pairs1, ↓p_dct, ↓p_dctR, ↓p_dctR0, ↓p_yes, ↓p_lc, ↓p_gtup, ↓p_gsum, ↓p_gsorted, ↓p_gmin, ↓p_gmax, ↓p_gany, ↓p_gall, ↓p_lcT, ↓p_byT, wipeT, rngV2, fList, fCount, fIndex, okT, tru, fEqG, drF_s, drF_non, drF_bl, drF_int, drF_str, fEqP, deR, dp, teq_ss, teq_ii, teq_bb, teq_nn, teq_sn, teq_ns, teq_in, teq_ni, teq_bn, teq_nb, teq_si, teq_is, teq_sb, teq_bs, teq_ll, teq_tt, teq_ln, teq_tn, teqL_nn, teqL_cc, teqL_e, teqL_e2, fAdd, fSub, fMul, fDiv, fMod, fPow, fNeg, fLt, fLe, fGt, fGe, fIs, fIsN, isNon, smallI, putFld, rdFld, fIAdd, fPut, fIx, fTix, fstIx, fAbs, fMax2, fMin2, fMax3, fMin3, fInt, fLen, fStr, isDR, isLR, isLs, fAppend, fUpd, dcOf, isRef, lsW, lsOf, kEq, isKey, okD, stL, gTp, gC, gN, gZ, fInG, atI_lit, atI_0, atI_1, atI_m1, cutL_from, cutL_from1, cutL_to, cutL_to1, L2.ixN, emp_app, List.isEmpty_cons, List.isEmpty_nil, Bool.and_false, lt_line, le_line, srcV, rngV1, forS, fSl, dMerge, dPut, dHas, dGet, ft_burns, ft_home, ft_mode, ft_moves, ft_now, ft_other, ft_place,cs_told, ret_told] <;> first | rfl | (rw [← h4]; done) | (rw [← h4]; rfl) | (rw [← h4, ← h5]; done) | (rw [← h4, ← h5]; rfl))
theorem deed_I (s7 : s < 17) (s6 : ¬ s < 15) : b_law_deed_t0 [.ref 0, .ref 1, .ref 3, .bl (decide (d.now ≤ t)), .un, .str d.mode, .int t, .int p, .int s, .un, .un] (st D d d) = .rt (.bl true) (st (dp4 s D) ((deedF s p t (D.k 4) d).getD d) ((deedF s p t (D.k 4) d).getD d)) := by
  have hL2 : d.rows.length < 300 := by omega
  have s1 : ¬ s < 3 := by omega
  have s2 : ¬ s < 7 := by omega
  have s3 : ¬ s < 10 := by omega
  have s4 : ¬ s < 12 := by omega
  have s12 : ¬ s = 12 := by omega
  by_cases h0 : t < d.now
  · have h1 : ¬ d.now ≤ t := by omega
    simp [b_law_deed_t0, care_eq (p := p) hL hM, deedF, dp4, h0, h1, s1, s2, s3, s4, s12, s6, s7, st_1, st_3, st_s3, Md.eta, ↓p_bind, ↓p_st, ↓p_seq, ↓p_if, ↓p_ifE, ↓p_and, ↓p_or, ↓p_not, ↓p_bool, ↓p_ofB, ↓p_C, ↓p_var, ↓p_op2, ↓p_op1, ↓p_nil, ↓p_cons, ↓p_app, ↓p_call, ↓p_tup, ↓p_lst, ↓p_lstR, ↓p_fld, ↓p_meth, ↓p_make, ↓p_tru, ↓p_orV, ↓p_andV, ↓p_bm, ↓p_told, ↓p_set, ↓p_exp, ↓p_ret, ↓p_retN, ↓p_skip, ↓p_raise, ↓p_brk, ↓p_cnt, ↓p_body, ↓p_asg, ↓p_par, ↓p_setFld, ↓p_setSub, ↓p_augVar, ↓p_chain, ↓p_fmt, ↓p_js0, ↓p_js1, ↓p_iv, ↓p_ia, ↓p_for, ↓p_noP, ↓p_pt, ↓p_sl, ↓p_pairs0, ↓p_pairs1, ↓p_dct, ↓p_dctR, ↓p_dctR0, ↓p_yes, ↓p_lc, ↓p_gtup, ↓p_gsum, ↓p_gsorted, ↓p_gmin, ↓p_gmax, ↓p_gany, ↓p_gall, ↓p_lcT, ↓p_byT, wipeT, rngV2, fList, fCount, fIndex, okT, tru, fEqG, drF_s, drF_non, drF_bl, drF_int, drF_str, fEqP, deR, dp, teq_ss, teq_ii, teq_bb, teq_nn, teq_sn, teq_ns, teq_in, teq_ni, teq_bn, teq_nb, teq_si, teq_is, teq_sb, teq_bs, teq_ll, teq_tt, teq_ln, teq_tn, teqL_nn, teqL_cc, teqL_e, teqL_e2, fAdd, fSub, fMul, fDiv, fMod, fPow, fNeg, fLt, fLe, fGt, fGe, fIs, fIsN, isNon, smallI, putFld, rdFld, fIAdd, fPut, fIx, fTix, fstIx, fAbs, fMax2, fMin2, fMax3, fMin3, fInt, fLen, fStr, isDR, isLR, isLs, fAppend, fUpd, dcOf, isRef, lsW, lsOf, kEq, isKey, okD, stL, gTp, gC, gN, gZ, fInG, atI_lit, atI_0, atI_1, atI_m1, cutL_from, cutL_from1, cutL_to, cutL_to1, L2.ixN, emp_app, List.isEmpty_cons, List.isEmpty_nil, Bool.and_false, lt_line, le_line, srcV, rngV1, forS, fSl, dMerge, dPut, dHas, dGet, ft_burns, ft_home, ft_mode, ft_moves, ft_now, ft_other, ft_place,cs_told, ret_told]
  · have h1 : d.now ≤ t := by omega
    rcases id hM with h4 | h4 | h4 | h4 | h4 | h4 <;> (simp [b_law_deed_t0, care_eq (p := p) hL hM, lto_eq, hL2, deedF, dp4, h0, h1, s1, s2, s3, s4, s12, s6, s7, h4, st_1, st_3, st_s3, Md.eta, Md.to, ↓p_bind, ↓p_st, ↓p_seq, ↓p_if, ↓p_ifE, ↓p_and, ↓p_or, ↓p_not, ↓p_bool, ↓p_ofB, ↓p_C, ↓p_var, ↓p_op2, ↓p_op1, ↓p_nil, ↓p_cons, ↓p_app, ↓p_call, ↓p_tup, ↓p_lst, ↓p_lstR, ↓p_fld, ↓p_meth, ↓p_make, ↓p_tru, ↓p_orV, ↓p_andV, ↓p_bm, ↓p_told, ↓p_set, ↓p_exp, ↓p_ret, ↓p_retN, ↓p_skip, ↓p_raise, ↓p_brk, ↓p_cnt, ↓p_body, ↓p_asg, ↓p_par, ↓p_setFld, ↓p_setSub, ↓p_augVar, ↓p_chain, ↓p_fmt, ↓p_js0, ↓p_js1, ↓p_iv, ↓p_ia, ↓p_for, ↓p_noP, ↓p_pt, ↓p_sl, ↓p_pairs0, ↓p_pairs1, ↓p_dct, ↓p_dctR, ↓p_dctR0, ↓p_yes, ↓p_lc, ↓p_gtup, ↓p_gsum, ↓p_gsorted, ↓p_gmin, ↓p_gmax, ↓p_gany, ↓p_gall, ↓p_lcT, ↓p_byT, wipeT, rngV2, fList, fCount, fIndex, okT, tru, fEqG, drF_s, drF_non, drF_bl, drF_int, drF_str, fEqP, deR, dp, teq_ss, teq_ii, teq_bb, teq_nn, teq_sn, teq_ns, teq_in, teq_ni, teq_bn, teq_nb, teq_si, teq_is, teq_sb, teq_bs, teq_ll, teq_tt, teq_ln, teq_tn, teqL_nn, teqL_cc, teqL_e, teqL_e2, fAdd, fSub, fMul, fDiv, fMod, fPow, fNeg, fLt, fLe, fGt, fGe, fIs, fIsN, isNon, smallI, putFld, rdFld, fIAdd, fPut, fIx, fTix, fstIx, fAbs, fMax2, fMin2, fMax3, fMin3, fInt, fLen, fStr, isDR, isLR, isLs, fAppend, fUpd, dcOf, isRef, lsW, lsOf, kEq, isKey, okD, stL, gTp, gC, gN, gZ, fInG, atI_lit, atI_0, atI_1, atI_m1, cutL_from, cutL_from1, cutL_to, cutL_to1, L2.ixN, emp_app, List.isEmpty_cons, List.isEmpty_nil, Bool.and_false, lt_line, le_line, srcV, rngV1, forS, fSl, dMerge, dPut, dHas, dGet, ft_burns, ft_home, ft_mode, ft_moves, ft_now, ft_other, ft_place,cs_told, ret_told] <;> first | rfl | (rw [← h4]; done) | (rw [← h4]; rfl) | (rw [← h4, ← h5]; done) | (rw [← h4, ← h5]; rfl))
theorem deed_J (s7 : ¬ s < 17) : b_law_deed_t0 [.ref 0, .ref 1, .ref 3, .bl (decide (d.now ≤ t)), .un, .str d.mode, .int t, .int p, .int s, .un, .un] (st D d d) = .rt (.bl true) (st (dp4 s D) ((deedF s p t (D.k 4) d).getD d) ((deedF s p t (D.k 4) d).getD d)) := by
  have hL2 : d.rows.length < 300 := by omega
  have k0 := D.lo (m := 4) (by decide)
  have k1 := D.hi (m := 4) (by decide)
  have s1 : ¬ s < 3 := by omega
  have s2 : ¬ s < 7 := by omega
  have s3 : ¬ s < 10 := by omega
  have s4 : ¬ s < 12 := by omega
  have s12 : ¬ s = 12 := by omega
  have s6 : ¬ s < 15 := by omega
  by_cases hk : D.k 4 < 3
  · have fq := fun D' e => fail_b (D := D') (e := e) (t := t) (p := p) hL hM k0 hk
    have kd : (D.k 4).fdiv 3 = 0 := by rw [Int.fdiv_eq_ediv_of_nonneg _ (by decide)]; omega
    by_cases h0 : t < d.now
    · have h1 : ¬ d.now ≤ t := by omega
      simp [b_law_deed_t0, st_roll, fq, kd, deedF, dp4, h0, h1, s1, s2, s3, s4, s12, s6, s7, st_1, st_3, st_s3, Md.eta, ↓p_bind, ↓p_st, ↓p_seq, ↓p_if, ↓p_ifE, ↓p_and, ↓p_or, ↓p_not, ↓p_bool, ↓p_ofB, ↓p_C, ↓p_var, ↓p_op2, ↓p_op1, ↓p_nil, ↓p_cons, ↓p_app, ↓p_call, ↓p_tup, ↓p_lst, ↓p_lstR, ↓p_fld, ↓p_meth, ↓p_make, ↓p_tru, ↓p_orV, ↓p_andV, ↓p_bm, ↓p_told, ↓p_set, ↓p_exp, ↓p_ret, ↓p_retN, ↓p_skip, ↓p_raise, ↓p_brk, ↓p_cnt, ↓p_body, ↓p_asg, ↓p_par, ↓p_setFld, ↓p_setSub, ↓p_augVar, ↓p_chain, ↓p_fmt, ↓p_js0, ↓p_js1, ↓p_iv, ↓p_ia, ↓p_for, ↓p_noP, ↓p_pt, ↓p_sl, ↓p_pairs0, ↓p_pairs1, ↓p_dct, ↓p_dctR, ↓p_dctR0, ↓p_yes, ↓p_lc, ↓p_gtup, ↓p_gsum, ↓p_gsorted, ↓p_gmin, ↓p_gmax, ↓p_gany, ↓p_gall, ↓p_lcT, ↓p_byT, wipeT, rngV2, fList, fCount, fIndex, okT, tru, fEqG, drF_s, drF_non, drF_bl, drF_int, drF_str, fEqP, deR, dp, teq_ss, teq_ii, teq_bb, teq_nn, teq_sn, teq_ns, teq_in, teq_ni, teq_bn, teq_nb, teq_si, teq_is, teq_sb, teq_bs, teq_ll, teq_tt, teq_ln, teq_tn, teqL_nn, teqL_cc, teqL_e, teqL_e2, fAdd, fSub, fMul, fDiv, fMod, fPow, fNeg, fLt, fLe, fGt, fGe, fIs, fIsN, isNon, smallI, putFld, rdFld, fIAdd, fPut, fIx, fTix, fstIx, fAbs, fMax2, fMin2, fMax3, fMin3, fInt, fLen, fStr, isDR, isLR, isLs, fAppend, fUpd, dcOf, isRef, lsW, lsOf, kEq, isKey, okD, stL, gTp, gC, gN, gZ, fInG, atI_lit, atI_0, atI_1, atI_m1, cutL_from, cutL_from1, cutL_to, cutL_to1, L2.ixN, emp_app, List.isEmpty_cons, List.isEmpty_nil, Bool.and_false, lt_line, le_line, srcV, rngV1, forS, fSl, dMerge, dPut, dHas, dGet, ft_burns, ft_home, ft_mode, ft_moves, ft_now, ft_other, ft_place,cs_told, ret_told]
    · have h1 : d.now ≤ t := by omega
      rcases id hM with h4 | h4 | h4 | h4 | h4 | h4 <;> (simp [b_law_deed_t0, st_roll, fq, kd, hk, lto_eq, hL2, deedF, dp4, h0, h1, s1, s2, s3, s4, s12, s6, s7, h4, st_1, st_3, st_s3, Md.eta, Md.to, ↓p_bind, ↓p_st, ↓p_seq, ↓p_if, ↓p_ifE, ↓p_and, ↓p_or, ↓p_not, ↓p_bool, ↓p_ofB, ↓p_C, ↓p_var, ↓p_op2, ↓p_op1, ↓p_nil, ↓p_cons, ↓p_app, ↓p_call, ↓p_tup, ↓p_lst, ↓p_lstR, ↓p_fld, ↓p_meth, ↓p_make, ↓p_tru, ↓p_orV, ↓p_andV, ↓p_bm, ↓p_told, ↓p_set, ↓p_exp, ↓p_ret, ↓p_retN, ↓p_skip, ↓p_raise, ↓p_brk, ↓p_cnt, ↓p_body, ↓p_asg, ↓p_par, ↓p_setFld, ↓p_setSub, ↓p_augVar, ↓p_chain, ↓p_fmt, ↓p_js0, ↓p_js1, ↓p_iv, ↓p_ia, ↓p_for, ↓p_noP, ↓p_pt, ↓p_sl, ↓p_pairs0, ↓p_pairs1, ↓p_dct, ↓p_dctR, ↓p_dctR0, ↓p_yes, ↓p_lc, ↓p_gtup, ↓p_gsum, ↓p_gsorted, ↓p_gmin, ↓p_gmax, ↓p_gany, ↓p_gall, ↓p_lcT, ↓p_byT, wipeT, rngV2, fList, fCount, fIndex, okT, tru, fEqG, drF_s, drF_non, drF_bl, drF_int, drF_str, fEqP, deR, dp, teq_ss, teq_ii, teq_bb, teq_nn, teq_sn, teq_ns, teq_in, teq_ni, teq_bn, teq_nb, teq_si, teq_is, teq_sb, teq_bs, teq_ll, teq_tt, teq_ln, teq_tn, teqL_nn, teqL_cc, teqL_e, teqL_e2, fAdd, fSub, fMul, fDiv, fMod, fPow, fNeg, fLt, fLe, fGt, fGe, fIs, fIsN, isNon, smallI, putFld, rdFld, fIAdd, fPut, fIx, fTix, fstIx, fAbs, fMax2, fMin2, fMax3, fMin3, fInt, fLen, fStr, isDR, isLR, isLs, fAppend, fUpd, dcOf, isRef, lsW, lsOf, kEq, isKey, okD, stL, gTp, gC, gN, gZ, fInG, atI_lit, atI_0, atI_1, atI_m1, cutL_from, cutL_from1, cutL_to, cutL_to1, L2.ixN, emp_app, List.isEmpty_cons, List.isEmpty_nil, Bool.and_false, lt_line, le_line, srcV, rngV1, forS, fSl, dMerge, dPut, dHas, dGet, ft_burns, ft_home, ft_mode, ft_moves, ft_now, ft_other, ft_place,cs_told, ret_told] <;> first | rfl | (rw [← h4]; done) | (rw [← h4]; rfl))
  · have fq := fun D' e => fail_n (D := D') (e := e) (t := t) (p := p) hL hM k1 hk
    have kd : (D.k 4).fdiv 3 = 1 := by rw [Int.fdiv_eq_ediv_of_nonneg _ (by decide)]; omega
    by_cases h0 : t < d.now
    · have h1 : ¬ d.now ≤ t := by omega
      simp [b_law_deed_t0, st_roll, fq, kd, deedF, dp4, h0, h1, s1, s2, s3, s4, s12, s6, s7, st_1, st_3, st_s3, Md.eta, ↓p_bind, ↓p_st, ↓p_seq, ↓p_if, ↓p_ifE, ↓p_and, ↓p_or, ↓p_not, ↓p_bool, ↓p_ofB, ↓p_C, ↓p_var, ↓p_op2, ↓p_op1, ↓p_nil, ↓p_cons, ↓p_app, ↓p_call, ↓p_tup, ↓p_lst, ↓p_lstR, ↓p_fld, ↓p_meth, ↓p_make, ↓p_tru, ↓p_orV, ↓p_andV, ↓p_bm, ↓p_told, ↓p_set, ↓p_exp, ↓p_ret, ↓p_retN, ↓p_skip, ↓p_raise, ↓p_brk, ↓p_cnt, ↓p_body, ↓p_asg, ↓p_par, ↓p_setFld, ↓p_setSub, ↓p_augVar, ↓p_chain, ↓p_fmt, ↓p_js0, ↓p_js1, ↓p_iv, ↓p_ia, ↓p_for, ↓p_noP, ↓p_pt, ↓p_sl, ↓p_pairs0, ↓p_pairs1, ↓p_dct, ↓p_dctR, ↓p_dctR0, ↓p_yes, ↓p_lc, ↓p_gtup, ↓p_gsum, ↓p_gsorted, ↓p_gmin, ↓p_gmax, ↓p_gany, ↓p_gall, ↓p_lcT, ↓p_byT, wipeT, rngV2, fList, fCount, fIndex, okT, tru, fEqG, drF_s, drF_non, drF_bl, drF_int, drF_str, fEqP, deR, dp, teq_ss, teq_ii, teq_bb, teq_nn, teq_sn, teq_ns, teq_in, teq_ni, teq_bn, teq_nb, teq_si, teq_is, teq_sb, teq_bs, teq_ll, teq_tt, teq_ln, teq_tn, teqL_nn, teqL_cc, teqL_e, teqL_e2, fAdd, fSub, fMul, fDiv, fMod, fPow, fNeg, fLt, fLe, fGt, fGe, fIs, fIsN, isNon, smallI, putFld, rdFld, fIAdd, fPut, fIx, fTix, fstIx, fAbs, fMax2, fMin2, fMax3, fMin3, fInt, fLen, fStr, isDR, isLR, isLs, fAppend, fUpd, dcOf, isRef, lsW, lsOf, kEq, isKey, okD, stL, gTp, gC, gN, gZ, fInG, atI_lit, atI_0, atI_1, atI_m1, cutL_from, cutL_from1, cutL_to, cutL_to1, L2.ixN, emp_app, List.isEmpty_cons, List.isEmpty_nil, Bool.and_false, lt_line, le_line, srcV, rngV1, forS, fSl, dMerge, dPut, dHas, dGet, ft_burns, ft_home, ft_mode, ft_moves, ft_now, ft_other, ft_place,cs_told, ret_told]
    · have h1 : d.now ≤ t := by omega
      rcases id hM with h4 | h4 | h4 | h4 | h4 | h4 <;> (simp [b_law_deed_t0, st_roll, fq, kd, hk, lto_eq, hL2, deedF, dp4, h0, h1, s1, s2, s3, s4, s12, s6, s7, h4, st_1, st_3, st_s3, Md.eta, Md.to, ↓p_bind, ↓p_st, ↓p_seq, ↓p_if, ↓p_ifE, ↓p_and, ↓p_or, ↓p_not, ↓p_bool, ↓p_ofB, ↓p_C, ↓p_var, ↓p_op2, ↓p_op1, ↓p_nil, ↓p_cons, ↓p_app, ↓p_call, ↓p_tup, ↓p_lst, ↓p_lstR, ↓p_fld, ↓p_meth, ↓p_make, ↓p_tru, ↓p_orV, ↓p_andV, ↓p_bm, ↓p_told, ↓p_set, ↓p_exp, ↓p_ret, ↓p_retN, ↓p_skip, ↓p_raise, ↓p_brk, ↓p_cnt, ↓p_body, ↓p_asg, ↓p_par, ↓p_setFld, ↓p_setSub, ↓p_augVar, ↓p_chain, ↓p_fmt, ↓p_js0, ↓p_js1, ↓p_iv, ↓p_ia, ↓p_for, ↓p_noP, ↓p_pt, ↓p_sl, ↓p_pairs0, ↓p_pairs1, ↓p_dct, ↓p_dctR, ↓p_dctR0, ↓p_yes, ↓p_lc, ↓p_gtup, ↓p_gsum, ↓p_gsorted, ↓p_gmin, ↓p_gmax, ↓p_gany, ↓p_gall, ↓p_lcT, ↓p_byT, wipeT, rngV2, fList, fCount, fIndex, okT, tru, fEqG, drF_s, drF_non, drF_bl, drF_int, drF_str, fEqP, deR, dp, teq_ss, teq_ii, teq_bb, teq_nn, teq_sn, teq_ns, teq_in, teq_ni, teq_bn, teq_nb, teq_si, teq_is, teq_sb, teq_bs, teq_ll, teq_tt, teq_ln, teq_tn, teqL_nn, teqL_cc, teqL_e, teqL_e2, fAdd, fSub, fMul, fDiv, fMod, fPow, fNeg, fLt, fLe, fGt, fGe, fIs, fIsN, isNon, smallI, putFld, rdFld, fIAdd, fPut, fIx, fTix, fstIx, fAbs, fMax2, fMin2, fMax3, fMin3, fInt, fLen, fStr, isDR, isLR, isLs, fAppend, fUpd, dcOf, isRef, lsW, lsOf, kEq, isKey, okD, stL, gTp, gC, gN, gZ, fInG, atI_lit, atI_0, atI_1, atI_m1, cutL_from, cutL_from1, cutL_to, cutL_to1, L2.ixN, emp_app, List.isEmpty_cons, List.isEmpty_nil, Bool.and_false, lt_line, le_line, srcV, rngV1, forS, fSl, dMerge, dPut, dHas, dGet, ft_burns, ft_home, ft_mode, ft_moves, ft_now, ft_other, ft_place,cs_told, ret_told] <;> first | rfl | (rw [← h4]; done) | (rw [← h4]; rfl))
theorem deed_t : b_law_deed_t0 [.ref 0, .ref 1, .ref 3, .bl (decide (d.now ≤ t)), .un, .str d.mode, .int t, .int p, .int s, .un, .un] (st D d d) = .rt (.bl true) (st (dp4 s D) ((deedF s p t (D.k 4) d).getD d) ((deedF s p t (D.k 4) d).getD d)) := by
  by_cases s1 : s < 3
  · exact deed_A hL hM hh hp s1
  by_cases s2 : s < 7
  · exact deed_B hL hM hh hp s1 s2
  by_cases s3 : s < 10
  · exact deed_C hL hM hh hp s3 s2
  by_cases s4 : s < 12
  · exact deed_D hL hM hh hp s4 s3
  by_cases s5 : s = 12
  · exact deed_F hL hM hh hp s5
  by_cases s6 : s < 15
  · exact deed_G hL hM hh hp s6 (by omega)
  by_cases s7 : s < 17
  · exact deed_I hL hM hh hp s7 s6
  · exact deed_J hL hM hh hp s7
end
end Mi
namespace Mi
open PySem PySem.Spec PyProof.Rows
theorem deed_eq {D : Di} {d : Md} (hL : d.rows.length < 299) (hM : okM d.mode) (hh : okDec d.home = true) :
    ∃ D' s p t k, p < 100 ∧ t ≤ d.now + 8 ∧ g_law_deed [.ref 0, .ref 1, .ref 3] (st D d d) = .ok (.bl true) (st D' ((deedF s p t k d).getD d) ((deedF s p t k d).getD d)) := by
  have h1 := ((D.n 18).hi (m := 4) (by decide))
  have h2 := ((((D.n 18).n 4).n 20).hi (m := 9) (by decide))
  have b0 : ∀ b, 0 ≤ b2 b := fun b => by cases b <;> decide
  refine ⟨dp4 (D.k 18) (((((D.n 18).n 4).n 20).n 9).n 20), D.k 18, (D.n 18).k 4 - b2 (decide (((D.n 18).n 4).k 20 = 0)), d.now + (((D.n 18).n 4).n 20).k 9 - 9 * b2 (decide (((((D.n 18).n 4).n 20).n 9).k 20 = 0)), (((((D.n 18).n 4).n 20).n 9).n 20).k 4, ?_, ?_, ?_⟩
  · have := b0 (decide (((D.n 18).n 4).k 20 = 0))
    omega
  · have := b0 (decide (((((D.n 18).n 4).n 20).n 9).k 20 = 0))
    omega
  · simp [g_law_deed, b_law_deed, st_roll, st_3, ↓p_bind, ↓p_st, ↓p_seq, ↓p_if, ↓p_ifE, ↓p_and, ↓p_or, ↓p_not, ↓p_bool, ↓p_ofB, ↓p_C, ↓p_var, ↓p_op2, ↓p_op1, ↓p_nil, ↓p_cons, ↓p_app, ↓p_call, ↓p_tup, ↓p_lst, ↓p_lstR, ↓p_fld, ↓p_meth, ↓p_make, ↓p_tru, ↓p_orV, ↓p_andV, ↓p_bm, ↓p_told, ↓p_set, ↓p_exp, ↓p_ret, ↓p_retN, ↓p_skip, ↓p_raise, ↓p_brk, ↓p_cnt, ↓p_body, ↓p_asg, ↓p_par, ↓p_setFld, ↓p_setSub, ↓p_augVar, ↓p_chain, ↓p_fmt, ↓p_js0, ↓p_js1, ↓p_iv, ↓p_ia, ↓p_for, ↓p_noP, ↓p_pt, ↓p_sl, ↓p_pairs0, ↓p_pairs1, ↓p_dct, ↓p_dctR, ↓p_dctR0, ↓p_yes, ↓p_lc, ↓p_gtup, ↓p_gsum, ↓p_gsorted, ↓p_gmin, ↓p_gmax, ↓p_gany, ↓p_gall, ↓p_lcT, ↓p_byT, wipeT, rngV2, fList, fCount, fIndex, okT, tru, fEqG, drF_s, drF_non, drF_bl, drF_int, drF_str, fEqP, deR, dp, teq_ss, teq_ii, teq_bb, teq_nn, teq_sn, teq_ns, teq_in, teq_ni, teq_bn, teq_nb, teq_si, teq_is, teq_sb, teq_bs, teq_ll, teq_tt, teq_ln, teq_tn, teqL_nn, teqL_cc, teqL_e, teqL_e2, fAdd, fSub, fMul, fDiv, fMod, fPow, fNeg, fLt, fLe, fGt, fGe, fIs, fIsN, isNon, smallI, putFld, rdFld, fIAdd, fPut, fIx, fTix, fstIx, fAbs, fMax2, fMin2, fMax3, fMin3, fInt, fLen, fStr, isDR, isLR, isLs, fAppend, fUpd, dcOf, isRef, lsW, lsOf, kEq, isKey, okD, stL, gTp, gC, gN, gZ, fInG, atI_lit, atI_0, atI_1, atI_m1, cutL_from, cutL_from1, cutL_to, cutL_to1, L2.ixN, emp_app, List.isEmpty_cons, List.isEmpty_nil, Bool.and_false, lt_line, le_line, srcV, rngV1, forS, fSl, dMerge, dPut, dHas, dGet, ft_burns, ft_home, ft_mode, ft_moves, ft_now, ft_other, ft_place,cs_told, ret_told]
    rw [deed_t hL hM hh]
    have := b0 (decide (((D.n 18).n 4).k 20 = 0))
    omega
/-- a move -/
abbrev Mv := Int × List Nat × List Nat
def Mv.t (x : Mv) : T := .tup [.int x.1, .str x.2.1, .str x.2.2]
structure Inv13 (n : Nat) (d : Md) (mv : List Mv) : Prop where
  r : d.rows = mv.map Mv.t
  l : mv.length ≤ n
  m : okM d.mode
  h : 0 ≤ d.home ∧ d.home < 10
  b : d.burns ≠ [] → ¬ (d.mode = [110, 111, 114, 109, 97, 108] ∨ d.mode = [111, 119, 110])
  o : mv.Pairwise fun x y => x.1 ≤ y.1
  x : ∀ x ∈ mv, 0 ≤ x.1 ∧ x.1 ≤ d.now ∧ okM x.2.1 ∧ x.2.2.length ≤ 20
  w : 0 ≤ d.now ∧ d.now ≤ 8 * n
theorem Inv13.up {n : Nat} {d : Md} {mv : List Mv} (i : Inv13 n d mv) : Inv13 (n + 1) d mv := ⟨i.r, Nat.le_succ_of_le i.l, i.m, i.h, i.b, i.o, i.x, i.w.1, by have := i.w.2; omega⟩
theorem Inv13.at {n : Nat} {d : Md} {mv : List Mv} (i : Inv13 n d mv) {t : Int} (ht : d.now ≤ t) (h8 : t ≤ d.now + 8) (p : Int) (b : List Nat) (hb : b ≠ [] → ¬ (d.mode = [110, 111, 114, 109, 97, 108] ∨ d.mode = [111, 119, 110])) :
    Inv13 (n + 1) ⟨d.mode, p, d.home, d.other, b, d.rows, t⟩ mv :=
  ⟨i.r, Nat.le_succ_of_le i.l, i.m, i.h, hb, i.o, fun x hx => ⟨(i.x x hx).1, Int.le_trans (i.x x hx).2.1 ht, (i.x x hx).2.2⟩, by have := i.w.1; dsimp only; omega, by have := i.w.2; dsimp only; omega⟩
theorem Inv13.to {n : Nat} {d : Md} {mv : List Mv} (i : Inv13 n d mv) {t : Int} (ht : d.now ≤ t) (h8 : t ≤ d.now + 8) {m w b : List Nat} (hm : okM m) (hw : w.length ≤ 20) (hb : b ≠ [] → ¬ (m = [110, 111, 114, 109, 97, 108] ∨ m = [111, 119, 110])) :
    Inv13 (n + 1) (({ d with burns := b } : Md).to m w t) (mv ++ [(t, m, w)]) := by
  refine ⟨?_, ?_, hm, i.h, hb, ?_, ?_, ?_, ?_⟩
  · simp [Md.to, i.r, Mv.t]
  · have := i.l; simp; omega
  · refine List.pairwise_append.mpr ⟨i.o, by simp, fun x hx y hy => ?_⟩
    rw [List.mem_singleton] at hy
    subst hy
    exact Int.le_trans (i.x x hx).2.1 ht
  · intro x hx
    rcases List.mem_append.mp hx with z | z
    · exact ⟨(i.x x z).1, Int.le_trans (i.x x z).2.1 ht, (i.x x z).2.2⟩
    · rw [List.mem_singleton] at z
      subst z
      exact ⟨Int.le_trans i.w.1 ht, Int.le_refl _, hm, hw⟩
  · have := i.w.1; dsimp only [Md.to]; omega
  · have := i.w.2; dsimp only [Md.to]; omega
theorem okM_or {m : List Nat} : okM m ↔ (m = [110, 111, 114, 109, 97, 108] ∨ m = [111, 119, 110] ∨ m = [114, 101, 99, 97, 108, 108] ∨ m = [102, 105, 114, 101] ∨ m = [99, 97, 114, 101] ∨ m = [111, 117, 116]) := Iff.rfl
theorem Inv13.deed {n : Nat} {d : Md} {mv : List Mv} (i : Inv13 n d mv) {s p t k : Int} (hp : p < 100) (h8 : t ≤ d.now + 8) : ∃ mv', Inv13 (n + 1) ((deedF s p t k d).getD d) mv' := by
  have same : ∃ mv', Inv13 (n + 1) d mv' := ⟨mv, i.up⟩
  unfold deedF
  by_cases h0 : t < d.now
  · rw [if_pos h0]; exact same
  rw [if_neg h0]
  have ht : d.now ≤ t := by omega
  have ow : d.mode = [111, 119, 110] → ¬ d.mode = [110, 111, 114, 109, 97, 108] := fun e => by rw [e]; decide
  split
  · split
    · rename_i h1
      show ∃ mv', Inv13 (n + 1) (if d.mode = [110, 111, 114, 109, 97, 108] ∨ d.mode = [111, 119, 110] then _ else _) mv'
      split
      · exact ⟨_, i.to ht h8 (by simp [okM]) (by have := decT_len h1.1 (by omega); simp; omega) (by simp)⟩
      · rename_i h2
        exact ⟨_, i.at ht h8 _ _ fun _ => h2⟩
    · exact same
  split
  · split
    · exact ⟨_, i.at ht h8 _ _ i.b⟩
    · exact same
  split
  · split
    · exact ⟨_, i.to ht h8 (by simp [okM]) (by decide) (by simp)⟩
    · split
      · exact ⟨_, i.to ht h8 (by simp [okM]) (by decide) (by simp)⟩
      · exact same
  split
  · split
    · show ∃ mv', Inv13 (n + 1) (if d.mode = [114, 101, 99, 97, 108, 108] then _ else _) mv'
      split
      · exact ⟨_, i.to (b := []) ht h8 (by simp [okM]) (by decide) (by simp)⟩
      · exact ⟨_, i.at ht h8 _ _ (by simp)⟩
    · exact same
  split
  · split
    · rename_i h1
      exact ⟨_, i.to ht h8 (by simp [okM]) (by decide) (fun z => absurd (Or.inl h1) (i.b z))⟩
    · exact same
  split
  · split
    · by_cases hb : d.burns = []
      · rw [if_pos hb]
        exact ⟨_, i.to ht h8 (by simp [okM]) (by decide) (fun z => absurd hb z)⟩
      · rw [if_neg hb]
        exact ⟨_, i.to ht h8 (by simp [okM]) (by decide) (by simp)⟩
    · exact same
  split
  · split
    · exact ⟨_, i.to ht h8 (by simp [okM]) (by decide) (by simp)⟩
    · exact same
  split
  · exact ⟨_, i.to ht h8 (by simp [okM]) (by decide) (by simp)⟩
  · exact same
theorem takes_eq {D : Di} {d e : Md} : g_Mode_takes_calls [.ref 1] (st D d e) = .ok (.tup [.bl (decide (d.mode = [110, 111, 114, 109, 97, 108])), .bl (decide ([110, 111, 114, 109, 97, 108] = d.mode) || (decide ([111, 119, 110] = d.mode) || decide ([102, 105, 114, 101] = d.mode)))]) (st D d e) := by
  simp [g_Mode_takes_calls, b_Mode_takes_calls, st_1, ↓p_bind, ↓p_st, ↓p_seq, ↓p_if, ↓p_ifE, ↓p_and, ↓p_or, ↓p_not, ↓p_bool, ↓p_ofB, ↓p_C, ↓p_var, ↓p_op2, ↓p_op1, ↓p_nil, ↓p_cons, ↓p_app, ↓p_call, ↓p_tup, ↓p_lst, ↓p_lstR, ↓p_fld, ↓p_meth, ↓p_make, ↓p_tru, ↓p_orV, ↓p_andV, ↓p_bm, ↓p_told, ↓p_set, ↓p_exp, ↓p_ret, ↓p_retN, ↓p_skip, ↓p_raise, ↓p_brk, ↓p_cnt, ↓p_body, ↓p_asg, ↓p_par, ↓p_setFld, ↓p_setSub, ↓p_augVar, ↓p_chain, ↓p_fmt, ↓p_js0, ↓p_js1, ↓p_iv, ↓p_ia, ↓p_for, ↓p_noP, ↓p_pt, ↓p_sl, ↓p_pairs0, ↓p_pairs1, ↓p_dct, ↓p_dctR, ↓p_dctR0, ↓p_yes, ↓p_lc, ↓p_gtup, ↓p_gsum, ↓p_gsorted, ↓p_gmin, ↓p_gmax, ↓p_gany, ↓p_gall, ↓p_lcT, ↓p_byT, wipeT, rngV2, fList, fCount, fIndex, okT, tru, fEqG, drF_s, drF_non, drF_bl, drF_int, drF_str, fEqP, deR, dp, teq_ss, teq_ii, teq_bb, teq_nn, teq_sn, teq_ns, teq_in, teq_ni, teq_bn, teq_nb, teq_si, teq_is, teq_sb, teq_bs, teq_ll, teq_tt, teq_ln, teq_tn, teqL_nn, teqL_cc, teqL_e, teqL_e2, fAdd, fSub, fMul, fDiv, fMod, fPow, fNeg, fLt, fLe, fGt, fGe, fIs, fIsN, isNon, smallI, putFld, rdFld, fIAdd, fPut, fIx, fTix, fstIx, fAbs, fMax2, fMin2, fMax3, fMin3, fInt, fLen, fStr, isDR, isLR, isLs, fAppend, fUpd, dcOf, isRef, lsW, lsOf, kEq, isKey, okD, stL, gTp, gC, gN, gZ, fInG, atI_lit, atI_0, atI_1, atI_m1, cutL_from, cutL_from1, cutL_to, cutL_to1, L2.ixN, emp_app, List.isEmpty_cons, List.isEmpty_nil, Bool.and_false, lt_line, le_line, srcV, rngV1, forS, fSl, dMerge, dPut, dHas, dGet, ft_burns, ft_home, ft_mode, ft_moves, ft_now, ft_other, ft_place,cs_told, ret_told]
theorem door_eq {D : Di} {d e : Md} : g_Mode_door_by_itself [.ref 1] (st D d e) = .ok (.bl (decide ([110, 111, 114, 109, 97, 108] = d.mode) || (decide ([111, 119, 110] = d.mode) || decide ([114, 101, 99, 97, 108, 108] = d.mode)))) (st D d e) := by
  simp [g_Mode_door_by_itself, b_Mode_door_by_itself, st_1, ↓p_bind, ↓p_st, ↓p_seq, ↓p_if, ↓p_ifE, ↓p_and, ↓p_or, ↓p_not, ↓p_bool, ↓p_ofB, ↓p_C, ↓p_var, ↓p_op2, ↓p_op1, ↓p_nil, ↓p_cons, ↓p_app, ↓p_call, ↓p_tup, ↓p_lst, ↓p_lstR, ↓p_fld, ↓p_meth, ↓p_make, ↓p_tru, ↓p_orV, ↓p_andV, ↓p_bm, ↓p_told, ↓p_set, ↓p_exp, ↓p_ret, ↓p_retN, ↓p_skip, ↓p_raise, ↓p_brk, ↓p_cnt, ↓p_body, ↓p_asg, ↓p_par, ↓p_setFld, ↓p_setSub, ↓p_augVar, ↓p_chain, ↓p_fmt, ↓p_js0, ↓p_js1, ↓p_iv, ↓p_ia, ↓p_for, ↓p_noP, ↓p_pt, ↓p_sl, ↓p_pairs0, ↓p_pairs1, ↓p_dct, ↓p_dctR, ↓p_dctR0, ↓p_yes, ↓p_lc, ↓p_gtup, ↓p_gsum, ↓p_gsorted, ↓p_gmin, ↓p_gmax, ↓p_gany, ↓p_gall, ↓p_lcT, ↓p_byT, wipeT, rngV2, fList, fCount, fIndex, okT, tru, fEqG, drF_s, drF_non, drF_bl, drF_int, drF_str, fEqP, deR, dp, teq_ss, teq_ii, teq_bb, teq_nn, teq_sn, teq_ns, teq_in, teq_ni, teq_bn, teq_nb, teq_si, teq_is, teq_sb, teq_bs, teq_ll, teq_tt, teq_ln, teq_tn, teqL_nn, teqL_cc, teqL_e, teqL_e2, fAdd, fSub, fMul, fDiv, fMod, fPow, fNeg, fLt, fLe, fGt, fGe, fIs, fIsN, isNon, smallI, putFld, rdFld, fIAdd, fPut, fIx, fTix, fstIx, fAbs, fMax2, fMin2, fMax3, fMin3, fInt, fLen, fStr, isDR, isLR, isLs, fAppend, fUpd, dcOf, isRef, lsW, lsOf, kEq, isKey, okD, stL, gTp, gC, gN, gZ, fInG, atI_lit, atI_0, atI_1, atI_m1, cutL_from, cutL_from1, cutL_to, cutL_to1, L2.ixN, emp_app, List.isEmpty_cons, List.isEmpty_nil, Bool.and_false, lt_line, le_line, srcV, rngV1, forS, fSl, dMerge, dPut, dHas, dGet, ft_burns, ft_home, ft_mode, ft_moves, ft_now, ft_other, ft_place,cs_told, ret_told]
theorem Mv_dp {mv : List Mv} (n : Nat) : (mv.map Mv.t).all (dp (n + 1)) = true := by
  rw [List.all_eq_true]
  intro x hx
  obtain ⟨y, _, rfl⟩ := List.mem_map.mp hx
  cases n <;> rfl
theorem goal_dp {d : Md} : dp 60 d.goal = true := by unfold Md.goal; split <;> rfl
theorem turn_eq {D : Di} {n : Nat} {d : Md} {mv : List Mv} (i : Inv13 n d mv) (hn : n < 60) (x0 x2 x3 x4 x5 x7 x9 x10 x11 x12 x13 x14 x15 : T) :
    ∃ D' d' mv', Inv13 (n + 1) d' mv' ∧ b_law_f0 [x0, .ref 0, x2, x3, x4, x5, .ref 1, x7, .ref 3, x9, x10, x11, x12, x13, x14, x15] (st D d d) = .nx [x0, .ref 0, x2, x3, x4, x5, .ref 1, x7, .ref 3, x9, x10, x11, x12, x13, x14, x15] (st D' d' d') := by
  have hl := i.l
  have hL : d.rows.length < 299 := by rw [i.r, List.length_map]; omega
  obtain ⟨D', s, p, t, k, hp, h8, e⟩ := deed_eq (D := D) hL i.m (okDec_of i.h.1 (by have := i.h.2; omega))
  obtain ⟨mv', i'⟩ := i.deed (s := s) (k := k) hp h8
  generalize (deedF s p t k d).getD d = d' at e i'
  refine ⟨D', d', mv', i', ?_⟩
  have gq := goal_eq (D := D') (d := d') (e := d') (okDec_of i'.h.1 (by have := i'.h.2; omega))
  have gl := lgoal_eq (D := D') (d := d') (e := d') (okDec_of i'.h.1 (by have := i'.h.2; omega))
  have q1 : ∀ n, d'.rows.all (dp (n + 1)) = true := fun n => by rw [i'.r]; exact Mv_dp n
  have q2 : ∀ n, d'.rows.map (drF (st D' d' d') (n + 1)) = d'.rows := fun n => drFL_id (q1 n)
  have q3 : teqL d'.rows d'.rows = true := teqL_refl (q1 0)
  have q4 : drF (st D' d' d') 60 d'.goal = d'.goal := drF_id 60 _ goal_dp
  have q5 : teq d'.goal d'.goal = true := teq_refl 60 _ goal_dp
  have q6 := goal_dp (d := d')
  by_cases hb : d'.burns = []
  · simp [b_law_f0, e, st_1, st_2, st_3, gq, gl, q1, q2, q3, q4, q5, q6, takes_eq, door_eq, hb, ↓p_bind, ↓p_st, ↓p_seq, ↓p_if, ↓p_ifE, ↓p_and, ↓p_or, ↓p_not, ↓p_bool, ↓p_ofB, ↓p_C, ↓p_var, ↓p_op2, ↓p_op1, ↓p_nil, ↓p_cons, ↓p_app, ↓p_call, ↓p_tup, ↓p_lst, ↓p_lstR, ↓p_fld, ↓p_meth, ↓p_make, ↓p_tru, ↓p_orV, ↓p_andV, ↓p_bm, ↓p_told, ↓p_set, ↓p_exp, ↓p_ret, ↓p_retN, ↓p_skip, ↓p_raise, ↓p_brk, ↓p_cnt, ↓p_body, ↓p_asg, ↓p_par, ↓p_setFld, ↓p_setSub, ↓p_augVar, ↓p_chain, ↓p_fmt, ↓p_js0, ↓p_js1, ↓p_iv, ↓p_ia, ↓p_for, ↓p_noP, ↓p_pt, ↓p_sl, ↓p_pairs0, ↓p_pairs1, ↓p_dct, ↓p_dctR, ↓p_dctR0, ↓p_yes, ↓p_lc, ↓p_gtup, ↓p_gsum, ↓p_gsorted, ↓p_gmin, ↓p_gmax, ↓p_gany, ↓p_gall, ↓p_lcT, ↓p_byT, wipeT, rngV2, fList, fCount, fIndex, okT, tru, fEqG, drF_s, drF_non, drF_bl, drF_int, drF_str, fEqP, deR, dp, teq_ss, teq_ii, teq_bb, teq_nn, teq_sn, teq_ns, teq_in, teq_ni, teq_bn, teq_nb, teq_si, teq_is, teq_sb, teq_bs, teq_ll, teq_tt, teq_ln, teq_tn, teqL_nn, teqL_cc, teqL_e, teqL_e2, fAdd, fSub, fMul, fDiv, fMod, fPow, fNeg, fLt, fLe, fGt, fGe, fIs, fIsN, isNon, smallI, putFld, rdFld, fIAdd, fPut, fIx, fTix, fstIx, fAbs, fMax2, fMin2, fMax3, fMin3, fInt, fLen, fStr, isDR, isLR, isLs, fAppend, fUpd, dcOf, isRef, lsW, lsOf, kEq, isKey, okD, stL, gTp, gC, gN, gZ, fInG, atI_lit, atI_0, atI_1, atI_m1, cutL_from, cutL_from1, cutL_to, cutL_to1, L2.ixN, emp_app, List.isEmpty_cons, List.isEmpty_nil, Bool.and_false, lt_line, le_line, srcV, rngV1, forS, fSl, dMerge, dPut, dHas, dGet, ft_burns, ft_home, ft_mode, ft_moves, ft_now, ft_other, ft_place,cs_told, ret_told]
  · have hb2 := i'.b hb
    have hb3 : ¬ [110, 111, 114, 109, 97, 108] = d'.mode := fun z => hb2 (.inl z.symm)
    have hb4 : ¬ [111, 119, 110] = d'.mode := fun z => hb2 (.inr z.symm)
    simp [b_law_f0, e, st_1, st_2, st_3, gq, gl, q1, q2, q3, q4, q5, q6, takes_eq, door_eq, hb, hb3, hb4, ↓p_bind, ↓p_st, ↓p_seq, ↓p_if, ↓p_ifE, ↓p_and, ↓p_or, ↓p_not, ↓p_bool, ↓p_ofB, ↓p_C, ↓p_var, ↓p_op2, ↓p_op1, ↓p_nil, ↓p_cons, ↓p_app, ↓p_call, ↓p_tup, ↓p_lst, ↓p_lstR, ↓p_fld, ↓p_meth, ↓p_make, ↓p_tru, ↓p_orV, ↓p_andV, ↓p_bm, ↓p_told, ↓p_set, ↓p_exp, ↓p_ret, ↓p_retN, ↓p_skip, ↓p_raise, ↓p_brk, ↓p_cnt, ↓p_body, ↓p_asg, ↓p_par, ↓p_setFld, ↓p_setSub, ↓p_augVar, ↓p_chain, ↓p_fmt, ↓p_js0, ↓p_js1, ↓p_iv, ↓p_ia, ↓p_for, ↓p_noP, ↓p_pt, ↓p_sl, ↓p_pairs0, ↓p_pairs1, ↓p_dct, ↓p_dctR, ↓p_dctR0, ↓p_yes, ↓p_lc, ↓p_gtup, ↓p_gsum, ↓p_gsorted, ↓p_gmin, ↓p_gmax, ↓p_gany, ↓p_gall, ↓p_lcT, ↓p_byT, wipeT, rngV2, fList, fCount, fIndex, okT, tru, fEqG, drF_s, drF_non, drF_bl, drF_int, drF_str, fEqP, deR, dp, teq_ss, teq_ii, teq_bb, teq_nn, teq_sn, teq_ns, teq_in, teq_ni, teq_bn, teq_nb, teq_si, teq_is, teq_sb, teq_bs, teq_ll, teq_tt, teq_ln, teq_tn, teqL_nn, teqL_cc, teqL_e, teqL_e2, fAdd, fSub, fMul, fDiv, fMod, fPow, fNeg, fLt, fLe, fGt, fGe, fIs, fIsN, isNon, smallI, putFld, rdFld, fIAdd, fPut, fIx, fTix, fstIx, fAbs, fMax2, fMin2, fMax3, fMin3, fInt, fLen, fStr, isDR, isLR, isLs, fAppend, fUpd, dcOf, isRef, lsW, lsOf, kEq, isKey, okD, stL, gTp, gC, gN, gZ, fInG, atI_lit, atI_0, atI_1, atI_m1, cutL_from, cutL_from1, cutL_to, cutL_to1, L2.ixN, emp_app, List.isEmpty_cons, List.isEmpty_nil, Bool.and_false, lt_line, le_line, srcV, rngV1, forS, fSl, dMerge, dPut, dHas, dGet, ft_burns, ft_home, ft_mode, ft_moves, ft_now, ft_other, ft_place,cs_told, ret_told]
end Mi
namespace Mi
open PySem PySem.Spec PyProof.Rows
/-! ### seconds, counted -/
/-- the mode at s, m before all moves -/
def mAt (m : List Nat) (L : List Mv) (s : Int) : List Nat := L.foldl (fun m x => if x.1 ≤ s then x.2.1 else m) m
theorem mAt_nil (m : List Nat) (s : Int) : mAt m [] s = m := rfl
theorem mAt_cons (m : List Nat) (x : Mv) (L : List Mv) (s : Int) : mAt m (x :: L) s = mAt (if x.1 ≤ s then x.2.1 else m) L s := rfl
theorem mAt_late {m : List Nat} {s : Int} : ∀ {L : List Mv}, (∀ x ∈ L, s < x.1) → mAt m L s = m
  | [], _ => rfl
  | x :: L, h => by
    have h1 := h x List.mem_cons_self
    rw [mAt_cons, if_neg (by omega)]
    exact mAt_late fun y hy => h y (List.mem_cons_of_mem _ hy)
theorem mAt_drop {m : List Nat} {s b : Int} (hs : s < b) : ∀ {L : List Mv}, mAt m (L.filter fun x => decide (x.1 < b)) s = mAt m L s
  | [] => rfl
  | x :: L => by
    rw [List.filter_cons]
    by_cases h : x.1 < b
    · rw [if_pos (decide_eq_true h), mAt_cons, mAt_cons]
      exact mAt_drop hs
    · rw [if_neg (by simpa using h), mAt_cons, if_neg (by omega)]
      exact mAt_drop hs
/-- what counts of the moves, from a on -/
theorem mAt_from {a b s : Int} (h1 : a ≤ s) (h2 : s < b) : ∀ {L : List Mv} {m : List Nat}, (L.Pairwise fun x y => x.1 ≤ y.1) → mAt m L s = mAt (mAt m L a) (L.filter fun x => decide (a < x.1) && decide (x.1 < b)) s
  | [], m, _ => rfl
  | x :: L, m, hp => by
    rw [List.pairwise_cons] at hp
    by_cases h : x.1 ≤ a
    · rw [List.filter_cons, if_neg (by simp; omega), mAt_cons, mAt_cons, if_pos (by omega), if_pos h]
      exact mAt_from h1 h2 hp.2
    · have all : ∀ y ∈ x :: L, a < y.1 := fun y hy => by
        rcases List.mem_cons.mp hy with z | z
        · subst z; omega
        · have := hp.1 y z; omega
      rw [mAt_late all]
      have e : ((x :: L).filter fun x => decide (a < x.1) && decide (x.1 < b)) = (x :: L).filter fun x => decide (x.1 < b) := by
        refine List.filter_congr fun y hy => ?_
        rw [decide_eq_true (all y hy), Bool.true_and]
      rw [e, mAt_drop h2]
/-- of n seconds from a on, how many in that mode -/
def cntS (f : Int → Bool) (a : Int) (n : Nat) : Int := (((List.range n).countP fun i => f (a + (i : Nat) * 1) : Nat) : Int)
theorem cntS_0 {f : Int → Bool} {a : Int} : cntS f a 0 = 0 := rfl
theorem cntS_add {f : Int → Bool} {a : Int} {m n : Nat} : cntS f a (m + n) = cntS f a m + cntS f (a + m) n := by
  unfold cntS
  rw [List.range_add, List.countP_append, List.countP_map, Int.natCast_add]
  congr 2
  refine congrFun (congrArg List.countP ?_) _
  funext i
  simp only [Function.comp_apply]
  congr 1
  push_cast
  omega
theorem cntS_all {f : Int → Bool} {a : Int} {v : Bool} {n : Nat} (h : ∀ s, a ≤ s → s < a + n → f s = v) : cntS f a n = if v then (n : Int) else 0 := by
  unfold cntS
  have e : (List.range n).countP (fun i => f (a + (i : Nat) * 1)) = (List.range n).countP fun _ => v := by
    refine List.countP_congr fun i hi => ?_
    have hi := List.mem_range.mp hi
    rw [h _ (by omega) (by omega)]
  rw [e]
  cases v
  · simp
  · simp
theorem cntS_congr {f g : Int → Bool} {a : Int} {n : Nat} (h : ∀ s, a ≤ s → s < a + n → f s = g s) : cntS f a n = cntS g a n := by
  unfold cntS
  congr 1
  refine List.countP_congr fun i hi => ?_
  have hi := List.mem_range.mp hi
  rw [h _ (by omega) (by omega)]
/-- the sum along the moves -/
def chn (o : List Nat) : Int → List Nat → List Mv → Int → Int
  | a, m, [], b => if m = o then b - a else 0
  | a, m, x :: L, b => (if m = o then x.1 - a else 0) + chn o x.1 x.2.1 L b
theorem chn_cnt {o : List Nat} {b : Int} : ∀ {L : List Mv} {a : Int} {m : List Nat}, a ≤ b → (L.Pairwise fun x y => x.1 ≤ y.1) → (∀ x ∈ L, a ≤ x.1 ∧ x.1 ≤ b) → chn o a m L b = cntS (fun s => decide (mAt m L s = o)) a (b - a).toNat
  | [], a, m, hab, _, _ => by
    rw [chn, cntS_all (f := fun s => decide (mAt m [] s = o)) (v := decide (m = o)) fun s _ _ => rfl]
    by_cases h : m = o <;> simp [h] <;> omega
  | x :: L, a, m, hab, hp, hx => by
    rw [List.pairwise_cons] at hp
    obtain ⟨x1, x2⟩ := hx x List.mem_cons_self
    have e : (b - a).toNat = (x.1 - a).toNat + (b - x.1).toNat := by omega
    have ea : a + ((x.1 - a).toNat : Int) = x.1 := by omega
    rw [chn, chn_cnt x2 hp.2 fun y hy => ⟨hp.1 y hy, (hx y (List.mem_cons_of_mem _ hy)).2⟩, e, cntS_add, ea]
    congr 1
    · rw [cntS_all (v := decide (m = o)) fun s h1 h2 => ?_]
      · by_cases h : m = o <;> simp [h] <;> omega
      · rw [mAt_late fun y hy => ?_]
        rcases List.mem_cons.mp hy with z | z
        · subst z; omega
        · have := hp.1 y z; omega
    · refine cntS_congr fun s h1 h2 => ?_
      rw [mAt_cons, if_pos h1]
/-- consecutive rows -/
abbrev Rw := Int × List Nat
def rwT (x : Rw) : T := .tup [.int x.1, .str x.2]
def rws (a : Int) (m : List Nat) (L : List Mv) (b : Int) : List Rw := ((a, m) :: L.map fun x => ((x.1, x.2.1) : Rw)) ++ [(b, [])]
def gaps (o : List Nat) (R : List Rw) : List Int := ((R.zip R.tail).filter fun z => decide (z.1.2 = o)).map fun z => z.2.1 - z.1.1
theorem zip_sum {o : List Nat} {b : Int} : ∀ {L : List Mv} {a : Int} {m : List Nat}, (gaps o (rws a m L b)).sum = chn o a m L b
  | [], a, m => by
    simp only [gaps, rws, List.map_nil, List.singleton_append, List.cons_append, List.nil_append, List.drop_one, List.tail_cons, List.zip_cons_cons, List.zip_nil_right, List.filter_cons, List.filter_nil, chn]
    by_cases h : m = o <;> simp [h]
  | x :: L, a, m => by
    have ih := zip_sum (o := o) (b := b) (L := L) (a := x.1) (m := x.2.1)
    simp only [gaps, rws, List.map_cons, List.cons_append, List.drop_one, List.tail_cons, List.zip_cons_cons, List.filter_cons, chn] at ih ⊢
    by_cases h : m = o
    · simp only [h, decide_true, if_true, List.map_cons, List.sum_cons]
      rw [ih]
    · simp only [h, decide_false, if_false, Bool.false_eq_true, Int.zero_add]
      exact ih
end Mi
namespace Mi
open PySem PySem.Spec PyProof.Rows
theorem mAt_getD {m : List Nat} {s : Int} : ∀ {L : List Mv}, mAt m L s = (((L.filter fun x => decide (x.1 ≤ s)).getLast?).map fun x => x.2.1).getD m := by
  intro L
  induction L generalizing m with
  | nil => rfl
  | cons x L ih =>
    rw [mAt_cons, ih, List.filter_cons]
    by_cases h : x.1 ≤ s
    · rw [if_pos h, if_pos (decide_eq_true h), List.getLast?_cons]
      cases (L.filter fun x => decide (x.1 ≤ s)).getLast? <;> rfl
    · rw [if_neg h, if_neg (by simpa using h)]
section
variable {D : Di} {n : Nat} {d e : Md} {mv : List Mv} (i : Inv13 n d mv) (hn : n < 60)
include i hn
theorem ln_ok : mv.length ≤ lineN ∧ mv.length < 1000000 := by have := i.l; exact ⟨le_line (by omega), by omega⟩
theorem filt_ok (p : Mv → Bool) (f : Mv → T) : ((mv.filter p).map f).length ≤ lineN := by
  rw [List.length_map]
  exact Nat.le_trans (List.length_filter_le _ _) (ln_ok i hn).1
theorem st_mv : (st D d e)[2]? = some (.lst (mv.map Mv.t)) := by rw [← i.r]; rfl
theorem told_eq {s : Int} : b_Mode_mode_at_c0 [.ref 1, .int s, .un, .un, .un, .un] (st D d e) = .ok (.lst ((mv.filter fun x => decide (x.1 ≤ s)).map fun x => .str x.2.1)) (st D d e) :=
  lc_run (src := .f (srcR 2)) (by simp [st_1, st_2, ↓p_bind, ↓p_st, ↓p_seq, ↓p_if, ↓p_ifE, ↓p_and, ↓p_or, ↓p_not, ↓p_bool, ↓p_ofB, ↓p_C, ↓p_var, ↓p_op2, ↓p_op1, ↓p_nil, ↓p_cons, ↓p_app, ↓p_call, ↓p_tup, ↓p_lst, ↓p_lstR, ↓p_fld, ↓p_meth, ↓p_make, ↓p_tru, ↓p_orV, ↓p_andV, ↓p_bm, ↓p_told, ↓p_set, ↓p_exp, ↓p_ret, ↓p_retN, ↓p_skip, ↓p_raise, ↓p_brk, ↓p_cnt, ↓p_body, ↓p_asg, ↓p_par, ↓p_setFld, ↓p_setSub, ↓p_augVar, ↓p_chain, ↓p_fmt, ↓p_js0, ↓p_js1, ↓p_iv, ↓p_ia, ↓p_for, ↓p_noP, ↓p_pt, ↓p_sl, ↓p_pairs0, ↓p_pairs1, ↓p_dct, ↓p_dctR, ↓p_dctR0, ↓p_yes, ↓p_lc, ↓p_gtup, ↓p_gsum, ↓p_gsorted, ↓p_gmin, ↓p_gmax, ↓p_gany, ↓p_gall, ↓p_lcT, ↓p_byT, wipeT, rngV2, fList, fCount, fIndex, okT, tru, fEqG, drF_s, drF_non, drF_bl, drF_int, drF_str, fEqP, deR, dp, teq_ss, teq_ii, teq_bb, teq_nn, teq_sn, teq_ns, teq_in, teq_ni, teq_bn, teq_nb, teq_si, teq_is, teq_sb, teq_bs, teq_ll, teq_tt, teq_ln, teq_tn, teqL_nn, teqL_cc, teqL_e, teqL_e2, fAdd, fSub, fMul, fDiv, fMod, fPow, fNeg, fLt, fLe, fGt, fGe, fIs, fIsN, isNon, smallI, putFld, rdFld, fIAdd, fPut, fIx, fTix, fstIx, fAbs, fMax2, fMin2, fMax3, fMin3, fInt, fLen, fStr, isDR, isLR, isLs, fAppend, fUpd, dcOf, isRef, lsW, lsOf, kEq, isKey, okD, stL, gTp, gC, gN, gZ, fInG, atI_lit, atI_0, atI_1, atI_m1, cutL_from, cutL_from1, cutL_to, cutL_to1, L2.ixN, emp_app, List.isEmpty_cons, List.isEmpty_nil, Bool.and_false, lt_line, le_line, srcV, rngV1, forS, fSl, dMerge, dPut, dHas, dGet, ft_burns, ft_home, ft_mode, ft_moves, ft_now, ft_other, ft_place,cs_told, ret_told]) (lcR_map _ _ (st_mv i hn) (ln_ok i hn).2 fun x hx k => by simp [Mv.t, ↓p_bind, ↓p_st, ↓p_seq, ↓p_if, ↓p_ifE, ↓p_and, ↓p_or, ↓p_not, ↓p_bool, ↓p_ofB, ↓p_C, ↓p_var, ↓p_op2, ↓p_op1, ↓p_nil, ↓p_cons, ↓p_app, ↓p_call, ↓p_tup, ↓p_lst, ↓p_lstR, ↓p_fld, ↓p_meth, ↓p_make, ↓p_tru, ↓p_orV, ↓p_andV, ↓p_bm, ↓p_told, ↓p_set, ↓p_exp, ↓p_ret, ↓p_retN, ↓p_skip, ↓p_raise, ↓p_brk, ↓p_cnt, ↓p_body, ↓p_asg, ↓p_par, ↓p_setFld, ↓p_setSub, ↓p_augVar, ↓p_chain, ↓p_fmt, ↓p_js0, ↓p_js1, ↓p_iv, ↓p_ia, ↓p_for, ↓p_noP, ↓p_pt, ↓p_sl, ↓p_pairs0, ↓p_pairs1, ↓p_dct, ↓p_dctR, ↓p_dctR0, ↓p_yes, ↓p_lc, ↓p_gtup, ↓p_gsum, ↓p_gsorted, ↓p_gmin, ↓p_gmax, ↓p_gany, ↓p_gall, ↓p_lcT, ↓p_byT, wipeT, rngV2, fList, fCount, fIndex, okT, tru, fEqG, drF_s, drF_non, drF_bl, drF_int, drF_str, fEqP, deR, dp, teq_ss, teq_ii, teq_bb, teq_nn, teq_sn, teq_ns, teq_in, teq_ni, teq_bn, teq_nb, teq_si, teq_is, teq_sb, teq_bs, teq_ll, teq_tt, teq_ln, teq_tn, teqL_nn, teqL_cc, teqL_e, teqL_e2, fAdd, fSub, fMul, fDiv, fMod, fPow, fNeg, fLt, fLe, fGt, fGe, fIs, fIsN, isNon, smallI, putFld, rdFld, fIAdd, fPut, fIx, fTix, fstIx, fAbs, fMax2, fMin2, fMax3, fMin3, fInt, fLen, fStr, isDR, isLR, isLs, fAppend, fUpd, dcOf, isRef, lsW, lsOf, kEq, isKey, okD, stL, gTp, gC, gN, gZ, fInG, atI_lit, atI_0, atI_1, atI_m1, cutL_from, cutL_from1, cutL_to, cutL_to1, L2.ixN, emp_app, List.isEmpty_cons, List.isEmpty_nil, Bool.and_false, lt_line, le_line, srcV, rngV1, forS, fSl, dMerge, dPut, dHas, dGet, ft_burns, ft_home, ft_mode, ft_moves, ft_now, ft_other, ft_place,cs_told, ret_told]; by_cases h : x.1 ≤ s <;> simp [h, ↓p_bind, ↓p_st, ↓p_seq, ↓p_if, ↓p_ifE, ↓p_and, ↓p_or, ↓p_not, ↓p_bool, ↓p_ofB, ↓p_C, ↓p_var, ↓p_op2, ↓p_op1, ↓p_nil, ↓p_cons, ↓p_app, ↓p_call, ↓p_tup, ↓p_lst, ↓p_lstR, ↓p_fld, ↓p_meth, ↓p_make, ↓p_tru, ↓p_orV, ↓p_andV, ↓p_bm, ↓p_told, ↓p_set, ↓p_exp, ↓p_ret, ↓p_retN, ↓p_skip, ↓p_raise, ↓p_brk, ↓p_cnt, ↓p_body, ↓p_asg, ↓p_par, ↓p_setFld, ↓p_setSub, ↓p_augVar, ↓p_chain, ↓p_fmt, ↓p_js0, ↓p_js1, ↓p_iv, ↓p_ia, ↓p_for, ↓p_noP, ↓p_pt, ↓p_sl, ↓p_pairs0, ↓p_pairs1, ↓p_dct, ↓p_dctR, ↓p_dctR0, ↓p_yes, ↓p_lc, ↓p_gtup, ↓p_gsum, ↓p_gsorted, ↓p_gmin, ↓p_gmax, ↓p_gany, ↓p_gall, ↓p_lcT, ↓p_byT, wipeT, rngV2, fList, fCount, fIndex, okT, tru, fEqG, drF_s, drF_non, drF_bl, drF_int, drF_str, fEqP, deR, dp, teq_ss, teq_ii, teq_bb, teq_nn, teq_sn, teq_ns, teq_in, teq_ni, teq_bn, teq_nb, teq_si, teq_is, teq_sb, teq_bs, teq_ll, teq_tt, teq_ln, teq_tn, teqL_nn, teqL_cc, teqL_e, teqL_e2, fAdd, fSub, fMul, fDiv, fMod, fPow, fNeg, fLt, fLe, fGt, fGe, fIs, fIsN, isNon, smallI, putFld, rdFld, fIAdd, fPut, fIx, fTix, fstIx, fAbs, fMax2, fMin2, fMax3, fMin3, fInt, fLen, fStr, isDR, isLR, isLs, fAppend, fUpd, dcOf, isRef, lsW, lsOf, kEq, isKey, okD, stL, gTp, gC, gN, gZ, fInG, atI_lit, atI_0, atI_1, atI_m1, cutL_from, cutL_from1, cutL_to, cutL_to1, L2.ixN, emp_app, List.isEmpty_cons, List.isEmpty_nil, Bool.and_false, lt_line, le_line, srcV, rngV1, forS, fSl, dMerge, dPut, dHas, dGet, ft_burns, ft_home, ft_mode, ft_moves, ft_now, ft_other, ft_place,cs_told, ret_told]) (filt_ok i hn _ _)
theorem modeAt_eq {s : Int} : g_Mode_mode_at [.ref 1, .int s] (st D d e) = .ok (.str (mAt [110, 111, 114, 109, 97, 108] mv s)) (st D d e) := by
  have q := told_eq (D := D) (e := e) (s := s) i hn
  have g := mAt_getD (m := [110, 111, 114, 109, 97, 108]) (s := s) (L := mv)
  rcases List.eq_nil_or_concat (mv.filter fun x => decide (x.1 ≤ s)) with h | ⟨l, x, h⟩
  · rw [h] at q g
    simp [g_Mode_mode_at, b_Mode_mode_at, q, g, ↓p_bind, ↓p_st, ↓p_seq, ↓p_if, ↓p_ifE, ↓p_and, ↓p_or, ↓p_not, ↓p_bool, ↓p_ofB, ↓p_C, ↓p_var, ↓p_op2, ↓p_op1, ↓p_nil, ↓p_cons, ↓p_app, ↓p_call, ↓p_tup, ↓p_lst, ↓p_lstR, ↓p_fld, ↓p_meth, ↓p_make, ↓p_tru, ↓p_orV, ↓p_andV, ↓p_bm, ↓p_told, ↓p_set, ↓p_exp, ↓p_ret, ↓p_retN, ↓p_skip, ↓p_raise, ↓p_brk, ↓p_cnt, ↓p_body, ↓p_asg, ↓p_par, ↓p_setFld, ↓p_setSub, ↓p_augVar, ↓p_chain, ↓p_fmt, ↓p_js0, ↓p_js1, ↓p_iv, ↓p_ia, ↓p_for, ↓p_noP, ↓p_pt, ↓p_sl, ↓p_pairs0, ↓p_pairs1, ↓p_dct, ↓p_dctR, ↓p_dctR0, ↓p_yes, ↓p_lc, ↓p_gtup, ↓p_gsum, ↓p_gsorted, ↓p_gmin, ↓p_gmax, ↓p_gany, ↓p_gall, ↓p_lcT, ↓p_byT, wipeT, rngV2, fList, fCount, fIndex, okT, tru, fEqG, drF_s, drF_non, drF_bl, drF_int, drF_str, fEqP, deR, dp, teq_ss, teq_ii, teq_bb, teq_nn, teq_sn, teq_ns, teq_in, teq_ni, teq_bn, teq_nb, teq_si, teq_is, teq_sb, teq_bs, teq_ll, teq_tt, teq_ln, teq_tn, teqL_nn, teqL_cc, teqL_e, teqL_e2, fAdd, fSub, fMul, fDiv, fMod, fPow, fNeg, fLt, fLe, fGt, fGe, fIs, fIsN, isNon, smallI, putFld, rdFld, fIAdd, fPut, fIx, fTix, fstIx, fAbs, fMax2, fMin2, fMax3, fMin3, fInt, fLen, fStr, isDR, isLR, isLs, fAppend, fUpd, dcOf, isRef, lsW, lsOf, kEq, isKey, okD, stL, gTp, gC, gN, gZ, fInG, atI_lit, atI_0, atI_1, atI_m1, cutL_from, cutL_from1, cutL_to, cutL_to1, L2.ixN, emp_app, List.isEmpty_cons, List.isEmpty_nil, Bool.and_false, lt_line, le_line, srcV, rngV1, forS, fSl, dMerge, dPut, dHas, dGet, ft_burns, ft_home, ft_mode, ft_moves, ft_now, ft_other, ft_place,cs_told, ret_told]
  · rw [h, List.concat_eq_append] at q g
    have q2 : (l.map fun x => T.str x.2.1).all (dp 59) = true := by simp [List.all_eq_true, dp]
    simp [g_Mode_mode_at, b_Mode_mode_at, q, g, q2, ↓p_bind, ↓p_st, ↓p_seq, ↓p_if, ↓p_ifE, ↓p_and, ↓p_or, ↓p_not, ↓p_bool, ↓p_ofB, ↓p_C, ↓p_var, ↓p_op2, ↓p_op1, ↓p_nil, ↓p_cons, ↓p_app, ↓p_call, ↓p_tup, ↓p_lst, ↓p_lstR, ↓p_fld, ↓p_meth, ↓p_make, ↓p_tru, ↓p_orV, ↓p_andV, ↓p_bm, ↓p_told, ↓p_set, ↓p_exp, ↓p_ret, ↓p_retN, ↓p_skip, ↓p_raise, ↓p_brk, ↓p_cnt, ↓p_body, ↓p_asg, ↓p_par, ↓p_setFld, ↓p_setSub, ↓p_augVar, ↓p_chain, ↓p_fmt, ↓p_js0, ↓p_js1, ↓p_iv, ↓p_ia, ↓p_for, ↓p_noP, ↓p_pt, ↓p_sl, ↓p_pairs0, ↓p_pairs1, ↓p_dct, ↓p_dctR, ↓p_dctR0, ↓p_yes, ↓p_lc, ↓p_gtup, ↓p_gsum, ↓p_gsorted, ↓p_gmin, ↓p_gmax, ↓p_gany, ↓p_gall, ↓p_lcT, ↓p_byT, wipeT, rngV2, fList, fCount, fIndex, okT, tru, fEqG, drF_s, drF_non, drF_bl, drF_int, drF_str, fEqP, deR, dp, teq_ss, teq_ii, teq_bb, teq_nn, teq_sn, teq_ns, teq_in, teq_ni, teq_bn, teq_nb, teq_si, teq_is, teq_sb, teq_bs, teq_ll, teq_tt, teq_ln, teq_tn, teqL_nn, teqL_cc, teqL_e, teqL_e2, fAdd, fSub, fMul, fDiv, fMod, fPow, fNeg, fLt, fLe, fGt, fGe, fIs, fIsN, isNon, smallI, putFld, rdFld, fIAdd, fPut, fIx, fTix, fstIx, fAbs, fMax2, fMin2, fMax3, fMin3, fInt, fLen, fStr, isDR, isLR, isLs, fAppend, fUpd, dcOf, isRef, lsW, lsOf, kEq, isKey, okD, stL, gTp, gC, gN, gZ, fInG, atI_lit, atI_0, atI_1, atI_m1, cutL_from, cutL_from1, cutL_to, cutL_to1, L2.ixN, emp_app, List.isEmpty_cons, List.isEmpty_nil, Bool.and_false, lt_line, le_line, srcV, rngV1, forS, fSl, dMerge, dPut, dHas, dGet, ft_burns, ft_home, ft_mode, ft_moves, ft_now, ft_other, ft_place,cs_told, ret_told]
/-- the moves between -/
def btw (a b : Int) (mv : List Mv) : List Mv := mv.filter fun x => decide (a < x.1) && decide (x.1 < b)
theorem inside_eq {a b : Int} {o : List Nat} : b_Mode_seconds_in_c0 [.ref 1, .str o, .int a, .int b, .un, .un, .un, .un, .un] (st D d e) = .ok (.lst ((btw a b mv).map fun x => rwT (x.1, x.2.1))) (st D d e) :=
  lc_run (src := .f (srcR 2)) (by simp [st_1, st_2, ↓p_bind, ↓p_st, ↓p_seq, ↓p_if, ↓p_ifE, ↓p_and, ↓p_or, ↓p_not, ↓p_bool, ↓p_ofB, ↓p_C, ↓p_var, ↓p_op2, ↓p_op1, ↓p_nil, ↓p_cons, ↓p_app, ↓p_call, ↓p_tup, ↓p_lst, ↓p_lstR, ↓p_fld, ↓p_meth, ↓p_make, ↓p_tru, ↓p_orV, ↓p_andV, ↓p_bm, ↓p_told, ↓p_set, ↓p_exp, ↓p_ret, ↓p_retN, ↓p_skip, ↓p_raise, ↓p_brk, ↓p_cnt, ↓p_body, ↓p_asg, ↓p_par, ↓p_setFld, ↓p_setSub, ↓p_augVar, ↓p_chain, ↓p_fmt, ↓p_js0, ↓p_js1, ↓p_iv, ↓p_ia, ↓p_for, ↓p_noP, ↓p_pt, ↓p_sl, ↓p_pairs0, ↓p_pairs1, ↓p_dct, ↓p_dctR, ↓p_dctR0, ↓p_yes, ↓p_lc, ↓p_gtup, ↓p_gsum, ↓p_gsorted, ↓p_gmin, ↓p_gmax, ↓p_gany, ↓p_gall, ↓p_lcT, ↓p_byT, wipeT, rngV2, fList, fCount, fIndex, okT, tru, fEqG, drF_s, drF_non, drF_bl, drF_int, drF_str, fEqP, deR, dp, teq_ss, teq_ii, teq_bb, teq_nn, teq_sn, teq_ns, teq_in, teq_ni, teq_bn, teq_nb, teq_si, teq_is, teq_sb, teq_bs, teq_ll, teq_tt, teq_ln, teq_tn, teqL_nn, teqL_cc, teqL_e, teqL_e2, fAdd, fSub, fMul, fDiv, fMod, fPow, fNeg, fLt, fLe, fGt, fGe, fIs, fIsN, isNon, smallI, putFld, rdFld, fIAdd, fPut, fIx, fTix, fstIx, fAbs, fMax2, fMin2, fMax3, fMin3, fInt, fLen, fStr, isDR, isLR, isLs, fAppend, fUpd, dcOf, isRef, lsW, lsOf, kEq, isKey, okD, stL, gTp, gC, gN, gZ, fInG, atI_lit, atI_0, atI_1, atI_m1, cutL_from, cutL_from1, cutL_to, cutL_to1, L2.ixN, emp_app, List.isEmpty_cons, List.isEmpty_nil, Bool.and_false, lt_line, le_line, srcV, rngV1, forS, fSl, dMerge, dPut, dHas, dGet, ft_burns, ft_home, ft_mode, ft_moves, ft_now, ft_other, ft_place,cs_told, ret_told]) (lcR_map _ _ (st_mv i hn) (ln_ok i hn).2 fun x hx k => by
    by_cases h : a < x.1 <;> by_cases h2 : x.1 < b <;> simp [Mv.t, rwT, h, h2, ↓p_bind, ↓p_st, ↓p_seq, ↓p_if, ↓p_ifE, ↓p_and, ↓p_or, ↓p_not, ↓p_bool, ↓p_ofB, ↓p_C, ↓p_var, ↓p_op2, ↓p_op1, ↓p_nil, ↓p_cons, ↓p_app, ↓p_call, ↓p_tup, ↓p_lst, ↓p_lstR, ↓p_fld, ↓p_meth, ↓p_make, ↓p_tru, ↓p_orV, ↓p_andV, ↓p_bm, ↓p_told, ↓p_set, ↓p_exp, ↓p_ret, ↓p_retN, ↓p_skip, ↓p_raise, ↓p_brk, ↓p_cnt, ↓p_body, ↓p_asg, ↓p_par, ↓p_setFld, ↓p_setSub, ↓p_augVar, ↓p_chain, ↓p_fmt, ↓p_js0, ↓p_js1, ↓p_iv, ↓p_ia, ↓p_for, ↓p_noP, ↓p_pt, ↓p_sl, ↓p_pairs0, ↓p_pairs1, ↓p_dct, ↓p_dctR, ↓p_dctR0, ↓p_yes, ↓p_lc, ↓p_gtup, ↓p_gsum, ↓p_gsorted, ↓p_gmin, ↓p_gmax, ↓p_gany, ↓p_gall, ↓p_lcT, ↓p_byT, wipeT, rngV2, fList, fCount, fIndex, okT, tru, fEqG, drF_s, drF_non, drF_bl, drF_int, drF_str, fEqP, deR, dp, teq_ss, teq_ii, teq_bb, teq_nn, teq_sn, teq_ns, teq_in, teq_ni, teq_bn, teq_nb, teq_si, teq_is, teq_sb, teq_bs, teq_ll, teq_tt, teq_ln, teq_tn, teqL_nn, teqL_cc, teqL_e, teqL_e2, fAdd, fSub, fMul, fDiv, fMod, fPow, fNeg, fLt, fLe, fGt, fGe, fIs, fIsN, isNon, smallI, putFld, rdFld, fIAdd, fPut, fIx, fTix, fstIx, fAbs, fMax2, fMin2, fMax3, fMin3, fInt, fLen, fStr, isDR, isLR, isLs, fAppend, fUpd, dcOf, isRef, lsW, lsOf, kEq, isKey, okD, stL, gTp, gC, gN, gZ, fInG, atI_lit, atI_0, atI_1, atI_m1, cutL_from, cutL_from1, cutL_to, cutL_to1, L2.ixN, emp_app, List.isEmpty_cons, List.isEmpty_nil, Bool.and_false, lt_line, le_line, srcV, rngV1, forS, fSl, dMerge, dPut, dHas, dGet, ft_burns, ft_home, ft_mode, ft_moves, ft_now, ft_other, ft_place,cs_told, ret_told]) (filt_ok i hn _ _)
theorem gaps_eq {a b : Int} {o : List Nat} {R : List Rw} {x : T} (hR : R.length ≤ 100) : b_Mode_seconds_in_c1 [.ref 1, .str o, .int a, .int b, x, .lst (R.map rwT), .un, .un, .un] (st D d e) = .ok (.int (gaps o R).sum) (st D d e) := by
  have hz : zipT (R.map rwT) (cutL (R.map rwT) (some 1) none) = (R.zip (R.tail)).map fun z => .tup [rwT z.1, rwT z.2] := by
    rw [cutL_from1, ← List.map_tail]
    exact zipT_map
  refine gsum_run (src := .l ((R.zip (R.tail)).map fun z => .tup [rwT z.1, rwT z.2])) (ts := ((R.zip (R.tail)).filter fun z => decide (z.1.2 = o)).map fun z => T.int (z.2.1 - z.1.1)) ?_ (lcS_map _ _ _ fun z hz k => ?_) ?_ ?_
  · simp [zipV, ↓p_bind, ↓p_st, ↓p_seq, ↓p_if, ↓p_ifE, ↓p_and, ↓p_or, ↓p_not, ↓p_bool, ↓p_ofB, ↓p_C, ↓p_var, ↓p_op2, ↓p_op1, ↓p_nil, ↓p_cons, ↓p_app, ↓p_call, ↓p_tup, ↓p_lst, ↓p_lstR, ↓p_fld, ↓p_meth, ↓p_make, ↓p_tru, ↓p_orV, ↓p_andV, ↓p_bm, ↓p_told, ↓p_set, ↓p_exp, ↓p_ret, ↓p_retN, ↓p_skip, ↓p_raise, ↓p_brk, ↓p_cnt, ↓p_body, ↓p_asg, ↓p_par, ↓p_setFld, ↓p_setSub, ↓p_augVar, ↓p_chain, ↓p_fmt, ↓p_js0, ↓p_js1, ↓p_iv, ↓p_ia, ↓p_for, ↓p_noP, ↓p_pt, ↓p_sl, ↓p_pairs0, ↓p_pairs1, ↓p_dct, ↓p_dctR, ↓p_dctR0, ↓p_yes, ↓p_lc, ↓p_gtup, ↓p_gsum, ↓p_gsorted, ↓p_gmin, ↓p_gmax, ↓p_gany, ↓p_gall, ↓p_lcT, ↓p_byT, wipeT, rngV2, fList, fCount, fIndex, okT, tru, fEqG, drF_s, drF_non, drF_bl, drF_int, drF_str, fEqP, deR, dp, teq_ss, teq_ii, teq_bb, teq_nn, teq_sn, teq_ns, teq_in, teq_ni, teq_bn, teq_nb, teq_si, teq_is, teq_sb, teq_bs, teq_ll, teq_tt, teq_ln, teq_tn, teqL_nn, teqL_cc, teqL_e, teqL_e2, fAdd, fSub, fMul, fDiv, fMod, fPow, fNeg, fLt, fLe, fGt, fGe, fIs, fIsN, isNon, smallI, putFld, rdFld, fIAdd, fPut, fIx, fTix, fstIx, fAbs, fMax2, fMin2, fMax3, fMin3, fInt, fLen, fStr, isDR, isLR, isLs, fAppend, fUpd, dcOf, isRef, lsW, lsOf, kEq, isKey, okD, stL, gTp, gC, gN, gZ, fInG, atI_lit, atI_0, atI_1, atI_m1, cutL_from, cutL_from1, cutL_to, cutL_to1, L2.ixN, emp_app, List.isEmpty_cons, List.isEmpty_nil, Bool.and_false, lt_line, le_line, srcV, rngV1, forS, fSl, dMerge, dPut, dHas, dGet, ft_burns, ft_home, ft_mode, ft_moves, ft_now, ft_other, ft_place,cs_told, ret_told]
    rw [cutL_from1] at hz
    exact hz
  · by_cases h : z.1.2 = o <;> simp [rwT, h, ↓p_bind, ↓p_st, ↓p_seq, ↓p_if, ↓p_ifE, ↓p_and, ↓p_or, ↓p_not, ↓p_bool, ↓p_ofB, ↓p_C, ↓p_var, ↓p_op2, ↓p_op1, ↓p_nil, ↓p_cons, ↓p_app, ↓p_call, ↓p_tup, ↓p_lst, ↓p_lstR, ↓p_fld, ↓p_meth, ↓p_make, ↓p_tru, ↓p_orV, ↓p_andV, ↓p_bm, ↓p_told, ↓p_set, ↓p_exp, ↓p_ret, ↓p_retN, ↓p_skip, ↓p_raise, ↓p_brk, ↓p_cnt, ↓p_body, ↓p_asg, ↓p_par, ↓p_setFld, ↓p_setSub, ↓p_augVar, ↓p_chain, ↓p_fmt, ↓p_js0, ↓p_js1, ↓p_iv, ↓p_ia, ↓p_for, ↓p_noP, ↓p_pt, ↓p_sl, ↓p_pairs0, ↓p_pairs1, ↓p_dct, ↓p_dctR, ↓p_dctR0, ↓p_yes, ↓p_lc, ↓p_gtup, ↓p_gsum, ↓p_gsorted, ↓p_gmin, ↓p_gmax, ↓p_gany, ↓p_gall, ↓p_lcT, ↓p_byT, wipeT, rngV2, fList, fCount, fIndex, okT, tru, fEqG, drF_s, drF_non, drF_bl, drF_int, drF_str, fEqP, deR, dp, teq_ss, teq_ii, teq_bb, teq_nn, teq_sn, teq_ns, teq_in, teq_ni, teq_bn, teq_nb, teq_si, teq_is, teq_sb, teq_bs, teq_ll, teq_tt, teq_ln, teq_tn, teqL_nn, teqL_cc, teqL_e, teqL_e2, fAdd, fSub, fMul, fDiv, fMod, fPow, fNeg, fLt, fLe, fGt, fGe, fIs, fIsN, isNon, smallI, putFld, rdFld, fIAdd, fPut, fIx, fTix, fstIx, fAbs, fMax2, fMin2, fMax3, fMin3, fInt, fLen, fStr, isDR, isLR, isLs, fAppend, fUpd, dcOf, isRef, lsW, lsOf, kEq, isKey, okD, stL, gTp, gC, gN, gZ, fInG, atI_lit, atI_0, atI_1, atI_m1, cutL_from, cutL_from1, cutL_to, cutL_to1, L2.ixN, emp_app, List.isEmpty_cons, List.isEmpty_nil, Bool.and_false, lt_line, le_line, srcV, rngV1, forS, fSl, dMerge, dPut, dHas, dGet, ft_burns, ft_home, ft_mode, ft_moves, ft_now, ft_other, ft_place,cs_told, ret_told]
  · rw [List.length_map]
    refine Nat.le_trans (List.length_filter_le _ _) ?_
    rw [List.length_zip]
    exact le_line (by omega)
  · exact intsT_map _ _
theorem secIn_eq {a b : Int} {o : List Nat} (ho : okM o) (hab : a ≤ b) : g_Mode_seconds_in [.ref 1, .str o, .int a, .int b] (st D d e) = .ok (.int (cntS (fun s => decide (mAt [110, 111, 114, 109, 97, 108] mv s = o)) a (b - a).toNat)) (st D d e) := by
  have q1 := inside_eq (D := D) (e := e) (a := a) (b := b) (o := o) i hn
  have q2 := modeAt_eq (D := D) (e := e) (s := a) i hn
  have hl : (btw a b mv).length ≤ 60 := Nat.le_trans (List.length_filter_le _ _) (by have := i.l; omega)
  have q3 := gaps_eq (D := D) (e := e) (a := a) (b := b) (o := o) (R := rws a (mAt [110, 111, 114, 109, 97, 108] mv a) (btw a b mv) b) (x := .lst ((btw a b mv).map fun x => rwT (x.1, x.2.1))) i hn (by simp [rws]; omega)
  rw [zip_sum, chn_cnt (L := btw a b mv) hab (i.o.filter _) (fun x hx => by have := (List.mem_filter.mp hx).2; simp only [Bool.and_eq_true, decide_eq_true_eq] at this; omega)] at q3
  have q4 : cntS (fun s => decide (mAt (mAt [110, 111, 114, 109, 97, 108] mv a) (btw a b mv) s = o)) a (b - a).toNat = cntS (fun s => decide (mAt [110, 111, 114, 109, 97, 108] mv s = o)) a (b - a).toNat := cntS_congr fun s h1 h2 => by rw [mAt_from (a := a) (b := b) (L := mv) h1 (by omega) i.o]; rfl
  rw [q4] at q3
  have n1 : ¬ b < a := by omega
  have hl2 : (btw a b mv).length + 1 ≤ lineN := le_line (by omega)
  have hl3 : (btw a b mv).length + 1 + 1 ≤ lineN := le_line (by omega)
  have hl4 : 1 + (btw a b mv).length ≤ lineN := le_line (by omega)
  simp only [rws, rwT, Function.comp_def, List.map_append, List.map_cons, List.map_nil, List.map_map, List.cons_append, List.nil_append] at q1 q3
  rcases id ho with h4 | h4 | h4 | h4 | h4 | h4 <;> subst h4 <;> simp [g_Mode_seconds_in, b_Mode_seconds_in, c_MODES, st_1, n1, q1, q2, q3, hl2, hl3, hl4, ↓p_bind, ↓p_st, ↓p_seq, ↓p_if, ↓p_ifE, ↓p_and, ↓p_or, ↓p_not, ↓p_bool, ↓p_ofB, ↓p_C, ↓p_var, ↓p_op2, ↓p_op1, ↓p_nil, ↓p_cons, ↓p_app, ↓p_call, ↓p_tup, ↓p_lst, ↓p_lstR, ↓p_fld, ↓p_meth, ↓p_make, ↓p_tru, ↓p_orV, ↓p_andV, ↓p_bm, ↓p_told, ↓p_set, ↓p_exp, ↓p_ret, ↓p_retN, ↓p_skip, ↓p_raise, ↓p_brk, ↓p_cnt, ↓p_body, ↓p_asg, ↓p_par, ↓p_setFld, ↓p_setSub, ↓p_augVar, ↓p_chain, ↓p_fmt, ↓p_js0, ↓p_js1, ↓p_iv, ↓p_ia, ↓p_for, ↓p_noP, ↓p_pt, ↓p_sl, ↓p_pairs0, ↓p_pairs1, ↓p_dct, ↓p_dctR, ↓p_dctR0, ↓p_yes, ↓p_lc, ↓p_gtup, ↓p_gsum, ↓p_gsorted, ↓p_gmin, ↓p_gmax, ↓p_gany, ↓p_gall, ↓p_lcT, ↓p_byT, wipeT, rngV2, fList, fCount, fIndex, okT, tru, fEqG, drF_s, drF_non, drF_bl, drF_int, drF_str, fEqP, deR, dp, teq_ss, teq_ii, teq_bb, teq_nn, teq_sn, teq_ns, teq_in, teq_ni, teq_bn, teq_nb, teq_si, teq_is, teq_sb, teq_bs, teq_ll, teq_tt, teq_ln, teq_tn, teqL_nn, teqL_cc, teqL_e, teqL_e2, fAdd, fSub, fMul, fDiv, fMod, fPow, fNeg, fLt, fLe, fGt, fGe, fIs, fIsN, isNon, smallI, putFld, rdFld, fIAdd, fPut, fIx, fTix, fstIx, fAbs, fMax2, fMin2, fMax3, fMin3, fInt, fLen, fStr, isDR, isLR, isLs, fAppend, fUpd, dcOf, isRef, lsW, lsOf, kEq, isKey, okD, stL, gTp, gC, gN, gZ, fInG, atI_lit, atI_0, atI_1, atI_m1, cutL_from, cutL_from1, cutL_to, cutL_to1, L2.ixN, emp_app, List.isEmpty_cons, List.isEmpty_nil, Bool.and_false, lt_line, le_line, srcV, rngV1, forS, fSl, dMerge, dPut, dHas, dGet, ft_burns, ft_home, ft_mode, ft_moves, ft_now, ft_other, ft_place,cs_told, ret_told]
theorem share_eq {a b : Int} (hab : a ≤ b) (h90 : b - a < 100) : g_Mode_share_in_use [.ref 1, .int a, .int b] (st D d e) = if b ≤ a then .ex 1 (st D d e) else .ok (.int ((1000 * (b - a - (cntS (fun s => decide (mAt [110, 111, 114, 109, 97, 108] mv s = [99, 97, 114, 101])) a (b - a).toNat + cntS (fun s => decide (mAt [110, 111, 114, 109, 97, 108] mv s = [111, 117, 116])) a (b - a).toNat))).fdiv (b - a))) (st D d e) := by
  have q1 := secIn_eq (D := D) (e := e) (a := a) (b := b) (o := [99, 97, 114, 101]) i hn (by simp [okM]) hab
  have q2 := secIn_eq (D := D) (e := e) (a := a) (b := b) (o := [111, 117, 116]) i hn (by simp [okM]) hab
  by_cases h : b ≤ a
  · simp [g_Mode_share_in_use, b_Mode_share_in_use, h, ↓p_bind, ↓p_st, ↓p_seq, ↓p_if, ↓p_ifE, ↓p_and, ↓p_or, ↓p_not, ↓p_bool, ↓p_ofB, ↓p_C, ↓p_var, ↓p_op2, ↓p_op1, ↓p_nil, ↓p_cons, ↓p_app, ↓p_call, ↓p_tup, ↓p_lst, ↓p_lstR, ↓p_fld, ↓p_meth, ↓p_make, ↓p_tru, ↓p_orV, ↓p_andV, ↓p_bm, ↓p_told, ↓p_set, ↓p_exp, ↓p_ret, ↓p_retN, ↓p_skip, ↓p_raise, ↓p_brk, ↓p_cnt, ↓p_body, ↓p_asg, ↓p_par, ↓p_setFld, ↓p_setSub, ↓p_augVar, ↓p_chain, ↓p_fmt, ↓p_js0, ↓p_js1, ↓p_iv, ↓p_ia, ↓p_for, ↓p_noP, ↓p_pt, ↓p_sl, ↓p_pairs0, ↓p_pairs1, ↓p_dct, ↓p_dctR, ↓p_dctR0, ↓p_yes, ↓p_lc, ↓p_gtup, ↓p_gsum, ↓p_gsorted, ↓p_gmin, ↓p_gmax, ↓p_gany, ↓p_gall, ↓p_lcT, ↓p_byT, wipeT, rngV2, fList, fCount, fIndex, okT, tru, fEqG, drF_s, drF_non, drF_bl, drF_int, drF_str, fEqP, deR, dp, teq_ss, teq_ii, teq_bb, teq_nn, teq_sn, teq_ns, teq_in, teq_ni, teq_bn, teq_nb, teq_si, teq_is, teq_sb, teq_bs, teq_ll, teq_tt, teq_ln, teq_tn, teqL_nn, teqL_cc, teqL_e, teqL_e2, fAdd, fSub, fMul, fDiv, fMod, fPow, fNeg, fLt, fLe, fGt, fGe, fIs, fIsN, isNon, smallI, putFld, rdFld, fIAdd, fPut, fIx, fTix, fstIx, fAbs, fMax2, fMin2, fMax3, fMin3, fInt, fLen, fStr, isDR, isLR, isLs, fAppend, fUpd, dcOf, isRef, lsW, lsOf, kEq, isKey, okD, stL, gTp, gC, gN, gZ, fInG, atI_lit, atI_0, atI_1, atI_m1, cutL_from, cutL_from1, cutL_to, cutL_to1, L2.ixN, emp_app, List.isEmpty_cons, List.isEmpty_nil, Bool.and_false, lt_line, le_line, srcV, rngV1, forS, fSl, dMerge, dPut, dHas, dGet, ft_burns, ft_home, ft_mode, ft_moves, ft_now, ft_other, ft_place,cs_told, ret_told]
  · have n1 : (b - a).natAbs < 1073741824 := by omega
    have n2 : ¬ b - a = 0 := by omega
    simp [g_Mode_share_in_use, b_Mode_share_in_use, st_1, h, q1, q2, n1, n2, ↓p_bind, ↓p_st, ↓p_seq, ↓p_if, ↓p_ifE, ↓p_and, ↓p_or, ↓p_not, ↓p_bool, ↓p_ofB, ↓p_C, ↓p_var, ↓p_op2, ↓p_op1, ↓p_nil, ↓p_cons, ↓p_app, ↓p_call, ↓p_tup, ↓p_lst, ↓p_lstR, ↓p_fld, ↓p_meth, ↓p_make, ↓p_tru, ↓p_orV, ↓p_andV, ↓p_bm, ↓p_told, ↓p_set, ↓p_exp, ↓p_ret, ↓p_retN, ↓p_skip, ↓p_raise, ↓p_brk, ↓p_cnt, ↓p_body, ↓p_asg, ↓p_par, ↓p_setFld, ↓p_setSub, ↓p_augVar, ↓p_chain, ↓p_fmt, ↓p_js0, ↓p_js1, ↓p_iv, ↓p_ia, ↓p_for, ↓p_noP, ↓p_pt, ↓p_sl, ↓p_pairs0, ↓p_pairs1, ↓p_dct, ↓p_dctR, ↓p_dctR0, ↓p_yes, ↓p_lc, ↓p_gtup, ↓p_gsum, ↓p_gsorted, ↓p_gmin, ↓p_gmax, ↓p_gany, ↓p_gall, ↓p_lcT, ↓p_byT, wipeT, rngV2, fList, fCount, fIndex, okT, tru, fEqG, drF_s, drF_non, drF_bl, drF_int, drF_str, fEqP, deR, dp, teq_ss, teq_ii, teq_bb, teq_nn, teq_sn, teq_ns, teq_in, teq_ni, teq_bn, teq_nb, teq_si, teq_is, teq_sb, teq_bs, teq_ll, teq_tt, teq_ln, teq_tn, teqL_nn, teqL_cc, teqL_e, teqL_e2, fAdd, fSub, fMul, fDiv, fMod, fPow, fNeg, fLt, fLe, fGt, fGe, fIs, fIsN, isNon, smallI, putFld, rdFld, fIAdd, fPut, fIx, fTix, fstIx, fAbs, fMax2, fMin2, fMax3, fMin3, fInt, fLen, fStr, isDR, isLR, isLs, fAppend, fUpd, dcOf, isRef, lsW, lsOf, kEq, isKey, okD, stL, gTp, gC, gN, gZ, fInG, atI_lit, atI_0, atI_1, atI_m1, cutL_from, cutL_from1, cutL_to, cutL_to1, L2.ixN, emp_app, List.isEmpty_cons, List.isEmpty_nil, Bool.and_false, lt_line, le_line, srcV, rngV1, forS, fSl, dMerge, dPut, dHas, dGet, ft_burns, ft_home, ft_mode, ft_moves, ft_now, ft_other, ft_place,cs_told, ret_told]
def Mv.line (x : Mv) : T := .str (decT x.1 ++ (32 :: (x.2.1 ++ (32 :: x.2.2))))
theorem okM_len {m : List Nat} (h : okM m) : m.length ≤ 6 := by rcases h with h | h | h | h | h | h <;> subst h <;> decide
theorem Mv_len {x : Mv} (hx : x ∈ mv) : (decT x.1).length ≤ 10 ∧ okDec x.1 = true ∧ x.2.1.length ≤ 6 ∧ x.2.2.length ≤ 20 := by
  obtain ⟨h1, h2, h3, h4⟩ := i.x x hx
  have := i.w.2
  exact ⟨decT_len h1 (by omega), okDec_of h1 (by omega), okM_len i hn h3, h4⟩
theorem lines_eq : g_Mode_move_lines [.ref 1] (st D d e) = .ok (.tup (mv.map Mv.line)) (st D d e) := by
  have q : b_Mode_move_lines_c0 [.ref 1, .un, .un, .un] (st D d e) = .ok (.tup (mv.map Mv.line)) (st D d e) := by
    refine gtup_run (src := .f (srcR 2)) (by simp [st_1, st_2, ↓p_bind, ↓p_st, ↓p_seq, ↓p_if, ↓p_ifE, ↓p_and, ↓p_or, ↓p_not, ↓p_bool, ↓p_ofB, ↓p_C, ↓p_var, ↓p_op2, ↓p_op1, ↓p_nil, ↓p_cons, ↓p_app, ↓p_call, ↓p_tup, ↓p_lst, ↓p_lstR, ↓p_fld, ↓p_meth, ↓p_make, ↓p_tru, ↓p_orV, ↓p_andV, ↓p_bm, ↓p_told, ↓p_set, ↓p_exp, ↓p_ret, ↓p_retN, ↓p_skip, ↓p_raise, ↓p_brk, ↓p_cnt, ↓p_body, ↓p_asg, ↓p_par, ↓p_setFld, ↓p_setSub, ↓p_augVar, ↓p_chain, ↓p_fmt, ↓p_js0, ↓p_js1, ↓p_iv, ↓p_ia, ↓p_for, ↓p_noP, ↓p_pt, ↓p_sl, ↓p_pairs0, ↓p_pairs1, ↓p_dct, ↓p_dctR, ↓p_dctR0, ↓p_yes, ↓p_lc, ↓p_gtup, ↓p_gsum, ↓p_gsorted, ↓p_gmin, ↓p_gmax, ↓p_gany, ↓p_gall, ↓p_lcT, ↓p_byT, wipeT, rngV2, fList, fCount, fIndex, okT, tru, fEqG, drF_s, drF_non, drF_bl, drF_int, drF_str, fEqP, deR, dp, teq_ss, teq_ii, teq_bb, teq_nn, teq_sn, teq_ns, teq_in, teq_ni, teq_bn, teq_nb, teq_si, teq_is, teq_sb, teq_bs, teq_ll, teq_tt, teq_ln, teq_tn, teqL_nn, teqL_cc, teqL_e, teqL_e2, fAdd, fSub, fMul, fDiv, fMod, fPow, fNeg, fLt, fLe, fGt, fGe, fIs, fIsN, isNon, smallI, putFld, rdFld, fIAdd, fPut, fIx, fTix, fstIx, fAbs, fMax2, fMin2, fMax3, fMin3, fInt, fLen, fStr, isDR, isLR, isLs, fAppend, fUpd, dcOf, isRef, lsW, lsOf, kEq, isKey, okD, stL, gTp, gC, gN, gZ, fInG, atI_lit, atI_0, atI_1, atI_m1, cutL_from, cutL_from1, cutL_to, cutL_to1, L2.ixN, emp_app, List.isEmpty_cons, List.isEmpty_nil, Bool.and_false, lt_line, le_line, srcV, rngV1, forS, fSl, dMerge, dPut, dHas, dGet, ft_burns, ft_home, ft_mode, ft_moves, ft_now, ft_other, ft_place,cs_told, ret_told]) (lcR_all _ (st_mv i hn) (ln_ok i hn).2 fun x hx k => ?_) (by rw [List.length_map]; exact (ln_ok i hn).1)
    obtain ⟨l1, l2, l3, l4⟩ := Mv_len i hn hx
    simp (disch := first | omega | simp) [Mv.t, Mv.line, l2, if_line, ↓p_bind, ↓p_st, ↓p_seq, ↓p_if, ↓p_ifE, ↓p_and, ↓p_or, ↓p_not, ↓p_bool, ↓p_ofB, ↓p_C, ↓p_var, ↓p_op2, ↓p_op1, ↓p_nil, ↓p_cons, ↓p_app, ↓p_call, ↓p_tup, ↓p_lst, ↓p_lstR, ↓p_fld, ↓p_meth, ↓p_make, ↓p_tru, ↓p_orV, ↓p_andV, ↓p_bm, ↓p_told, ↓p_set, ↓p_exp, ↓p_ret, ↓p_retN, ↓p_skip, ↓p_raise, ↓p_brk, ↓p_cnt, ↓p_body, ↓p_asg, ↓p_par, ↓p_setFld, ↓p_setSub, ↓p_augVar, ↓p_chain, ↓p_fmt, ↓p_js0, ↓p_js1, ↓p_iv, ↓p_ia, ↓p_for, ↓p_noP, ↓p_pt, ↓p_sl, ↓p_pairs0, ↓p_pairs1, ↓p_dct, ↓p_dctR, ↓p_dctR0, ↓p_yes, ↓p_lc, ↓p_gtup, ↓p_gsum, ↓p_gsorted, ↓p_gmin, ↓p_gmax, ↓p_gany, ↓p_gall, ↓p_lcT, ↓p_byT, wipeT, rngV2, fList, fCount, fIndex, okT, tru, fEqG, drF_s, drF_non, drF_bl, drF_int, drF_str, fEqP, deR, dp, teq_ss, teq_ii, teq_bb, teq_nn, teq_sn, teq_ns, teq_in, teq_ni, teq_bn, teq_nb, teq_si, teq_is, teq_sb, teq_bs, teq_ll, teq_tt, teq_ln, teq_tn, teqL_nn, teqL_cc, teqL_e, teqL_e2, fAdd, fSub, fMul, fDiv, fMod, fPow, fNeg, fLt, fLe, fGt, fGe, fIs, fIsN, isNon, smallI, putFld, rdFld, fIAdd, fPut, fIx, fTix, fstIx, fAbs, fMax2, fMin2, fMax3, fMin3, fInt, fLen, fStr, isDR, isLR, isLs, fAppend, fUpd, dcOf, isRef, lsW, lsOf, kEq, isKey, okD, stL, gTp, gC, gN, gZ, fInG, atI_lit, atI_0, atI_1, atI_m1, cutL_from, cutL_from1, cutL_to, cutL_to1, L2.ixN, emp_app, List.isEmpty_cons, List.isEmpty_nil, Bool.and_false, lt_line, le_line, srcV, rngV1, forS, fSl, dMerge, dPut, dHas, dGet, ft_burns, ft_home, ft_mode, ft_moves, ft_now, ft_other, ft_place,cs_told, ret_told]
  simp [g_Mode_move_lines, b_Mode_move_lines, q, ↓p_bind, ↓p_st, ↓p_seq, ↓p_if, ↓p_ifE, ↓p_and, ↓p_or, ↓p_not, ↓p_bool, ↓p_ofB, ↓p_C, ↓p_var, ↓p_op2, ↓p_op1, ↓p_nil, ↓p_cons, ↓p_app, ↓p_call, ↓p_tup, ↓p_lst, ↓p_lstR, ↓p_fld, ↓p_meth, ↓p_make, ↓p_tru, ↓p_orV, ↓p_andV, ↓p_bm, ↓p_told, ↓p_set, ↓p_exp, ↓p_ret, ↓p_retN, ↓p_skip, ↓p_raise, ↓p_brk, ↓p_cnt, ↓p_body, ↓p_asg, ↓p_par, ↓p_setFld, ↓p_setSub, ↓p_augVar, ↓p_chain, ↓p_fmt, ↓p_js0, ↓p_js1, ↓p_iv, ↓p_ia, ↓p_for, ↓p_noP, ↓p_pt, ↓p_sl, ↓p_pairs0, ↓p_pairs1, ↓p_dct, ↓p_dctR, ↓p_dctR0, ↓p_yes, ↓p_lc, ↓p_gtup, ↓p_gsum, ↓p_gsorted, ↓p_gmin, ↓p_gmax, ↓p_gany, ↓p_gall, ↓p_lcT, ↓p_byT, wipeT, rngV2, fList, fCount, fIndex, okT, tru, fEqG, drF_s, drF_non, drF_bl, drF_int, drF_str, fEqP, deR, dp, teq_ss, teq_ii, teq_bb, teq_nn, teq_sn, teq_ns, teq_in, teq_ni, teq_bn, teq_nb, teq_si, teq_is, teq_sb, teq_bs, teq_ll, teq_tt, teq_ln, teq_tn, teqL_nn, teqL_cc, teqL_e, teqL_e2, fAdd, fSub, fMul, fDiv, fMod, fPow, fNeg, fLt, fLe, fGt, fGe, fIs, fIsN, isNon, smallI, putFld, rdFld, fIAdd, fPut, fIx, fTix, fstIx, fAbs, fMax2, fMin2, fMax3, fMin3, fInt, fLen, fStr, isDR, isLR, isLs, fAppend, fUpd, dcOf, isRef, lsW, lsOf, kEq, isKey, okD, stL, gTp, gC, gN, gZ, fInG, atI_lit, atI_0, atI_1, atI_m1, cutL_from, cutL_from1, cutL_to, cutL_to1, L2.ixN, emp_app, List.isEmpty_cons, List.isEmpty_nil, Bool.and_false, lt_line, le_line, srcV, rngV1, forS, fSl, dMerge, dPut, dHas, dGet, ft_burns, ft_home, ft_mode, ft_moves, ft_now, ft_other, ft_place,cs_told, ret_told]
/-! the law's own -/
theorem own1_eq {s : Int} {x0 x1 x2 x3 x4 x5 x6 x7 x9 x10 x12 x13 x14 x15 : T} : b_law_c1 [x0, x1, x2, x3, x4, x5, x6, x7, .ref 3, x9, x10, .int s, x12, x13, x14, x15] (st D e d) = .ok (.lst ((mv.filter fun x => decide (x.1 ≤ s)).map Mv.t)) (st D e d) := by
  refine lc_run (src := .l (mv.map Mv.t)) (by simp [st_3, i.r, ↓p_bind, ↓p_st, ↓p_seq, ↓p_if, ↓p_ifE, ↓p_and, ↓p_or, ↓p_not, ↓p_bool, ↓p_ofB, ↓p_C, ↓p_var, ↓p_op2, ↓p_op1, ↓p_nil, ↓p_cons, ↓p_app, ↓p_call, ↓p_tup, ↓p_lst, ↓p_lstR, ↓p_fld, ↓p_meth, ↓p_make, ↓p_tru, ↓p_orV, ↓p_andV, ↓p_bm, ↓p_told, ↓p_set, ↓p_exp, ↓p_ret, ↓p_retN, ↓p_skip, ↓p_raise, ↓p_brk, ↓p_cnt, ↓p_body, ↓p_asg, ↓p_par, ↓p_setFld, ↓p_setSub, ↓p_augVar, ↓p_chain, ↓p_fmt, ↓p_js0, ↓p_js1, ↓p_iv, ↓p_ia, ↓p_for, ↓p_noP, ↓p_pt, ↓p_sl, ↓p_pairs0, ↓p_pairs1, ↓p_dct, ↓p_dctR, ↓p_dctR0, ↓p_yes, ↓p_lc, ↓p_gtup, ↓p_gsum, ↓p_gsorted, ↓p_gmin, ↓p_gmax, ↓p_gany, ↓p_gall, ↓p_lcT, ↓p_byT, wipeT, rngV2, fList, fCount, fIndex, okT, tru, fEqG, drF_s, drF_non, drF_bl, drF_int, drF_str, fEqP, deR, dp, teq_ss, teq_ii, teq_bb, teq_nn, teq_sn, teq_ns, teq_in, teq_ni, teq_bn, teq_nb, teq_si, teq_is, teq_sb, teq_bs, teq_ll, teq_tt, teq_ln, teq_tn, teqL_nn, teqL_cc, teqL_e, teqL_e2, fAdd, fSub, fMul, fDiv, fMod, fPow, fNeg, fLt, fLe, fGt, fGe, fIs, fIsN, isNon, smallI, putFld, rdFld, fIAdd, fPut, fIx, fTix, fstIx, fAbs, fMax2, fMin2, fMax3, fMin3, fInt, fLen, fStr, isDR, isLR, isLs, fAppend, fUpd, dcOf, isRef, lsW, lsOf, kEq, isKey, okD, stL, gTp, gC, gN, gZ, fInG, atI_lit, atI_0, atI_1, atI_m1, cutL_from, cutL_from1, cutL_to, cutL_to1, L2.ixN, emp_app, List.isEmpty_cons, List.isEmpty_nil, Bool.and_false, lt_line, le_line, srcV, rngV1, forS, fSl, dMerge, dPut, dHas, dGet, ft_burns, ft_home, ft_mode, ft_moves, ft_now, ft_other, ft_place,cs_told, ret_told]) (lcS_map _ _ _ fun x hx k => ?_) (filt_ok i hn _ _)
  by_cases h : x.1 ≤ s <;> simp [Mv.t, h, ↓p_bind, ↓p_st, ↓p_seq, ↓p_if, ↓p_ifE, ↓p_and, ↓p_or, ↓p_not, ↓p_bool, ↓p_ofB, ↓p_C, ↓p_var, ↓p_op2, ↓p_op1, ↓p_nil, ↓p_cons, ↓p_app, ↓p_call, ↓p_tup, ↓p_lst, ↓p_lstR, ↓p_fld, ↓p_meth, ↓p_make, ↓p_tru, ↓p_orV, ↓p_andV, ↓p_bm, ↓p_told, ↓p_set, ↓p_exp, ↓p_ret, ↓p_retN, ↓p_skip, ↓p_raise, ↓p_brk, ↓p_cnt, ↓p_body, ↓p_asg, ↓p_par, ↓p_setFld, ↓p_setSub, ↓p_augVar, ↓p_chain, ↓p_fmt, ↓p_js0, ↓p_js1, ↓p_iv, ↓p_ia, ↓p_for, ↓p_noP, ↓p_pt, ↓p_sl, ↓p_pairs0, ↓p_pairs1, ↓p_dct, ↓p_dctR, ↓p_dctR0, ↓p_yes, ↓p_lc, ↓p_gtup, ↓p_gsum, ↓p_gsorted, ↓p_gmin, ↓p_gmax, ↓p_gany, ↓p_gall, ↓p_lcT, ↓p_byT, wipeT, rngV2, fList, fCount, fIndex, okT, tru, fEqG, drF_s, drF_non, drF_bl, drF_int, drF_str, fEqP, deR, dp, teq_ss, teq_ii, teq_bb, teq_nn, teq_sn, teq_ns, teq_in, teq_ni, teq_bn, teq_nb, teq_si, teq_is, teq_sb, teq_bs, teq_ll, teq_tt, teq_ln, teq_tn, teqL_nn, teqL_cc, teqL_e, teqL_e2, fAdd, fSub, fMul, fDiv, fMod, fPow, fNeg, fLt, fLe, fGt, fGe, fIs, fIsN, isNon, smallI, putFld, rdFld, fIAdd, fPut, fIx, fTix, fstIx, fAbs, fMax2, fMin2, fMax3, fMin3, fInt, fLen, fStr, isDR, isLR, isLs, fAppend, fUpd, dcOf, isRef, lsW, lsOf, kEq, isKey, okD, stL, gTp, gC, gN, gZ, fInG, atI_lit, atI_0, atI_1, atI_m1, cutL_from, cutL_from1, cutL_to, cutL_to1, L2.ixN, emp_app, List.isEmpty_cons, List.isEmpty_nil, Bool.and_false, lt_line, le_line, srcV, rngV1, forS, fSl, dMerge, dPut, dHas, dGet, ft_burns, ft_home, ft_mode, ft_moves, ft_now, ft_other, ft_place,cs_told, ret_told]
theorem own2_eq {a b : Int} (hab : a ≤ b) (ha : 0 ≤ a) (hb : b < 1000) {x0 x1 x3 x4 x6 x7 x9 x10 x11 x12 x13 x14 x15 : T} : b_law_c2 [x0, x1, .int a, x3, x4, .int b, x6, x7, .ref 3, x9, x10, x11, x12, x13, x14, x15] (st D e d) =
    .ok (.lst ((List.range (b - a).toNat).map fun j => .str (mAt [110, 111, 114, 109, 97, 108] mv (a + (j : Nat) * 1)))) (st D e d) := by
  have o1 : okI a = true := by simp [okI]; omega
  have o2 : okI b = true := by simp [okI]; omega
  refine lc_run (src := .l (rngL a 1 (b - a).toNat)) (by simp [o1, o2, ↓p_bind, ↓p_st, ↓p_seq, ↓p_if, ↓p_ifE, ↓p_and, ↓p_or, ↓p_not, ↓p_bool, ↓p_ofB, ↓p_C, ↓p_var, ↓p_op2, ↓p_op1, ↓p_nil, ↓p_cons, ↓p_app, ↓p_call, ↓p_tup, ↓p_lst, ↓p_lstR, ↓p_fld, ↓p_meth, ↓p_make, ↓p_tru, ↓p_orV, ↓p_andV, ↓p_bm, ↓p_told, ↓p_set, ↓p_exp, ↓p_ret, ↓p_retN, ↓p_skip, ↓p_raise, ↓p_brk, ↓p_cnt, ↓p_body, ↓p_asg, ↓p_par, ↓p_setFld, ↓p_setSub, ↓p_augVar, ↓p_chain, ↓p_fmt, ↓p_js0, ↓p_js1, ↓p_iv, ↓p_ia, ↓p_for, ↓p_noP, ↓p_pt, ↓p_sl, ↓p_pairs0, ↓p_pairs1, ↓p_dct, ↓p_dctR, ↓p_dctR0, ↓p_yes, ↓p_lc, ↓p_gtup, ↓p_gsum, ↓p_gsorted, ↓p_gmin, ↓p_gmax, ↓p_gany, ↓p_gall, ↓p_lcT, ↓p_byT, wipeT, rngV2, fList, fCount, fIndex, okT, tru, fEqG, drF_s, drF_non, drF_bl, drF_int, drF_str, fEqP, deR, dp, teq_ss, teq_ii, teq_bb, teq_nn, teq_sn, teq_ns, teq_in, teq_ni, teq_bn, teq_nb, teq_si, teq_is, teq_sb, teq_bs, teq_ll, teq_tt, teq_ln, teq_tn, teqL_nn, teqL_cc, teqL_e, teqL_e2, fAdd, fSub, fMul, fDiv, fMod, fPow, fNeg, fLt, fLe, fGt, fGe, fIs, fIsN, isNon, smallI, putFld, rdFld, fIAdd, fPut, fIx, fTix, fstIx, fAbs, fMax2, fMin2, fMax3, fMin3, fInt, fLen, fStr, isDR, isLR, isLs, fAppend, fUpd, dcOf, isRef, lsW, lsOf, kEq, isKey, okD, stL, gTp, gC, gN, gZ, fInG, atI_lit, atI_0, atI_1, atI_m1, cutL_from, cutL_from1, cutL_to, cutL_to1, L2.ixN, emp_app, List.isEmpty_cons, List.isEmpty_nil, Bool.and_false, lt_line, le_line, srcV, rngV1, forS, fSl, dMerge, dPut, dHas, dGet, ft_burns, ft_home, ft_mode, ft_moves, ft_now, ft_other, ft_place,cs_told, ret_told]) (lcS_all (enc := fun j : Nat => T.int (a + (j : Nat) * 1)) _ _ fun j hj k => ?_) (by rw [List.length_map, List.length_range]; exact le_line (by omega))
  have q := own1_eq (D := D) (e := e) (s := a + (j : Nat) * 1) (x0 := x0) (x1 := x1) (x2 := .int a) (x3 := x3) (x4 := x4) (x5 := .int b) (x6 := x6) (x7 := x7) (x9 := x9) (x10 := x10) (x12 := x12) (x13 := x13) (x14 := x14) (x15 := x15) i hn
  have g := mAt_getD (m := [110, 111, 114, 109, 97, 108]) (s := a + (j : Nat) * 1) (L := mv)
  have hl : (mv.filter fun x => decide (x.1 ≤ a + (j : Nat) * 1)).length ≤ 60 := Nat.le_trans (List.length_filter_le _ _) (by have := i.l; omega)
  rcases List.eq_nil_or_concat (mv.filter fun x => decide (x.1 ≤ a + (j : Nat) * 1)) with h | ⟨l, x, h⟩
  · rw [h] at q g
    rw [g]
    simp at q
    simp (disch := first | omega | simp) [q, if_line, ↓p_bind, ↓p_st, ↓p_seq, ↓p_if, ↓p_ifE, ↓p_and, ↓p_or, ↓p_not, ↓p_bool, ↓p_ofB, ↓p_C, ↓p_var, ↓p_op2, ↓p_op1, ↓p_nil, ↓p_cons, ↓p_app, ↓p_call, ↓p_tup, ↓p_lst, ↓p_lstR, ↓p_fld, ↓p_meth, ↓p_make, ↓p_tru, ↓p_orV, ↓p_andV, ↓p_bm, ↓p_told, ↓p_set, ↓p_exp, ↓p_ret, ↓p_retN, ↓p_skip, ↓p_raise, ↓p_brk, ↓p_cnt, ↓p_body, ↓p_asg, ↓p_par, ↓p_setFld, ↓p_setSub, ↓p_augVar, ↓p_chain, ↓p_fmt, ↓p_js0, ↓p_js1, ↓p_iv, ↓p_ia, ↓p_for, ↓p_noP, ↓p_pt, ↓p_sl, ↓p_pairs0, ↓p_pairs1, ↓p_dct, ↓p_dctR, ↓p_dctR0, ↓p_yes, ↓p_lc, ↓p_gtup, ↓p_gsum, ↓p_gsorted, ↓p_gmin, ↓p_gmax, ↓p_gany, ↓p_gall, ↓p_lcT, ↓p_byT, wipeT, rngV2, fList, fCount, fIndex, okT, tru, fEqG, drF_s, drF_non, drF_bl, drF_int, drF_str, fEqP, deR, dp, teq_ss, teq_ii, teq_bb, teq_nn, teq_sn, teq_ns, teq_in, teq_ni, teq_bn, teq_nb, teq_si, teq_is, teq_sb, teq_bs, teq_ll, teq_tt, teq_ln, teq_tn, teqL_nn, teqL_cc, teqL_e, teqL_e2, fAdd, fSub, fMul, fDiv, fMod, fPow, fNeg, fLt, fLe, fGt, fGe, fIs, fIsN, isNon, smallI, putFld, rdFld, fIAdd, fPut, fIx, fTix, fstIx, fAbs, fMax2, fMin2, fMax3, fMin3, fInt, fLen, fStr, isDR, isLR, isLs, fAppend, fUpd, dcOf, isRef, lsW, lsOf, kEq, isKey, okD, stL, gTp, gC, gN, gZ, fInG, atI_lit, atI_0, atI_1, atI_m1, cutL_from, cutL_from1, cutL_to, cutL_to1, L2.ixN, emp_app, List.isEmpty_cons, List.isEmpty_nil, Bool.and_false, lt_line, le_line, srcV, rngV1, forS, fSl, dMerge, dPut, dHas, dGet, ft_burns, ft_home, ft_mode, ft_moves, ft_now, ft_other, ft_place,cs_told, ret_told]
  · rw [h, List.concat_eq_append] at q g
    rw [h, List.concat_eq_append, List.length_append] at hl
    rw [g]
    simp at q hl
    simp (disch := first | omega | simp) [q, if_line, Mv.t, List.getLast?_cons, List.getLast?_append, ↓p_bind, ↓p_st, ↓p_seq, ↓p_if, ↓p_ifE, ↓p_and, ↓p_or, ↓p_not, ↓p_bool, ↓p_ofB, ↓p_C, ↓p_var, ↓p_op2, ↓p_op1, ↓p_nil, ↓p_cons, ↓p_app, ↓p_call, ↓p_tup, ↓p_lst, ↓p_lstR, ↓p_fld, ↓p_meth, ↓p_make, ↓p_tru, ↓p_orV, ↓p_andV, ↓p_bm, ↓p_told, ↓p_set, ↓p_exp, ↓p_ret, ↓p_retN, ↓p_skip, ↓p_raise, ↓p_brk, ↓p_cnt, ↓p_body, ↓p_asg, ↓p_par, ↓p_setFld, ↓p_setSub, ↓p_augVar, ↓p_chain, ↓p_fmt, ↓p_js0, ↓p_js1, ↓p_iv, ↓p_ia, ↓p_for, ↓p_noP, ↓p_pt, ↓p_sl, ↓p_pairs0, ↓p_pairs1, ↓p_dct, ↓p_dctR, ↓p_dctR0, ↓p_yes, ↓p_lc, ↓p_gtup, ↓p_gsum, ↓p_gsorted, ↓p_gmin, ↓p_gmax, ↓p_gany, ↓p_gall, ↓p_lcT, ↓p_byT, wipeT, rngV2, fList, fCount, fIndex, okT, tru, fEqG, drF_s, drF_non, drF_bl, drF_int, drF_str, fEqP, deR, dp, teq_ss, teq_ii, teq_bb, teq_nn, teq_sn, teq_ns, teq_in, teq_ni, teq_bn, teq_nb, teq_si, teq_is, teq_sb, teq_bs, teq_ll, teq_tt, teq_ln, teq_tn, teqL_nn, teqL_cc, teqL_e, teqL_e2, fAdd, fSub, fMul, fDiv, fMod, fPow, fNeg, fLt, fLe, fGt, fGe, fIs, fIsN, isNon, smallI, putFld, rdFld, fIAdd, fPut, fIx, fTix, fstIx, fAbs, fMax2, fMin2, fMax3, fMin3, fInt, fLen, fStr, isDR, isLR, isLs, fAppend, fUpd, dcOf, isRef, lsW, lsOf, kEq, isKey, okD, stL, gTp, gC, gN, gZ, fInG, atI_lit, atI_0, atI_1, atI_m1, cutL_from, cutL_from1, cutL_to, cutL_to1, L2.ixN, emp_app, List.isEmpty_cons, List.isEmpty_nil, Bool.and_false, lt_line, le_line, srcV, rngV1, forS, fSl, dMerge, dPut, dHas, dGet, ft_burns, ft_home, ft_mode, ft_moves, ft_now, ft_other, ft_place,cs_told, ret_told]
end
end Mi
namespace Mi
open PySem PySem.Spec PyProof.Rows
/-- the seconds' modes -/
def secs (mv : List Mv) (a b : Int) : List T := (List.range (b - a).toNat).map fun j => .str (mAt [110, 111, 114, 109, 97, 108] mv (a + (j : Nat) * 1))
theorem secs_dp {mv : List Mv} {a b : Int} (n : Nat) : (secs mv a b).all (dp n) = true := by
  rw [List.all_eq_true]
  intro x hx
  obtain ⟨j, _, rfl⟩ := List.mem_map.mp hx
  cases n <;> rfl
theorem secs_cnt {mv : List Mv} {a b : Int} {o : List Nat} : ((cntT (secs mv a b) (.str o) : Nat) : Int) = cntS (fun s => decide (mAt [110, 111, 114, 109, 97, 108] mv s = o)) a (b - a).toNat := by
  unfold cntT secs cntS
  rw [List.countP_map]
  rfl
theorem secs_dt {mv : List Mv} {a b : Int} {o : List Nat} : okDt (secs mv a b) (.str o) = true := by
  unfold okDt
  rw [secs_dp]
  rfl
section
variable {D : Di} {n : Nat} {d : Md} {mv : List Mv} (i : Inv13 n d mv) (hn : n < 60) {a b : Int} (hab : a ≤ b) (ha : 0 ≤ a) (hb : b < 1000)
include i hn hab ha hb
variable {x0 x1 x3 x4 x7 x10 x11 x12 x13 x14 x15 : T}
def cnts (mv : List Mv) (a b : Int) : List Int := [[110, 111, 114, 109, 97, 108], [111, 119, 110], [114, 101, 99, 97, 108, 108], [102, 105, 114, 101], [99, 97, 114, 101], [111, 117, 116]].map fun o => cntS (fun s => decide (mAt [110, 111, 114, 109, 97, 108] mv s = o)) a (b - a).toNat
def cntsT (mv : List Mv) (a b : Int) : List T := (cnts mv a b).map T.int
def linesT (mv : List Mv) : List T := mv.map Mv.line
theorem c3_eq {x9 : T} : b_law_c3 [x0, x1, .int a, x3, x4, .int b, .ref 1, x7, .ref 3, x9, x10, x11, x12, x13, x14, x15] (st D d d) = .ok (.lst (cntsT mv a b)) (st D d d) := by
  rw [cntsT, cnts, List.map_map]
  refine lc_run (src := .l (([[110, 111, 114, 109, 97, 108], [111, 119, 110], [114, 101, 99, 97, 108, 108], [102, 105, 114, 101], [99, 97, 114, 101], [111, 117, 116]] : List (List Nat)).map T.str)) (by simp [c_MODES, ↓p_bind, ↓p_st, ↓p_seq, ↓p_if, ↓p_ifE, ↓p_and, ↓p_or, ↓p_not, ↓p_bool, ↓p_ofB, ↓p_C, ↓p_var, ↓p_op2, ↓p_op1, ↓p_nil, ↓p_cons, ↓p_app, ↓p_call, ↓p_tup, ↓p_lst, ↓p_lstR, ↓p_fld, ↓p_meth, ↓p_make, ↓p_tru, ↓p_orV, ↓p_andV, ↓p_bm, ↓p_told, ↓p_set, ↓p_exp, ↓p_ret, ↓p_retN, ↓p_skip, ↓p_raise, ↓p_brk, ↓p_cnt, ↓p_body, ↓p_asg, ↓p_par, ↓p_setFld, ↓p_setSub, ↓p_augVar, ↓p_chain, ↓p_fmt, ↓p_js0, ↓p_js1, ↓p_iv, ↓p_ia, ↓p_for, ↓p_noP, ↓p_pt, ↓p_sl, ↓p_pairs0, ↓p_pairs1, ↓p_dct, ↓p_dctR, ↓p_dctR0, ↓p_yes, ↓p_lc, ↓p_gtup, ↓p_gsum, ↓p_gsorted, ↓p_gmin, ↓p_gmax, ↓p_gany, ↓p_gall, ↓p_lcT, ↓p_byT, wipeT, rngV2, fList, fCount, fIndex, okT, tru, fEqG, drF_s, drF_non, drF_bl, drF_int, drF_str, fEqP, deR, dp, teq_ss, teq_ii, teq_bb, teq_nn, teq_sn, teq_ns, teq_in, teq_ni, teq_bn, teq_nb, teq_si, teq_is, teq_sb, teq_bs, teq_ll, teq_tt, teq_ln, teq_tn, teqL_nn, teqL_cc, teqL_e, teqL_e2, fAdd, fSub, fMul, fDiv, fMod, fPow, fNeg, fLt, fLe, fGt, fGe, fIs, fIsN, isNon, smallI, putFld, rdFld, fIAdd, fPut, fIx, fTix, fstIx, fAbs, fMax2, fMin2, fMax3, fMin3, fInt, fLen, fStr, isDR, isLR, isLs, fAppend, fUpd, dcOf, isRef, lsW, lsOf, kEq, isKey, okD, stL, gTp, gC, gN, gZ, fInG, atI_lit, atI_0, atI_1, atI_m1, cutL_from, cutL_from1, cutL_to, cutL_to1, L2.ixN, emp_app, List.isEmpty_cons, List.isEmpty_nil, Bool.and_false, lt_line, le_line, srcV, rngV1, forS, fSl, dMerge, dPut, dHas, dGet, ft_burns, ft_home, ft_mode, ft_moves, ft_now, ft_other, ft_place,cs_told, ret_told]) (lcS_all _ _ fun o ho k => ?_) (by simp [lineN])
  have hm : okM o := by simpa [okM] using ho
  simp [st_1, secIn_eq i hn hm hab, ↓p_bind, ↓p_st, ↓p_seq, ↓p_if, ↓p_ifE, ↓p_and, ↓p_or, ↓p_not, ↓p_bool, ↓p_ofB, ↓p_C, ↓p_var, ↓p_op2, ↓p_op1, ↓p_nil, ↓p_cons, ↓p_app, ↓p_call, ↓p_tup, ↓p_lst, ↓p_lstR, ↓p_fld, ↓p_meth, ↓p_make, ↓p_tru, ↓p_orV, ↓p_andV, ↓p_bm, ↓p_told, ↓p_set, ↓p_exp, ↓p_ret, ↓p_retN, ↓p_skip, ↓p_raise, ↓p_brk, ↓p_cnt, ↓p_body, ↓p_asg, ↓p_par, ↓p_setFld, ↓p_setSub, ↓p_augVar, ↓p_chain, ↓p_fmt, ↓p_js0, ↓p_js1, ↓p_iv, ↓p_ia, ↓p_for, ↓p_noP, ↓p_pt, ↓p_sl, ↓p_pairs0, ↓p_pairs1, ↓p_dct, ↓p_dctR, ↓p_dctR0, ↓p_yes, ↓p_lc, ↓p_gtup, ↓p_gsum, ↓p_gsorted, ↓p_gmin, ↓p_gmax, ↓p_gany, ↓p_gall, ↓p_lcT, ↓p_byT, wipeT, rngV2, fList, fCount, fIndex, okT, tru, fEqG, drF_s, drF_non, drF_bl, drF_int, drF_str, fEqP, deR, dp, teq_ss, teq_ii, teq_bb, teq_nn, teq_sn, teq_ns, teq_in, teq_ni, teq_bn, teq_nb, teq_si, teq_is, teq_sb, teq_bs, teq_ll, teq_tt, teq_ln, teq_tn, teqL_nn, teqL_cc, teqL_e, teqL_e2, fAdd, fSub, fMul, fDiv, fMod, fPow, fNeg, fLt, fLe, fGt, fGe, fIs, fIsN, isNon, smallI, putFld, rdFld, fIAdd, fPut, fIx, fTix, fstIx, fAbs, fMax2, fMin2, fMax3, fMin3, fInt, fLen, fStr, isDR, isLR, isLs, fAppend, fUpd, dcOf, isRef, lsW, lsOf, kEq, isKey, okD, stL, gTp, gC, gN, gZ, fInG, atI_lit, atI_0, atI_1, atI_m1, cutL_from, cutL_from1, cutL_to, cutL_to1, L2.ixN, emp_app, List.isEmpty_cons, List.isEmpty_nil, Bool.and_false, lt_line, le_line, srcV, rngV1, forS, fSl, dMerge, dPut, dHas, dGet, ft_burns, ft_home, ft_mode, ft_moves, ft_now, ft_other, ft_place,cs_told, ret_told]
theorem c4_eq : b_law_c4 [x0, x1, .int a, x3, x4, .int b, .ref 1, x7, .ref 3, .lst (secs mv a b), x10, x11, x12, x13, x14, x15] (st D d d) = .ok (.lst (cntsT mv a b)) (st D d d) := by
  rw [cntsT, cnts, List.map_map]
  refine lc_run (src := .l (([[110, 111, 114, 109, 97, 108], [111, 119, 110], [114, 101, 99, 97, 108, 108], [102, 105, 114, 101], [99, 97, 114, 101], [111, 117, 116]] : List (List Nat)).map T.str)) (by simp [c_MODES, ↓p_bind, ↓p_st, ↓p_seq, ↓p_if, ↓p_ifE, ↓p_and, ↓p_or, ↓p_not, ↓p_bool, ↓p_ofB, ↓p_C, ↓p_var, ↓p_op2, ↓p_op1, ↓p_nil, ↓p_cons, ↓p_app, ↓p_call, ↓p_tup, ↓p_lst, ↓p_lstR, ↓p_fld, ↓p_meth, ↓p_make, ↓p_tru, ↓p_orV, ↓p_andV, ↓p_bm, ↓p_told, ↓p_set, ↓p_exp, ↓p_ret, ↓p_retN, ↓p_skip, ↓p_raise, ↓p_brk, ↓p_cnt, ↓p_body, ↓p_asg, ↓p_par, ↓p_setFld, ↓p_setSub, ↓p_augVar, ↓p_chain, ↓p_fmt, ↓p_js0, ↓p_js1, ↓p_iv, ↓p_ia, ↓p_for, ↓p_noP, ↓p_pt, ↓p_sl, ↓p_pairs0, ↓p_pairs1, ↓p_dct, ↓p_dctR, ↓p_dctR0, ↓p_yes, ↓p_lc, ↓p_gtup, ↓p_gsum, ↓p_gsorted, ↓p_gmin, ↓p_gmax, ↓p_gany, ↓p_gall, ↓p_lcT, ↓p_byT, wipeT, rngV2, fList, fCount, fIndex, okT, tru, fEqG, drF_s, drF_non, drF_bl, drF_int, drF_str, fEqP, deR, dp, teq_ss, teq_ii, teq_bb, teq_nn, teq_sn, teq_ns, teq_in, teq_ni, teq_bn, teq_nb, teq_si, teq_is, teq_sb, teq_bs, teq_ll, teq_tt, teq_ln, teq_tn, teqL_nn, teqL_cc, teqL_e, teqL_e2, fAdd, fSub, fMul, fDiv, fMod, fPow, fNeg, fLt, fLe, fGt, fGe, fIs, fIsN, isNon, smallI, putFld, rdFld, fIAdd, fPut, fIx, fTix, fstIx, fAbs, fMax2, fMin2, fMax3, fMin3, fInt, fLen, fStr, isDR, isLR, isLs, fAppend, fUpd, dcOf, isRef, lsW, lsOf, kEq, isKey, okD, stL, gTp, gC, gN, gZ, fInG, atI_lit, atI_0, atI_1, atI_m1, cutL_from, cutL_from1, cutL_to, cutL_to1, L2.ixN, emp_app, List.isEmpty_cons, List.isEmpty_nil, Bool.and_false, lt_line, le_line, srcV, rngV1, forS, fSl, dMerge, dPut, dHas, dGet, ft_burns, ft_home, ft_mode, ft_moves, ft_now, ft_other, ft_place,cs_told, ret_told]) (lcS_all _ _ fun o ho k => ?_) (by simp [lineN])
  simp [secs_dt, secs_cnt, ↓p_bind, ↓p_st, ↓p_seq, ↓p_if, ↓p_ifE, ↓p_and, ↓p_or, ↓p_not, ↓p_bool, ↓p_ofB, ↓p_C, ↓p_var, ↓p_op2, ↓p_op1, ↓p_nil, ↓p_cons, ↓p_app, ↓p_call, ↓p_tup, ↓p_lst, ↓p_lstR, ↓p_fld, ↓p_meth, ↓p_make, ↓p_tru, ↓p_orV, ↓p_andV, ↓p_bm, ↓p_told, ↓p_set, ↓p_exp, ↓p_ret, ↓p_retN, ↓p_skip, ↓p_raise, ↓p_brk, ↓p_cnt, ↓p_body, ↓p_asg, ↓p_par, ↓p_setFld, ↓p_setSub, ↓p_augVar, ↓p_chain, ↓p_fmt, ↓p_js0, ↓p_js1, ↓p_iv, ↓p_ia, ↓p_for, ↓p_noP, ↓p_pt, ↓p_sl, ↓p_pairs0, ↓p_pairs1, ↓p_dct, ↓p_dctR, ↓p_dctR0, ↓p_yes, ↓p_lc, ↓p_gtup, ↓p_gsum, ↓p_gsorted, ↓p_gmin, ↓p_gmax, ↓p_gany, ↓p_gall, ↓p_lcT, ↓p_byT, wipeT, rngV2, fList, fCount, fIndex, okT, tru, fEqG, drF_s, drF_non, drF_bl, drF_int, drF_str, fEqP, deR, dp, teq_ss, teq_ii, teq_bb, teq_nn, teq_sn, teq_ns, teq_in, teq_ni, teq_bn, teq_nb, teq_si, teq_is, teq_sb, teq_bs, teq_ll, teq_tt, teq_ln, teq_tn, teqL_nn, teqL_cc, teqL_e, teqL_e2, fAdd, fSub, fMul, fDiv, fMod, fPow, fNeg, fLt, fLe, fGt, fGe, fIs, fIsN, isNon, smallI, putFld, rdFld, fIAdd, fPut, fIx, fTix, fstIx, fAbs, fMax2, fMin2, fMax3, fMin3, fInt, fLen, fStr, isDR, isLR, isLs, fAppend, fUpd, dcOf, isRef, lsW, lsOf, kEq, isKey, okD, stL, gTp, gC, gN, gZ, fInG, atI_lit, atI_0, atI_1, atI_m1, cutL_from, cutL_from1, cutL_to, cutL_to1, L2.ixN, emp_app, List.isEmpty_cons, List.isEmpty_nil, Bool.and_false, lt_line, le_line, srcV, rngV1, forS, fSl, dMerge, dPut, dHas, dGet, ft_burns, ft_home, ft_mode, ft_moves, ft_now, ft_other, ft_place,cs_told, ret_told]
theorem c5_eq {x9 : T} : b_law_c5 [x0, x1, .int a, x3, x4, .int b, .ref 1, x7, .ref 3, x9, x10, x11, x12, x13, x14, x15] (st D d d) = .ok (.lst (secs mv a b)) (st D d d) := by
  have o1 : okI a = true := by simp [okI]; omega
  have o2 : okI b = true := by simp [okI]; omega
  refine lc_run (src := .l (rngL a 1 (b - a).toNat)) (by simp [o1, o2, ↓p_bind, ↓p_st, ↓p_seq, ↓p_if, ↓p_ifE, ↓p_and, ↓p_or, ↓p_not, ↓p_bool, ↓p_ofB, ↓p_C, ↓p_var, ↓p_op2, ↓p_op1, ↓p_nil, ↓p_cons, ↓p_app, ↓p_call, ↓p_tup, ↓p_lst, ↓p_lstR, ↓p_fld, ↓p_meth, ↓p_make, ↓p_tru, ↓p_orV, ↓p_andV, ↓p_bm, ↓p_told, ↓p_set, ↓p_exp, ↓p_ret, ↓p_retN, ↓p_skip, ↓p_raise, ↓p_brk, ↓p_cnt, ↓p_body, ↓p_asg, ↓p_par, ↓p_setFld, ↓p_setSub, ↓p_augVar, ↓p_chain, ↓p_fmt, ↓p_js0, ↓p_js1, ↓p_iv, ↓p_ia, ↓p_for, ↓p_noP, ↓p_pt, ↓p_sl, ↓p_pairs0, ↓p_pairs1, ↓p_dct, ↓p_dctR, ↓p_dctR0, ↓p_yes, ↓p_lc, ↓p_gtup, ↓p_gsum, ↓p_gsorted, ↓p_gmin, ↓p_gmax, ↓p_gany, ↓p_gall, ↓p_lcT, ↓p_byT, wipeT, rngV2, fList, fCount, fIndex, okT, tru, fEqG, drF_s, drF_non, drF_bl, drF_int, drF_str, fEqP, deR, dp, teq_ss, teq_ii, teq_bb, teq_nn, teq_sn, teq_ns, teq_in, teq_ni, teq_bn, teq_nb, teq_si, teq_is, teq_sb, teq_bs, teq_ll, teq_tt, teq_ln, teq_tn, teqL_nn, teqL_cc, teqL_e, teqL_e2, fAdd, fSub, fMul, fDiv, fMod, fPow, fNeg, fLt, fLe, fGt, fGe, fIs, fIsN, isNon, smallI, putFld, rdFld, fIAdd, fPut, fIx, fTix, fstIx, fAbs, fMax2, fMin2, fMax3, fMin3, fInt, fLen, fStr, isDR, isLR, isLs, fAppend, fUpd, dcOf, isRef, lsW, lsOf, kEq, isKey, okD, stL, gTp, gC, gN, gZ, fInG, atI_lit, atI_0, atI_1, atI_m1, cutL_from, cutL_from1, cutL_to, cutL_to1, L2.ixN, emp_app, List.isEmpty_cons, List.isEmpty_nil, Bool.and_false, lt_line, le_line, srcV, rngV1, forS, fSl, dMerge, dPut, dHas, dGet, ft_burns, ft_home, ft_mode, ft_moves, ft_now, ft_other, ft_place,cs_told, ret_told]) (lcS_all (enc := fun j : Nat => T.int (a + (j : Nat) * 1)) _ _ fun j hj k => ?_) (by rw [secs, List.length_map, List.length_range]; exact le_line (by omega))
  simp [st_1, modeAt_eq i hn, ↓p_bind, ↓p_st, ↓p_seq, ↓p_if, ↓p_ifE, ↓p_and, ↓p_or, ↓p_not, ↓p_bool, ↓p_ofB, ↓p_C, ↓p_var, ↓p_op2, ↓p_op1, ↓p_nil, ↓p_cons, ↓p_app, ↓p_call, ↓p_tup, ↓p_lst, ↓p_lstR, ↓p_fld, ↓p_meth, ↓p_make, ↓p_tru, ↓p_orV, ↓p_andV, ↓p_bm, ↓p_told, ↓p_set, ↓p_exp, ↓p_ret, ↓p_retN, ↓p_skip, ↓p_raise, ↓p_brk, ↓p_cnt, ↓p_body, ↓p_asg, ↓p_par, ↓p_setFld, ↓p_setSub, ↓p_augVar, ↓p_chain, ↓p_fmt, ↓p_js0, ↓p_js1, ↓p_iv, ↓p_ia, ↓p_for, ↓p_noP, ↓p_pt, ↓p_sl, ↓p_pairs0, ↓p_pairs1, ↓p_dct, ↓p_dctR, ↓p_dctR0, ↓p_yes, ↓p_lc, ↓p_gtup, ↓p_gsum, ↓p_gsorted, ↓p_gmin, ↓p_gmax, ↓p_gany, ↓p_gall, ↓p_lcT, ↓p_byT, wipeT, rngV2, fList, fCount, fIndex, okT, tru, fEqG, drF_s, drF_non, drF_bl, drF_int, drF_str, fEqP, deR, dp, teq_ss, teq_ii, teq_bb, teq_nn, teq_sn, teq_ns, teq_in, teq_ni, teq_bn, teq_nb, teq_si, teq_is, teq_sb, teq_bs, teq_ll, teq_tt, teq_ln, teq_tn, teqL_nn, teqL_cc, teqL_e, teqL_e2, fAdd, fSub, fMul, fDiv, fMod, fPow, fNeg, fLt, fLe, fGt, fGe, fIs, fIsN, isNon, smallI, putFld, rdFld, fIAdd, fPut, fIx, fTix, fstIx, fAbs, fMax2, fMin2, fMax3, fMin3, fInt, fLen, fStr, isDR, isLR, isLs, fAppend, fUpd, dcOf, isRef, lsW, lsOf, kEq, isKey, okD, stL, gTp, gC, gN, gZ, fInG, atI_lit, atI_0, atI_1, atI_m1, cutL_from, cutL_from1, cutL_to, cutL_to1, L2.ixN, emp_app, List.isEmpty_cons, List.isEmpty_nil, Bool.and_false, lt_line, le_line, srcV, rngV1, forS, fSl, dMerge, dPut, dHas, dGet, ft_burns, ft_home, ft_mode, ft_moves, ft_now, ft_other, ft_place,cs_told, ret_told]
theorem c6_eq {x2 x5 x6 x9 : T} : b_law_c6 [x0, x1, x2, x3, x4, x5, x6, x7, .ref 3, x9, x10, x11, x12, x13, x14, x15] (st D d d) = .ok (.lst (linesT mv)) (st D d d) := by
  rw [linesT]
  refine lc_run (src := .l (mv.map Mv.t)) (by simp [st_3, i.r, ↓p_bind, ↓p_st, ↓p_seq, ↓p_if, ↓p_ifE, ↓p_and, ↓p_or, ↓p_not, ↓p_bool, ↓p_ofB, ↓p_C, ↓p_var, ↓p_op2, ↓p_op1, ↓p_nil, ↓p_cons, ↓p_app, ↓p_call, ↓p_tup, ↓p_lst, ↓p_lstR, ↓p_fld, ↓p_meth, ↓p_make, ↓p_tru, ↓p_orV, ↓p_andV, ↓p_bm, ↓p_told, ↓p_set, ↓p_exp, ↓p_ret, ↓p_retN, ↓p_skip, ↓p_raise, ↓p_brk, ↓p_cnt, ↓p_body, ↓p_asg, ↓p_par, ↓p_setFld, ↓p_setSub, ↓p_augVar, ↓p_chain, ↓p_fmt, ↓p_js0, ↓p_js1, ↓p_iv, ↓p_ia, ↓p_for, ↓p_noP, ↓p_pt, ↓p_sl, ↓p_pairs0, ↓p_pairs1, ↓p_dct, ↓p_dctR, ↓p_dctR0, ↓p_yes, ↓p_lc, ↓p_gtup, ↓p_gsum, ↓p_gsorted, ↓p_gmin, ↓p_gmax, ↓p_gany, ↓p_gall, ↓p_lcT, ↓p_byT, wipeT, rngV2, fList, fCount, fIndex, okT, tru, fEqG, drF_s, drF_non, drF_bl, drF_int, drF_str, fEqP, deR, dp, teq_ss, teq_ii, teq_bb, teq_nn, teq_sn, teq_ns, teq_in, teq_ni, teq_bn, teq_nb, teq_si, teq_is, teq_sb, teq_bs, teq_ll, teq_tt, teq_ln, teq_tn, teqL_nn, teqL_cc, teqL_e, teqL_e2, fAdd, fSub, fMul, fDiv, fMod, fPow, fNeg, fLt, fLe, fGt, fGe, fIs, fIsN, isNon, smallI, putFld, rdFld, fIAdd, fPut, fIx, fTix, fstIx, fAbs, fMax2, fMin2, fMax3, fMin3, fInt, fLen, fStr, isDR, isLR, isLs, fAppend, fUpd, dcOf, isRef, lsW, lsOf, kEq, isKey, okD, stL, gTp, gC, gN, gZ, fInG, atI_lit, atI_0, atI_1, atI_m1, cutL_from, cutL_from1, cutL_to, cutL_to1, L2.ixN, emp_app, List.isEmpty_cons, List.isEmpty_nil, Bool.and_false, lt_line, le_line, srcV, rngV1, forS, fSl, dMerge, dPut, dHas, dGet, ft_burns, ft_home, ft_mode, ft_moves, ft_now, ft_other, ft_place,cs_told, ret_told]) (lcS_all _ _ fun x hx k => ?_) (by rw [List.length_map]; exact (ln_ok i hn).1)
  obtain ⟨l1, l2, l3, l4⟩ := Mv_len i hn hx
  simp (disch := first | omega | simp) [Mv.t, Mv.line, l2, if_line, ↓p_bind, ↓p_st, ↓p_seq, ↓p_if, ↓p_ifE, ↓p_and, ↓p_or, ↓p_not, ↓p_bool, ↓p_ofB, ↓p_C, ↓p_var, ↓p_op2, ↓p_op1, ↓p_nil, ↓p_cons, ↓p_app, ↓p_call, ↓p_tup, ↓p_lst, ↓p_lstR, ↓p_fld, ↓p_meth, ↓p_make, ↓p_tru, ↓p_orV, ↓p_andV, ↓p_bm, ↓p_told, ↓p_set, ↓p_exp, ↓p_ret, ↓p_retN, ↓p_skip, ↓p_raise, ↓p_brk, ↓p_cnt, ↓p_body, ↓p_asg, ↓p_par, ↓p_setFld, ↓p_setSub, ↓p_augVar, ↓p_chain, ↓p_fmt, ↓p_js0, ↓p_js1, ↓p_iv, ↓p_ia, ↓p_for, ↓p_noP, ↓p_pt, ↓p_sl, ↓p_pairs0, ↓p_pairs1, ↓p_dct, ↓p_dctR, ↓p_dctR0, ↓p_yes, ↓p_lc, ↓p_gtup, ↓p_gsum, ↓p_gsorted, ↓p_gmin, ↓p_gmax, ↓p_gany, ↓p_gall, ↓p_lcT, ↓p_byT, wipeT, rngV2, fList, fCount, fIndex, okT, tru, fEqG, drF_s, drF_non, drF_bl, drF_int, drF_str, fEqP, deR, dp, teq_ss, teq_ii, teq_bb, teq_nn, teq_sn, teq_ns, teq_in, teq_ni, teq_bn, teq_nb, teq_si, teq_is, teq_sb, teq_bs, teq_ll, teq_tt, teq_ln, teq_tn, teqL_nn, teqL_cc, teqL_e, teqL_e2, fAdd, fSub, fMul, fDiv, fMod, fPow, fNeg, fLt, fLe, fGt, fGe, fIs, fIsN, isNon, smallI, putFld, rdFld, fIAdd, fPut, fIx, fTix, fstIx, fAbs, fMax2, fMin2, fMax3, fMin3, fInt, fLen, fStr, isDR, isLR, isLs, fAppend, fUpd, dcOf, isRef, lsW, lsOf, kEq, isKey, okD, stL, gTp, gC, gN, gZ, fInG, atI_lit, atI_0, atI_1, atI_m1, cutL_from, cutL_from1, cutL_to, cutL_to1, L2.ixN, emp_app, List.isEmpty_cons, List.isEmpty_nil, Bool.and_false, lt_line, le_line, srcV, rngV1, forS, fSl, dMerge, dPut, dHas, dGet, ft_burns, ft_home, ft_mode, ft_moves, ft_now, ft_other, ft_place,cs_told, ret_told]
omit i hn hab ha hb in
theorem cntsT_dp (n : Nat) : (cntsT mv a b).all (dp n) = true := by
  rw [List.all_eq_true]
  intro x hx
  obtain ⟨j, _, rfl⟩ := List.mem_map.mp hx
  cases n <;> rfl
omit i hn hab ha hb in
theorem linesT_dp (n : Nat) : (linesT mv).all (dp n) = true := by
  rw [List.all_eq_true]
  intro x hx
  obtain ⟨j, _, rfl⟩ := List.mem_map.mp hx
  cases n <;> rfl
theorem t7_eq (h90 : b - a < 100) : b_law_t7 [x0, x1, .int a, .int (cntS (fun s => decide (mAt [110, 111, 114, 109, 97, 108] mv s = [99, 97, 114, 101])) a (b - a).toNat + cntS (fun s => decide (mAt [110, 111, 114, 109, 97, 108] mv s = [111, 117, 116])) a (b - a).toNat), x4, .int b, .ref 1, x7, .ref 3, .lst (secs mv a b), x10, x11, x12, x13, x14, x15] (st D d d) = .nx [x0, x1, .int a, .int (cntS (fun s => decide (mAt [110, 111, 114, 109, 97, 108] mv s = [99, 97, 114, 101])) a (b - a).toNat + cntS (fun s => decide (mAt [110, 111, 114, 109, 97, 108] mv s = [111, 117, 116])) a (b - a).toNat), x4, .int b, .ref 1, x7, .ref 3, .lst (secs mv a b), x10, x11, x12, x13, x14, x15] (st D d d) := by
  have p1 := fun M => drFL_id (M := M) (cntsT_dp (mv := mv) (a := a) (b := b) 59)
  have p2 := cntsT_dp (mv := mv) (a := a) (b := b) 59
  have p3 := teqL_refl p2
  have p4 := fun M => drFL_id (M := M) (secs_dp (mv := mv) (a := a) (b := b) 59)
  have p5 := secs_dp (mv := mv) (a := a) (b := b) 59
  have p6 := teqL_refl p5
  have p7 := fun M => drFL_id (M := M) (linesT_dp (mv := mv) 59)
  have p8 := linesT_dp (mv := mv) 59
  have p9 := teqL_refl p8
  have le := lines_eq (D := D) (e := d) i hn
  rw [← linesT] at le
  by_cases h : b ≤ a
  · have h2 : ¬ a < b := by omega
    have sh := share_eq (D := D) (e := d) i hn hab h90
    rw [if_pos h] at sh
    simp [b_law_t7, c3_eq i hn hab ha hb, c4_eq i hn hab ha hb, c5_eq i hn hab ha hb, c6_eq i hn hab ha hb, st_1, sh, h2, le, p1, p2, p3, p4, p5, p6, p7, p8, p9, ↓p_bind, ↓p_st, ↓p_seq, ↓p_if, ↓p_ifE, ↓p_and, ↓p_or, ↓p_not, ↓p_bool, ↓p_ofB, ↓p_C, ↓p_var, ↓p_op2, ↓p_op1, ↓p_nil, ↓p_cons, ↓p_app, ↓p_call, ↓p_tup, ↓p_lst, ↓p_lstR, ↓p_fld, ↓p_meth, ↓p_make, ↓p_tru, ↓p_orV, ↓p_andV, ↓p_bm, ↓p_told, ↓p_set, ↓p_exp, ↓p_ret, ↓p_retN, ↓p_skip, ↓p_raise, ↓p_brk, ↓p_cnt, ↓p_body, ↓p_asg, ↓p_par, ↓p_setFld, ↓p_setSub, ↓p_augVar, ↓p_chain, ↓p_fmt, ↓p_js0, ↓p_js1, ↓p_iv, ↓p_ia, ↓p_for, ↓p_noP, ↓p_pt, ↓p_sl, ↓p_pairs0, ↓p_pairs1, ↓p_dct, ↓p_dctR, ↓p_dctR0, ↓p_yes, ↓p_lc, ↓p_gtup, ↓p_gsum, ↓p_gsorted, ↓p_gmin, ↓p_gmax, ↓p_gany, ↓p_gall, ↓p_lcT, ↓p_byT, wipeT, rngV2, fList, fCount, fIndex, okT, tru, fEqG, drF_s, drF_non, drF_bl, drF_int, drF_str, fEqP, deR, dp, teq_ss, teq_ii, teq_bb, teq_nn, teq_sn, teq_ns, teq_in, teq_ni, teq_bn, teq_nb, teq_si, teq_is, teq_sb, teq_bs, teq_ll, teq_tt, teq_ln, teq_tn, teqL_nn, teqL_cc, teqL_e, teqL_e2, fAdd, fSub, fMul, fDiv, fMod, fPow, fNeg, fLt, fLe, fGt, fGe, fIs, fIsN, isNon, smallI, putFld, rdFld, fIAdd, fPut, fIx, fTix, fstIx, fAbs, fMax2, fMin2, fMax3, fMin3, fInt, fLen, fStr, isDR, isLR, isLs, fAppend, fUpd, dcOf, isRef, lsW, lsOf, kEq, isKey, okD, stL, gTp, gC, gN, gZ, fInG, atI_lit, atI_0, atI_1, atI_m1, cutL_from, cutL_from1, cutL_to, cutL_to1, L2.ixN, emp_app, List.isEmpty_cons, List.isEmpty_nil, Bool.and_false, lt_line, le_line, srcV, rngV1, forS, fSl, dMerge, dPut, dHas, dGet, ft_burns, ft_home, ft_mode, ft_moves, ft_now, ft_other, ft_place,cs_told, ret_told]
  · have h2 : a < b := by omega
    have sh := share_eq (D := D) (e := d) i hn hab h90
    rw [if_neg h] at sh
    have n1 : (b - a).natAbs < 1073741824 := by omega
    have n2 : ¬ b - a = 0 := by omega
    simp [b_law_t7, c3_eq i hn hab ha hb, c4_eq i hn hab ha hb, c5_eq i hn hab ha hb, c6_eq i hn hab ha hb, st_1, sh, h2, n1, n2, le, p1, p2, p3, p4, p5, p6, p7, p8, p9, ↓p_bind, ↓p_st, ↓p_seq, ↓p_if, ↓p_ifE, ↓p_and, ↓p_or, ↓p_not, ↓p_bool, ↓p_ofB, ↓p_C, ↓p_var, ↓p_op2, ↓p_op1, ↓p_nil, ↓p_cons, ↓p_app, ↓p_call, ↓p_tup, ↓p_lst, ↓p_lstR, ↓p_fld, ↓p_meth, ↓p_make, ↓p_tru, ↓p_orV, ↓p_andV, ↓p_bm, ↓p_told, ↓p_set, ↓p_exp, ↓p_ret, ↓p_retN, ↓p_skip, ↓p_raise, ↓p_brk, ↓p_cnt, ↓p_body, ↓p_asg, ↓p_par, ↓p_setFld, ↓p_setSub, ↓p_augVar, ↓p_chain, ↓p_fmt, ↓p_js0, ↓p_js1, ↓p_iv, ↓p_ia, ↓p_for, ↓p_noP, ↓p_pt, ↓p_sl, ↓p_pairs0, ↓p_pairs1, ↓p_dct, ↓p_dctR, ↓p_dctR0, ↓p_yes, ↓p_lc, ↓p_gtup, ↓p_gsum, ↓p_gsorted, ↓p_gmin, ↓p_gmax, ↓p_gany, ↓p_gall, ↓p_lcT, ↓p_byT, wipeT, rngV2, fList, fCount, fIndex, okT, tru, fEqG, drF_s, drF_non, drF_bl, drF_int, drF_str, fEqP, deR, dp, teq_ss, teq_ii, teq_bb, teq_nn, teq_sn, teq_ns, teq_in, teq_ni, teq_bn, teq_nb, teq_si, teq_is, teq_sb, teq_bs, teq_ll, teq_tt, teq_ln, teq_tn, teqL_nn, teqL_cc, teqL_e, teqL_e2, fAdd, fSub, fMul, fDiv, fMod, fPow, fNeg, fLt, fLe, fGt, fGe, fIs, fIsN, isNon, smallI, putFld, rdFld, fIAdd, fPut, fIx, fTix, fstIx, fAbs, fMax2, fMin2, fMax3, fMin3, fInt, fLen, fStr, isDR, isLR, isLs, fAppend, fUpd, dcOf, isRef, lsW, lsOf, kEq, isKey, okD, stL, gTp, gC, gN, gZ, fInG, atI_lit, atI_0, atI_1, atI_m1, cutL_from, cutL_from1, cutL_to, cutL_to1, L2.ixN, emp_app, List.isEmpty_cons, List.isEmpty_nil, Bool.and_false, lt_line, le_line, srcV, rngV1, forS, fSl, dMerge, dPut, dHas, dGet, ft_burns, ft_home, ft_mode, ft_moves, ft_now, ft_other, ft_place,cs_told, ret_told]
end
end Mi
namespace Mi
open PySem PySem.Spec PyProof.Rows
theorem t8_eq {D : Di} {n : Nat} {d : Md} {mv : List Mv} (i : Inv13 n d mv) (hn : n < 60) (x0 x2 x3 x4 x5 x7 x9 x10 x11 x12 x13 x14 x15 : T) :
    ∃ τ, b_law_t8 [x0, .ref 0, x2, x3, x4, x5, .ref 1, x7, .ref 3, x9, x10, x11, x12, x13, x14, x15] (st D d d) = .nx τ (st ((D.n 60).n 90) d d) := by
  have a0 := D.lo (m := 60) (by decide)
  have a1 := D.hi (m := 60) (by decide)
  have b0 := (D.n 60).lo (m := 90) (by decide)
  have b1 := (D.n 60).hi (m := 90) (by decide)
  obtain ⟨a, ha⟩ : ∃ a, a = D.k 60 := ⟨_, rfl⟩
  obtain ⟨b, hb⟩ : ∃ b, b = a + (D.n 60).k 90 := ⟨_, rfl⟩
  have hab : a ≤ b := by omega
  have o2 : ∀ x0 x1 x3 x4 x6 x7 x9 x10 x11 x12 x13 x14 x15, b_law_c2 [x0, x1, .int a, x3, x4, .int b, x6, x7, .ref 3, x9, x10, x11, x12, x13, x14, x15] (st ((D.n 60).n 90) d d) = .ok (.lst (secs mv a b)) (st ((D.n 60).n 90) d d) :=
    fun _ _ _ _ _ _ _ _ _ _ _ _ _ => own2_eq i hn hab (by omega) (by omega)
  have t7 := t7_eq (D := (D.n 60).n 90) (x0 := x0) (x1 := .ref 0) (x4 := x4) (x7 := x7) (x10 := x10) (x11 := x11) (x12 := x12) (x13 := x13) (x14 := x14) (x15 := x15) i hn hab (by omega) (by omega) (by omega)
  refine ⟨[x0, .ref 0, .int a, .int (cntS (fun s => decide (mAt [110, 111, 114, 109, 97, 108] mv s = [99, 97, 114, 101])) a (b - a).toNat + cntS (fun s => decide (mAt [110, 111, 114, 109, 97, 108] mv s = [111, 117, 116])) a (b - a).toNat), x4, .int b, .ref 1, x7, .ref 3, .lst (secs mv a b), x10, x11, x12, x13, x14, x15], ?_⟩
  simp [b_law_t8, st_roll, ← ha, ← hb, o2, secs_dt, secs_cnt, t7, ↓p_bind, ↓p_st, ↓p_seq, ↓p_if, ↓p_ifE, ↓p_and, ↓p_or, ↓p_not, ↓p_bool, ↓p_ofB, ↓p_C, ↓p_var, ↓p_op2, ↓p_op1, ↓p_nil, ↓p_cons, ↓p_app, ↓p_call, ↓p_tup, ↓p_lst, ↓p_lstR, ↓p_fld, ↓p_meth, ↓p_make, ↓p_tru, ↓p_orV, ↓p_andV, ↓p_bm, ↓p_told, ↓p_set, ↓p_exp, ↓p_ret, ↓p_retN, ↓p_skip, ↓p_raise, ↓p_brk, ↓p_cnt, ↓p_body, ↓p_asg, ↓p_par, ↓p_setFld, ↓p_setSub, ↓p_augVar, ↓p_chain, ↓p_fmt, ↓p_js0, ↓p_js1, ↓p_iv, ↓p_ia, ↓p_for, ↓p_noP, ↓p_pt, ↓p_sl, ↓p_pairs0, ↓p_pairs1, ↓p_dct, ↓p_dctR, ↓p_dctR0, ↓p_yes, ↓p_lc, ↓p_gtup, ↓p_gsum, ↓p_gsorted, ↓p_gmin, ↓p_gmax, ↓p_gany, ↓p_gall, ↓p_lcT, ↓p_byT, wipeT, rngV2, fList, fCount, fIndex, okT, tru, fEqG, drF_s, drF_non, drF_bl, drF_int, drF_str, fEqP, deR, dp, teq_ss, teq_ii, teq_bb, teq_nn, teq_sn, teq_ns, teq_in, teq_ni, teq_bn, teq_nb, teq_si, teq_is, teq_sb, teq_bs, teq_ll, teq_tt, teq_ln, teq_tn, teqL_nn, teqL_cc, teqL_e, teqL_e2, fAdd, fSub, fMul, fDiv, fMod, fPow, fNeg, fLt, fLe, fGt, fGe, fIs, fIsN, isNon, smallI, putFld, rdFld, fIAdd, fPut, fIx, fTix, fstIx, fAbs, fMax2, fMin2, fMax3, fMin3, fInt, fLen, fStr, isDR, isLR, isLs, fAppend, fUpd, dcOf, isRef, lsW, lsOf, kEq, isKey, okD, stL, gTp, gC, gN, gZ, fInG, atI_lit, atI_0, atI_1, atI_m1, cutL_from, cutL_from1, cutL_to, cutL_to1, L2.ixN, emp_app, List.isEmpty_cons, List.isEmpty_nil, Bool.and_false, lt_line, le_line, srcV, rngV1, forS, fSl, dMerge, dPut, dHas, dGet, ft_burns, ft_home, ft_mode, ft_moves, ft_now, ft_other, ft_place,cs_told, ret_told]
theorem init_eq {D : Di} {p h o : Int} (h0 : 0 ≤ p) (h1 : 0 ≤ h) (h2 : 0 ≤ o) (h3 : h ≠ o) : g_Mode_init [.ref 1, .int p, .int h, .int o] [D.ob, .ins 2 [.un, .un, .un, .un, .un, .un, .un]] = .ok .non [D.ob, .ins 2 [.str [110, 111, 114, 109, 97, 108], .int p, .int h, .int o, .str [], .ref 2, .int 0], .lst []] := by
  have n1 : ¬ (if o < (if h < p then h else p) then o else (if h < p then h else p)) < 0 := by split <;> (try split) <;> omega
  simp [g_Mode_init, b_Mode_init, n1, h3, ↓p_bind, ↓p_st, ↓p_seq, ↓p_if, ↓p_ifE, ↓p_and, ↓p_or, ↓p_not, ↓p_bool, ↓p_ofB, ↓p_C, ↓p_var, ↓p_op2, ↓p_op1, ↓p_nil, ↓p_cons, ↓p_app, ↓p_call, ↓p_tup, ↓p_lst, ↓p_lstR, ↓p_fld, ↓p_meth, ↓p_make, ↓p_tru, ↓p_orV, ↓p_andV, ↓p_bm, ↓p_told, ↓p_set, ↓p_exp, ↓p_ret, ↓p_retN, ↓p_skip, ↓p_raise, ↓p_brk, ↓p_cnt, ↓p_body, ↓p_asg, ↓p_par, ↓p_setFld, ↓p_setSub, ↓p_augVar, ↓p_chain, ↓p_fmt, ↓p_js0, ↓p_js1, ↓p_iv, ↓p_ia, ↓p_for, ↓p_noP, ↓p_pt, ↓p_sl, ↓p_pairs0, ↓p_pairs1, ↓p_dct, ↓p_dctR, ↓p_dctR0, ↓p_yes, ↓p_lc, ↓p_gtup, ↓p_gsum, ↓p_gsorted, ↓p_gmin, ↓p_gmax, ↓p_gany, ↓p_gall, ↓p_lcT, ↓p_byT, wipeT, rngV2, fList, fCount, fIndex, okT, tru, fEqG, drF_s, drF_non, drF_bl, drF_int, drF_str, fEqP, deR, dp, teq_ss, teq_ii, teq_bb, teq_nn, teq_sn, teq_ns, teq_in, teq_ni, teq_bn, teq_nb, teq_si, teq_is, teq_sb, teq_bs, teq_ll, teq_tt, teq_ln, teq_tn, teqL_nn, teqL_cc, teqL_e, teqL_e2, fAdd, fSub, fMul, fDiv, fMod, fPow, fNeg, fLt, fLe, fGt, fGe, fIs, fIsN, isNon, smallI, putFld, rdFld, fIAdd, fPut, fIx, fTix, fstIx, fAbs, fMax2, fMin2, fMax3, fMin3, fInt, fLen, fStr, isDR, isLR, isLs, fAppend, fUpd, dcOf, isRef, lsW, lsOf, kEq, isKey, okD, stL, gTp, gC, gN, gZ, fInG, atI_lit, atI_0, atI_1, atI_m1, cutL_from, cutL_from1, cutL_to, cutL_to1, L2.ixN, emp_app, List.isEmpty_cons, List.isEmpty_nil, Bool.and_false, lt_line, le_line, srcV, rngV1, forS, fSl, dMerge, dPut, dHas, dGet, ft_burns, ft_home, ft_mode, ft_moves, ft_now, ft_other, ft_place,cs_told, ret_told]
def Md.new (h o : Int) : Md := ⟨[110, 111, 114, 109, 97, 108], 3, h, o, [], [], 0⟩
theorem t9_eq {D : Di} {h o : Int} (h0 : 0 ≤ h) (h1 : h < 10) (x0 x2 x3 x4 x5 x7 x9 x10 x11 x12 x13 x14 x15 : T) :
    ∃ τ D' d', b_law_t9 [x0, .ref 0, x2, x3, x4, x5, .ref 1, x7, .ref 3, x9, x10, x11, x12, x13, x14, x15] (st D (Md.new h o) (Md.new h o)) = .nx τ (st D' d' d') := by
  have i0 : Inv13 0 (Md.new h o) [] := { r := rfl, l := Nat.le_refl _, m := .inl rfl, h := ⟨h0, h1⟩, b := fun z => absurd rfl z, o := .nil, x := (fun x hx => nomatch hx), w := ⟨Int.le_refl _, Int.le_refl _⟩ }
  have k0 := D.lo (m := 28) (by decide)
  have k1 := D.hi (m := 28) (by decide)
  have ok : okI (D.k 28) = true := by simp [okI]; omega
  obtain ⟨τ1, M1, e1, D1, d1, mv1, y10, i1, hτ, hM⟩ := forL_ix (g := gN 10) (b := b_law_f0) 28 (fun n τ M => ∃ D d mv y10, Inv13 n d mv ∧ τ = [x0, .ref 0, x2, x3, x4, x5, .ref 1, x7, .ref 3, x9, y10, x11, x12, x13, x14, x15] ∧ M = st D d d)
    (rngL 0 1 (D.k 28).toNat) 0 (by simp [rngL]; omega) (fun t _ k τ M hk ⟨D, d, mv, y10, i, hτ, hM⟩ => by
      subst hτ hM
      obtain ⟨D', d', mv', i', e⟩ := turn_eq (D := D) i (by omega) x0 x2 x3 x4 x5 x7 x9 t x11 x12 x13 x14 x15
      exact ⟨_, _, _, rfl, ⟨D', d', mv', t, i', rfl, rfl⟩, .inl e⟩) _ _ ⟨D.n 28, Md.new h o, [], x10, i0, rfl, rfl⟩
  subst hτ hM
  rw [show (rngL 0 1 (D.k 28).toNat).length = (D.k 28).toNat from by simp [rngL]] at i1
  obtain ⟨τ2, e2⟩ := t8_eq (D := D1) i1 (by omega) x0 x2 x3 x4 x5 x7 x9 y10 x11 x12 x13 x14 x15
  refine ⟨τ2, (D1.n 60).n 90, d1, ?_⟩
  simp [b_law_t9, st_roll, ok, e1, ↓p_bind, ↓p_st, ↓p_seq, ↓p_if, ↓p_ifE, ↓p_and, ↓p_or, ↓p_not, ↓p_bool, ↓p_ofB, ↓p_C, ↓p_var, ↓p_op2, ↓p_op1, ↓p_nil, ↓p_cons, ↓p_app, ↓p_call, ↓p_tup, ↓p_lst, ↓p_lstR, ↓p_fld, ↓p_meth, ↓p_make, ↓p_tru, ↓p_orV, ↓p_andV, ↓p_bm, ↓p_told, ↓p_set, ↓p_exp, ↓p_ret, ↓p_retN, ↓p_skip, ↓p_raise, ↓p_brk, ↓p_cnt, ↓p_body, ↓p_asg, ↓p_par, ↓p_setFld, ↓p_setSub, ↓p_augVar, ↓p_chain, ↓p_fmt, ↓p_js0, ↓p_js1, ↓p_iv, ↓p_ia, ↓p_for, ↓p_noP, ↓p_pt, ↓p_sl, ↓p_pairs0, ↓p_pairs1, ↓p_dct, ↓p_dctR, ↓p_dctR0, ↓p_yes, ↓p_lc, ↓p_gtup, ↓p_gsum, ↓p_gsorted, ↓p_gmin, ↓p_gmax, ↓p_gany, ↓p_gall, ↓p_lcT, ↓p_byT, wipeT, rngV2, fList, fCount, fIndex, okT, tru, fEqG, drF_s, drF_non, drF_bl, drF_int, drF_str, fEqP, deR, dp, teq_ss, teq_ii, teq_bb, teq_nn, teq_sn, teq_ns, teq_in, teq_ni, teq_bn, teq_nb, teq_si, teq_is, teq_sb, teq_bs, teq_ll, teq_tt, teq_ln, teq_tn, teqL_nn, teqL_cc, teqL_e, teqL_e2, fAdd, fSub, fMul, fDiv, fMod, fPow, fNeg, fLt, fLe, fGt, fGe, fIs, fIsN, isNon, smallI, putFld, rdFld, fIAdd, fPut, fIx, fTix, fstIx, fAbs, fMax2, fMin2, fMax3, fMin3, fInt, fLen, fStr, isDR, isLR, isLs, fAppend, fUpd, dcOf, isRef, lsW, lsOf, kEq, isKey, okD, stL, gTp, gC, gN, gZ, fInG, atI_lit, atI_0, atI_1, atI_m1, cutL_from, cutL_from1, cutL_to, cutL_to1, L2.ixN, emp_app, List.isEmpty_cons, List.isEmpty_nil, Bool.and_false, lt_line, le_line, srcV, rngV1, forS, fSl, dMerge, dPut, dHas, dGet, ft_burns, ft_home, ft_mode, ft_moves, ft_now, ft_other, ft_place,cs_told, ret_told]
  exact e2
theorem f10_eq (D : Di) (x0 : T) : ∃ τ D' d', b_law_f10 [x0, .ref 0, .un, .un, .un, .un, .un, .un, .un, .un, .un, .un, .un, .un, .un, .un] [D.ob] = .nx τ (st D' d' d') := by
  have k0 := D.lo (m := 3) (by decide)
  have k1 := D.hi (m := 3) (by decide)
  have l0 := (D.n 3).lo (m := 2) (by decide)
  have l1 := (D.n 3).hi (m := 2) (by decide)
  obtain ⟨h, hh⟩ : ∃ h, h = D.k 3 := ⟨_, rfl⟩
  obtain ⟨o, ho⟩ : ∃ o, o = (h + 1 + (D.n 3).k 2).fmod 4 := ⟨_, rfl⟩
  have o0 : 0 ≤ o := by rw [ho]; exact Int.fmod_nonneg_of_pos _ (by decide)
  have o1 : h ≠ o := by rw [ho, Int.fmod_eq_emod_of_nonneg _ (by decide)]; omega
  have ini := init_eq (D := (D.n 3).n 2) (p := 3) (h := h) (o := o) (by decide) (by omega) o0 o1
  obtain ⟨τ, D', d', e⟩ := t9_eq (D := (D.n 3).n 2) (h := h) (o := o) (by omega) (by omega) x0 .un .un (.int h) .un (.int o) .un .un .un .un .un .un .un
  refine ⟨τ, D', d', ?_⟩
  have r1 := fun D : Di => fun m h0 h1 => roll_at (R := []) (D := D) (many := m) h0 h1
  simp [b_law_f10, r1, ← hh, ← ho, ini, ↓p_bind, ↓p_st, ↓p_seq, ↓p_if, ↓p_ifE, ↓p_and, ↓p_or, ↓p_not, ↓p_bool, ↓p_ofB, ↓p_C, ↓p_var, ↓p_op2, ↓p_op1, ↓p_nil, ↓p_cons, ↓p_app, ↓p_call, ↓p_tup, ↓p_lst, ↓p_lstR, ↓p_fld, ↓p_meth, ↓p_make, ↓p_tru, ↓p_orV, ↓p_andV, ↓p_bm, ↓p_told, ↓p_set, ↓p_exp, ↓p_ret, ↓p_retN, ↓p_skip, ↓p_raise, ↓p_brk, ↓p_cnt, ↓p_body, ↓p_asg, ↓p_par, ↓p_setFld, ↓p_setSub, ↓p_augVar, ↓p_chain, ↓p_fmt, ↓p_js0, ↓p_js1, ↓p_iv, ↓p_ia, ↓p_for, ↓p_noP, ↓p_pt, ↓p_sl, ↓p_pairs0, ↓p_pairs1, ↓p_dct, ↓p_dctR, ↓p_dctR0, ↓p_yes, ↓p_lc, ↓p_gtup, ↓p_gsum, ↓p_gsorted, ↓p_gmin, ↓p_gmax, ↓p_gany, ↓p_gall, ↓p_lcT, ↓p_byT, wipeT, rngV2, fList, fCount, fIndex, okT, tru, fEqG, drF_s, drF_non, drF_bl, drF_int, drF_str, fEqP, deR, dp, teq_ss, teq_ii, teq_bb, teq_nn, teq_sn, teq_ns, teq_in, teq_ni, teq_bn, teq_nb, teq_si, teq_is, teq_sb, teq_bs, teq_ll, teq_tt, teq_ln, teq_tn, teqL_nn, teqL_cc, teqL_e, teqL_e2, fAdd, fSub, fMul, fDiv, fMod, fPow, fNeg, fLt, fLe, fGt, fGe, fIs, fIsN, isNon, smallI, putFld, rdFld, fIAdd, fPut, fIx, fTix, fstIx, fAbs, fMax2, fMin2, fMax3, fMin3, fInt, fLen, fStr, isDR, isLR, isLs, fAppend, fUpd, dcOf, isRef, lsW, lsOf, kEq, isKey, okD, stL, gTp, gC, gN, gZ, fInG, atI_lit, atI_0, atI_1, atI_m1, cutL_from, cutL_from1, cutL_to, cutL_to1, L2.ixN, emp_app, List.isEmpty_cons, List.isEmpty_nil, Bool.and_false, lt_line, le_line, srcV, rngV1, forS, fSl, dMerge, dPut, dHas, dGet, ft_burns, ft_home, ft_mode, ft_moves, ft_now, ft_other, ft_place,cs_told, ret_told]
  exact e
theorem rounds_eq (ns : List Int) : ∃ D : Di, g_law_rounds [.fix (ns.map T.int), .int 1] [] = .ok (.lst [.ref 0]) [D.ob] := by
  have dice : ∀ n : Int, ∃ D : Di, g_law_dice [.int n] [] = .ok (.ref 0) [D.ob] := fun n => by
    by_cases h1 : -10 < n
    · by_cases h2 : n < 10
      · exact ⟨⟨_, _, _⟩, by simp [g_law_dice, b_law_dice, h1, h2, Di.ob, ↓p_bind, ↓p_st, ↓p_seq, ↓p_if, ↓p_ifE, ↓p_and, ↓p_or, ↓p_not, ↓p_bool, ↓p_ofB, ↓p_C, ↓p_var, ↓p_op2, ↓p_op1, ↓p_nil, ↓p_cons, ↓p_app, ↓p_call, ↓p_tup, ↓p_lst, ↓p_lstR, ↓p_fld, ↓p_meth, ↓p_make, ↓p_tru, ↓p_orV, ↓p_andV, ↓p_bm, ↓p_told, ↓p_set, ↓p_exp, ↓p_ret, ↓p_retN, ↓p_skip, ↓p_raise, ↓p_brk, ↓p_cnt, ↓p_body, ↓p_asg, ↓p_par, ↓p_setFld, ↓p_setSub, ↓p_augVar, ↓p_chain, ↓p_fmt, ↓p_js0, ↓p_js1, ↓p_iv, ↓p_ia, ↓p_for, ↓p_noP, ↓p_pt, ↓p_sl, ↓p_pairs0, ↓p_pairs1, ↓p_dct, ↓p_dctR, ↓p_dctR0, ↓p_yes, ↓p_lc, ↓p_gtup, ↓p_gsum, ↓p_gsorted, ↓p_gmin, ↓p_gmax, ↓p_gany, ↓p_gall, ↓p_lcT, ↓p_byT, wipeT, rngV2, fList, fCount, fIndex, okT, tru, fEqG, drF_s, drF_non, drF_bl, drF_int, drF_str, fEqP, deR, dp, teq_ss, teq_ii, teq_bb, teq_nn, teq_sn, teq_ns, teq_in, teq_ni, teq_bn, teq_nb, teq_si, teq_is, teq_sb, teq_bs, teq_ll, teq_tt, teq_ln, teq_tn, teqL_nn, teqL_cc, teqL_e, teqL_e2, fAdd, fSub, fMul, fDiv, fMod, fPow, fNeg, fLt, fLe, fGt, fGe, fIs, fIsN, isNon, smallI, putFld, rdFld, fIAdd, fPut, fIx, fTix, fstIx, fAbs, fMax2, fMin2, fMax3, fMin3, fInt, fLen, fStr, isDR, isLR, isLs, fAppend, fUpd, dcOf, isRef, lsW, lsOf, kEq, isKey, okD, stL, gTp, gC, gN, gZ, fInG, atI_lit, atI_0, atI_1, atI_m1, cutL_from, cutL_from1, cutL_to, cutL_to1, L2.ixN, emp_app, List.isEmpty_cons, List.isEmpty_nil, Bool.and_false, lt_line, le_line, srcV, rngV1, forS, fSl, dMerge, dPut, dHas, dGet, ft_burns, ft_home, ft_mode, ft_moves, ft_now, ft_other, ft_place,cs_told, ret_told]; exact ⟨rfl, rfl, rfl⟩⟩
      · exact ⟨⟨_, _, _⟩, by simp [g_law_dice, b_law_dice, h1, h2, Di.ob, ↓p_bind, ↓p_st, ↓p_seq, ↓p_if, ↓p_ifE, ↓p_and, ↓p_or, ↓p_not, ↓p_bool, ↓p_ofB, ↓p_C, ↓p_var, ↓p_op2, ↓p_op1, ↓p_nil, ↓p_cons, ↓p_app, ↓p_call, ↓p_tup, ↓p_lst, ↓p_lstR, ↓p_fld, ↓p_meth, ↓p_make, ↓p_tru, ↓p_orV, ↓p_andV, ↓p_bm, ↓p_told, ↓p_set, ↓p_exp, ↓p_ret, ↓p_retN, ↓p_skip, ↓p_raise, ↓p_brk, ↓p_cnt, ↓p_body, ↓p_asg, ↓p_par, ↓p_setFld, ↓p_setSub, ↓p_augVar, ↓p_chain, ↓p_fmt, ↓p_js0, ↓p_js1, ↓p_iv, ↓p_ia, ↓p_for, ↓p_noP, ↓p_pt, ↓p_sl, ↓p_pairs0, ↓p_pairs1, ↓p_dct, ↓p_dctR, ↓p_dctR0, ↓p_yes, ↓p_lc, ↓p_gtup, ↓p_gsum, ↓p_gsorted, ↓p_gmin, ↓p_gmax, ↓p_gany, ↓p_gall, ↓p_lcT, ↓p_byT, wipeT, rngV2, fList, fCount, fIndex, okT, tru, fEqG, drF_s, drF_non, drF_bl, drF_int, drF_str, fEqP, deR, dp, teq_ss, teq_ii, teq_bb, teq_nn, teq_sn, teq_ns, teq_in, teq_ni, teq_bn, teq_nb, teq_si, teq_is, teq_sb, teq_bs, teq_ll, teq_tt, teq_ln, teq_tn, teqL_nn, teqL_cc, teqL_e, teqL_e2, fAdd, fSub, fMul, fDiv, fMod, fPow, fNeg, fLt, fLe, fGt, fGe, fIs, fIsN, isNon, smallI, putFld, rdFld, fIAdd, fPut, fIx, fTix, fstIx, fAbs, fMax2, fMin2, fMax3, fMin3, fInt, fLen, fStr, isDR, isLR, isLs, fAppend, fUpd, dcOf, isRef, lsW, lsOf, kEq, isKey, okD, stL, gTp, gC, gN, gZ, fInG, atI_lit, atI_0, atI_1, atI_m1, cutL_from, cutL_from1, cutL_to, cutL_to1, L2.ixN, emp_app, List.isEmpty_cons, List.isEmpty_nil, Bool.and_false, lt_line, le_line, srcV, rngV1, forS, fSl, dMerge, dPut, dHas, dGet, ft_burns, ft_home, ft_mode, ft_moves, ft_now, ft_other, ft_place,cs_told, ret_told]; exact ⟨rfl, rfl, rfl⟩⟩
    · exact ⟨⟨_, _, _⟩, by simp [g_law_dice, b_law_dice, h1, Di.ob, ↓p_bind, ↓p_st, ↓p_seq, ↓p_if, ↓p_ifE, ↓p_and, ↓p_or, ↓p_not, ↓p_bool, ↓p_ofB, ↓p_C, ↓p_var, ↓p_op2, ↓p_op1, ↓p_nil, ↓p_cons, ↓p_app, ↓p_call, ↓p_tup, ↓p_lst, ↓p_lstR, ↓p_fld, ↓p_meth, ↓p_make, ↓p_tru, ↓p_orV, ↓p_andV, ↓p_bm, ↓p_told, ↓p_set, ↓p_exp, ↓p_ret, ↓p_retN, ↓p_skip, ↓p_raise, ↓p_brk, ↓p_cnt, ↓p_body, ↓p_asg, ↓p_par, ↓p_setFld, ↓p_setSub, ↓p_augVar, ↓p_chain, ↓p_fmt, ↓p_js0, ↓p_js1, ↓p_iv, ↓p_ia, ↓p_for, ↓p_noP, ↓p_pt, ↓p_sl, ↓p_pairs0, ↓p_pairs1, ↓p_dct, ↓p_dctR, ↓p_dctR0, ↓p_yes, ↓p_lc, ↓p_gtup, ↓p_gsum, ↓p_gsorted, ↓p_gmin, ↓p_gmax, ↓p_gany, ↓p_gall, ↓p_lcT, ↓p_byT, wipeT, rngV2, fList, fCount, fIndex, okT, tru, fEqG, drF_s, drF_non, drF_bl, drF_int, drF_str, fEqP, deR, dp, teq_ss, teq_ii, teq_bb, teq_nn, teq_sn, teq_ns, teq_in, teq_ni, teq_bn, teq_nb, teq_si, teq_is, teq_sb, teq_bs, teq_ll, teq_tt, teq_ln, teq_tn, teqL_nn, teqL_cc, teqL_e, teqL_e2, fAdd, fSub, fMul, fDiv, fMod, fPow, fNeg, fLt, fLe, fGt, fGe, fIs, fIsN, isNon, smallI, putFld, rdFld, fIAdd, fPut, fIx, fTix, fstIx, fAbs, fMax2, fMin2, fMax3, fMin3, fInt, fLen, fStr, isDR, isLR, isLs, fAppend, fUpd, dcOf, isRef, lsW, lsOf, kEq, isKey, okD, stL, gTp, gC, gN, gZ, fInG, atI_lit, atI_0, atI_1, atI_m1, cutL_from, cutL_from1, cutL_to, cutL_to1, L2.ixN, emp_app, List.isEmpty_cons, List.isEmpty_nil, Bool.and_false, lt_line, le_line, srcV, rngV1, forS, fSl, dMerge, dPut, dHas, dGet, ft_burns, ft_home, ft_mode, ft_moves, ft_now, ft_other, ft_place,cs_told, ret_told]; exact ⟨rfl, rfl, rfl⟩⟩
  cases ns with
  | nil =>
    obtain ⟨D, e⟩ := dice 0
    refine ⟨D, ?_⟩
    simp [g_law_rounds, b_law_rounds, b_law_rounds_c0, e, lcS, lcL, ↓p_bind, ↓p_st, ↓p_seq, ↓p_if, ↓p_ifE, ↓p_and, ↓p_or, ↓p_not, ↓p_bool, ↓p_ofB, ↓p_C, ↓p_var, ↓p_op2, ↓p_op1, ↓p_nil, ↓p_cons, ↓p_app, ↓p_call, ↓p_tup, ↓p_lst, ↓p_lstR, ↓p_fld, ↓p_meth, ↓p_make, ↓p_tru, ↓p_orV, ↓p_andV, ↓p_bm, ↓p_told, ↓p_set, ↓p_exp, ↓p_ret, ↓p_retN, ↓p_skip, ↓p_raise, ↓p_brk, ↓p_cnt, ↓p_body, ↓p_asg, ↓p_par, ↓p_setFld, ↓p_setSub, ↓p_augVar, ↓p_chain, ↓p_fmt, ↓p_js0, ↓p_js1, ↓p_iv, ↓p_ia, ↓p_for, ↓p_noP, ↓p_pt, ↓p_sl, ↓p_pairs0, ↓p_pairs1, ↓p_dct, ↓p_dctR, ↓p_dctR0, ↓p_yes, ↓p_lc, ↓p_gtup, ↓p_gsum, ↓p_gsorted, ↓p_gmin, ↓p_gmax, ↓p_gany, ↓p_gall, ↓p_lcT, ↓p_byT, wipeT, rngV2, fList, fCount, fIndex, okT, tru, fEqG, drF_s, drF_non, drF_bl, drF_int, drF_str, fEqP, deR, dp, teq_ss, teq_ii, teq_bb, teq_nn, teq_sn, teq_ns, teq_in, teq_ni, teq_bn, teq_nb, teq_si, teq_is, teq_sb, teq_bs, teq_ll, teq_tt, teq_ln, teq_tn, teqL_nn, teqL_cc, teqL_e, teqL_e2, fAdd, fSub, fMul, fDiv, fMod, fPow, fNeg, fLt, fLe, fGt, fGe, fIs, fIsN, isNon, smallI, putFld, rdFld, fIAdd, fPut, fIx, fTix, fstIx, fAbs, fMax2, fMin2, fMax3, fMin3, fInt, fLen, fStr, isDR, isLR, isLs, fAppend, fUpd, dcOf, isRef, lsW, lsOf, kEq, isKey, okD, stL, gTp, gC, gN, gZ, fInG, atI_lit, atI_0, atI_1, atI_m1, cutL_from, cutL_from1, cutL_to, cutL_to1, L2.ixN, emp_app, List.isEmpty_cons, List.isEmpty_nil, Bool.and_false, lt_line, le_line, srcV, rngV1, forS, fSl, dMerge, dPut, dHas, dGet, ft_burns, ft_home, ft_mode, ft_moves, ft_now, ft_other, ft_place,cs_told, ret_told]
  | cons n ns =>
    obtain ⟨D, e⟩ := dice n
    refine ⟨D, ?_⟩
    simp [g_law_rounds, b_law_rounds, b_law_rounds_c0, e, lcS, lcL, ↓p_bind, ↓p_st, ↓p_seq, ↓p_if, ↓p_ifE, ↓p_and, ↓p_or, ↓p_not, ↓p_bool, ↓p_ofB, ↓p_C, ↓p_var, ↓p_op2, ↓p_op1, ↓p_nil, ↓p_cons, ↓p_app, ↓p_call, ↓p_tup, ↓p_lst, ↓p_lstR, ↓p_fld, ↓p_meth, ↓p_make, ↓p_tru, ↓p_orV, ↓p_andV, ↓p_bm, ↓p_told, ↓p_set, ↓p_exp, ↓p_ret, ↓p_retN, ↓p_skip, ↓p_raise, ↓p_brk, ↓p_cnt, ↓p_body, ↓p_asg, ↓p_par, ↓p_setFld, ↓p_setSub, ↓p_augVar, ↓p_chain, ↓p_fmt, ↓p_js0, ↓p_js1, ↓p_iv, ↓p_ia, ↓p_for, ↓p_noP, ↓p_pt, ↓p_sl, ↓p_pairs0, ↓p_pairs1, ↓p_dct, ↓p_dctR, ↓p_dctR0, ↓p_yes, ↓p_lc, ↓p_gtup, ↓p_gsum, ↓p_gsorted, ↓p_gmin, ↓p_gmax, ↓p_gany, ↓p_gall, ↓p_lcT, ↓p_byT, wipeT, rngV2, fList, fCount, fIndex, okT, tru, fEqG, drF_s, drF_non, drF_bl, drF_int, drF_str, fEqP, deR, dp, teq_ss, teq_ii, teq_bb, teq_nn, teq_sn, teq_ns, teq_in, teq_ni, teq_bn, teq_nb, teq_si, teq_is, teq_sb, teq_bs, teq_ll, teq_tt, teq_ln, teq_tn, teqL_nn, teqL_cc, teqL_e, teqL_e2, fAdd, fSub, fMul, fDiv, fMod, fPow, fNeg, fLt, fLe, fGt, fGe, fIs, fIsN, isNon, smallI, putFld, rdFld, fIAdd, fPut, fIx, fTix, fstIx, fAbs, fMax2, fMin2, fMax3, fMin3, fInt, fLen, fStr, isDR, isLR, isLs, fAppend, fUpd, dcOf, isRef, lsW, lsOf, kEq, isKey, okD, stL, gTp, gC, gN, gZ, fInG, atI_lit, atI_0, atI_1, atI_m1, cutL_from, cutL_from1, cutL_to, cutL_to1, L2.ixN, emp_app, List.isEmpty_cons, List.isEmpty_nil, Bool.and_false, lt_line, le_line, srcV, rngV1, forS, fSl, dMerge, dPut, dHas, dGet, ft_burns, ft_home, ft_mode, ft_moves, ft_now, ft_other, ft_place,cs_told, ret_told]
theorem plain_ok (M0 M1 M2 M3 : Ob) : okTrue (g_law_plain [] [M0, M1, M2, M3]) = true := by kernel_rfl
theorem lawP (ns : List Int) (_ : ns.length ≤ 63) (_ : ∀ z ∈ ns, PySem.Builtin.Int.intBits z ≤ 1048576) : ∃ M, g_law [.fix (ns.map T.int)] [] = .ok (.bl true) M := by
  obtain ⟨D, e⟩ := rounds_eq ns
  obtain ⟨τ, D', d', e2⟩ := f10_eq D (.fix (ns.map T.int))
  obtain ⟨M, e3⟩ := okTrue_is (plain_ok D'.ob d'.ob (.lst d'.rows) (.dct d'.kv))
  refine ⟨M, ?_⟩
  have e4 : g_law_plain [] (st D' d' d') = .ok (.bl true) M := e3
  simp [g_law, b_law, e, forL, e2, e4, ↓p_bind, ↓p_st, ↓p_seq, ↓p_if, ↓p_ifE, ↓p_and, ↓p_or, ↓p_not, ↓p_bool, ↓p_ofB, ↓p_C, ↓p_var, ↓p_op2, ↓p_op1, ↓p_nil, ↓p_cons, ↓p_app, ↓p_call, ↓p_tup, ↓p_lst, ↓p_lstR, ↓p_fld, ↓p_meth, ↓p_make, ↓p_tru, ↓p_orV, ↓p_andV, ↓p_bm, ↓p_told, ↓p_set, ↓p_exp, ↓p_ret, ↓p_retN, ↓p_skip, ↓p_raise, ↓p_brk, ↓p_cnt, ↓p_body, ↓p_asg, ↓p_par, ↓p_setFld, ↓p_setSub, ↓p_augVar, ↓p_chain, ↓p_fmt, ↓p_js0, ↓p_js1, ↓p_iv, ↓p_ia, ↓p_for, ↓p_noP, ↓p_pt, ↓p_sl, ↓p_pairs0, ↓p_pairs1, ↓p_dct, ↓p_dctR, ↓p_dctR0, ↓p_yes, ↓p_lc, ↓p_gtup, ↓p_gsum, ↓p_gsorted, ↓p_gmin, ↓p_gmax, ↓p_gany, ↓p_gall, ↓p_lcT, ↓p_byT, wipeT, rngV2, fList, fCount, fIndex, okT, tru, fEqG, drF_s, drF_non, drF_bl, drF_int, drF_str, fEqP, deR, dp, teq_ss, teq_ii, teq_bb, teq_nn, teq_sn, teq_ns, teq_in, teq_ni, teq_bn, teq_nb, teq_si, teq_is, teq_sb, teq_bs, teq_ll, teq_tt, teq_ln, teq_tn, teqL_nn, teqL_cc, teqL_e, teqL_e2, fAdd, fSub, fMul, fDiv, fMod, fPow, fNeg, fLt, fLe, fGt, fGe, fIs, fIsN, isNon, smallI, putFld, rdFld, fIAdd, fPut, fIx, fTix, fstIx, fAbs, fMax2, fMin2, fMax3, fMin3, fInt, fLen, fStr, isDR, isLR, isLs, fAppend, fUpd, dcOf, isRef, lsW, lsOf, kEq, isKey, okD, stL, gTp, gC, gN, gZ, fInG, atI_lit, atI_0, atI_1, atI_m1, cutL_from, cutL_from1, cutL_to, cutL_to1, L2.ixN, emp_app, List.isEmpty_cons, List.isEmpty_nil, Bool.and_false, lt_line, le_line, srcV, rngV1, forS, fSl, dMerge, dPut, dHas, dGet, ft_burns, ft_home, ft_mode, ft_moves, ft_now, ft_other, ft_place,cs_told, ret_told]
end Mi
open PySem PySem.W PyProof.Rows
set_option maxRecDepth 100000 in
set_option maxHeartbeats 0 in
theorem PySem.Challenge.cw_liftstack_k13_modes_of_a_car_holds : PySem.Challenge.rw_liftstack_k13_modes_of_a_car.Holds := by
  w_on; o_law; x_head; (case hw => w_witness2)
  refine Mi.walk_cut (l := PySem.Challenge.rw_liftstack_k13_modes_of_a_car) (n := 63) (k := 11) (x := "script") (CX := fun w => L2.CX PySem.Challenge.pw_liftstack_k13_modes_of_a_car w) rfl (by decide) rfl ⟨rfl, by decide, by decide⟩ (by kernel_rfl) ?F (fun _ _ _ _ _ q => by obtain ⟨_, _, _, _, _, _, _, _, _, _, _, _, z⟩ := q; exact z)
  case F =>
    intro w mg fa h KX1 KX G hmg
    refine' Mi.all_mk1 KX1 KX G hmg ?xaC0 ?xaC1 ?xaC2 ?xa18 ?xl18 ?xa20 ?xl20 ?xa0 ?xl0 ?xa1 ?xl1 ?xa2 ?xl2 ?xa10 ?xl10 ?xa9 ?xl9 ?xa3 ?xl3 ?xa4 ?xl4 ?xa5 ?xl5 ?xa6 ?xl6 ?xa12 ?xl12 ?xa13 ?xl13 ?xa7 ?xl7 ?xa8 ?xl8 ?xa11 ?xl11 ?xa15 ?xl15 ?xa14 ?xl14 ?xa16 ?xl16 ?xa17 ?xl17 ?xa21 ?xl21 ?xa25 ?xl25 ?xa19 ?xl19 ?xa23 ?xl23 ?xa22 ?xl22 ?xa24 ?xl24 ?xa26 ?xl26 ?e0 ?xlC0 ?vC0 ?e1 ?xlC1 ?vC1 ?e2 ?xlC2 ?vC2 ?e3 ?xlC3 ?vC3 ?e4 ?xlC4 ?vC4 ?xag0 ?xlg0 ?vg0 ?xag1 ?aC0 ?xe0 ?xk0 ?xs0 ?xt0 ?aC1 ?xe1 ?xk1 ?xs1 ?xt1 ?aC2 ?pg2 ?hd2 ?po2 ?sa2 ?mk2 ?kc2 ?na2_mode ?na2_place ?na2_home ?na2_other ?na2_burns ?na2_moves ?na2_now ?a18 ?l18 ?c18 ?k18 ?a20 ?l20 ?c20 ?k20 ?a0 ?i0 ?l0 ?c0 ?k0 ?a1 ?i1 ?l1 ?c1 ?k1 ?a2 ?i2 ?l2 ?c2 ?k2 ?a10 ?i10 ?l10 ?c10 ?k10 ?a9 ?i9 ?l9 ?c9 ?k9 ?a3 ?i3 ?l3 ?c3 ?k3 ?a4 ?i4 ?l4 ?c4 ?k4 ?a5 ?i5 ?l5 ?c5 ?k5 ?a6 ?i6 ?l6 ?c6 ?k6 ?a12 ?i12 ?l12 ?c12 ?k12 ?a13 ?i13 ?l13 ?c13 ?k13 ?a7 ?i7 ?l7 ?c7 ?k7 ?a8 ?i8 ?l8 ?c8 ?k8 ?a11 ?i11 ?l11 ?c11 ?k11 ?a15 ?i15 ?l15 ?c15 ?k15 ?a14 ?i14 ?l14 ?c14 ?k14 ?a16 ?i16 ?l16 ?c16 ?k16 ?a17 ?i17 ?l17 ?c17 ?k17 ?a21 ?l21 ?c21 ?k21 ?a25 ?l25 ?c25 ?k25 ?a19 ?l19 ?c19 ?k19 ?a23 ?l23 ?c23 ?k23 ?a22 ?l22 ?c22 ?k22 ?a24 ?l24 ?c24 ?k24 ?a26 ?l26 ?c26 ?k26 ?lC0 ?hC0 ?nC0 ?tC0 ?lC1 ?hC1 ?nC1 ?tC1 ?lC2 ?hC2 ?nC2 ?tC2 ?lC3 ?hC3 ?nC3 ?tC3 ?lC4 ?hC4 ?nC4 ?tC4 ?np0_1 ?np0_2 ?np0_3 ?np0_4 ?np1_2 ?np1_3 ?np1_4 ?np2_3 ?np2_4 ?np3_4 ?bi_abs ?bi_int ?bi_len ?bi_list ?bi_min ?bi_range ?bi_str ?bi_sum ?bi_tuple ?bi_zip ?ag0 ?lg0 ?zg0 ?ag1 ?tcl ?ts1 Mi.lawP
    (case xaC0 => k_is)
    (case xaC1 => k_is)
    (case xaC2 => k_is)
    (case xa18 => k_is)
    (case xl18 => k_is)
    (case xa20 => k_is)
    (case xl20 => k_is)
    (case xa0 => k_is)
    (case xl0 => k_is)
    (case xa1 => k_is)
    (case xl1 => k_is)
    (case xa2 => k_is)
    (case xl2 => k_is)
    (case xa10 => k_is)
    (case xl10 => k_is)
    (case xa9 => k_is)
    (case xl9 => k_is)
    (case xa3 => k_is)
    (case xl3 => k_is)
    (case xa4 => k_is)
    (case xl4 => k_is)
    (case xa5 => k_is)
    (case xl5 => k_is)
    (case xa6 => k_is)
    (case xl6 => k_is)
    (case xa12 => k_is)
    (case xl12 => k_is)
    (case xa13 => k_is)
    (case xl13 => k_is)
    (case xa7 => k_is)
    (case xl7 => k_is)
    (case xa8 => k_is)
    (case xl8 => k_is)
    (case xa11 => k_is)
    (case xl11 => k_is)
    (case xa15 => k_is)
    (case xl15 => k_is)
    (case xa14 => k_is)
    (case xl14 => k_is)
    (case xa16 => k_is)
    (case xl16 => k_is)
    (case xa17 => k_is)
    (case xl17 => k_is)
    (case xa21 => k_is)
    (case xl21 => k_is)
    (case xa25 => k_is)
    (case xl25 => k_is)
    (case xa19 => k_is)
    (case xl19 => k_is)
    (case xa23 => k_is)
    (case xl23 => k_is)
    (case xa22 => k_is)
    (case xl22 => k_is)
    (case xa24 => k_is)
    (case xl24 => k_is)
    (case xa26 => k_is)
    (case xl26 => k_is)
    (case e0 => rfl)
    (case xlC0 => k_is)
    (case vC0 => rfl)
    (case e1 => rfl)
    (case xlC1 => k_is)
    (case vC1 => rfl)
    (case e2 => rfl)
    (case xlC2 => k_is)
    (case vC2 => rfl)
    (case e3 => rfl)
    (case xlC3 => k_is)
    (case vC3 => rfl)
    (case e4 => rfl)
    (case xlC4 => k_is)
    (case vC4 => rfl)
    (case xag0 => k_is)
    (case xlg0 => k_is)
    (case vg0 => exact .cons ⟨_, rfl⟩ (.cons ⟨_, rfl⟩ (.cons ⟨_, rfl⟩ (.cons ⟨_, rfl⟩ (.cons ⟨_, rfl⟩ (.cons ⟨_, rfl⟩ (.nil)))))))
    (case xag1 => k_is)
    (case aC0 => kernel_rfl)
    (case xe0 => kernel_rfl)
    (case xk0 => kernel_rfl)
    (case xs0 => kernel_rfl)
    (case xt0 => kernel_rfl)
    (case aC1 => kernel_rfl)
    (case xe1 => kernel_rfl)
    (case xk1 => kernel_rfl)
    (case xs1 => kernel_rfl)
    (case xt1 => kernel_rfl)
    (case aC2 => kernel_rfl)
    (case pg2 => kernel_rfl)
    (case hd2 => kernel_rfl)
    (case po2 => kernel_rfl)
    (case sa2 => kernel_rfl)
    (case mk2 => kernel_rfl)
    (case kc2 => kernel_rfl)
    (case na2_mode => kernel_rfl)
    (case na2_place => kernel_rfl)
    (case na2_home => kernel_rfl)
    (case na2_other => kernel_rfl)
    (case na2_burns => kernel_rfl)
    (case na2_moves => kernel_rfl)
    (case na2_now => kernel_rfl)
    (case a18 => kernel_rfl)
    (case l18 => kernel_rfl)
    (case c18 => kernel_rfl)
    (case k18 => kernel_rfl)
    (case a20 => kernel_rfl)
    (case l20 => kernel_rfl)
    (case c20 => kernel_rfl)
    (case k20 => kernel_rfl)
    (case a0 => kernel_rfl)
    (case i0 => kernel_rfl)
    (case l0 => kernel_rfl)
    (case c0 => kernel_rfl)
    (case k0 => kernel_rfl)
    (case a1 => kernel_rfl)
    (case i1 => kernel_rfl)
    (case l1 => kernel_rfl)
    (case c1 => kernel_rfl)
    (case k1 => kernel_rfl)
    (case a2 => kernel_rfl)
    (case i2 => kernel_rfl)
    (case l2 => kernel_rfl)
    (case c2 => kernel_rfl)
    (case k2 => kernel_rfl)
    (case a10 => kernel_rfl)
    (case i10 => kernel_rfl)
    (case l10 => kernel_rfl)
    (case c10 => kernel_rfl)
    (case k10 => kernel_rfl)
    (case a9 => kernel_rfl)
    (case i9 => kernel_rfl)
    (case l9 => kernel_rfl)
    (case c9 => kernel_rfl)
    (case k9 => kernel_rfl)
    (case a3 => kernel_rfl)
    (case i3 => kernel_rfl)
    (case l3 => kernel_rfl)
    (case c3 => kernel_rfl)
    (case k3 => kernel_rfl)
    (case a4 => kernel_rfl)
    (case i4 => kernel_rfl)
    (case l4 => kernel_rfl)
    (case c4 => kernel_rfl)
    (case k4 => kernel_rfl)
    (case a5 => kernel_rfl)
    (case i5 => kernel_rfl)
    (case l5 => kernel_rfl)
    (case c5 => kernel_rfl)
    (case k5 => kernel_rfl)
    (case a6 => kernel_rfl)
    (case i6 => kernel_rfl)
    (case l6 => kernel_rfl)
    (case c6 => kernel_rfl)
    (case k6 => kernel_rfl)
    (case a12 => kernel_rfl)
    (case i12 => kernel_rfl)
    (case l12 => kernel_rfl)
    (case c12 => kernel_rfl)
    (case k12 => kernel_rfl)
    (case a13 => kernel_rfl)
    (case i13 => kernel_rfl)
    (case l13 => kernel_rfl)
    (case c13 => kernel_rfl)
    (case k13 => kernel_rfl)
    (case a7 => kernel_rfl)
    (case i7 => kernel_rfl)
    (case l7 => kernel_rfl)
    (case c7 => kernel_rfl)
    (case k7 => kernel_rfl)
    (case a8 => kernel_rfl)
    (case i8 => kernel_rfl)
    (case l8 => kernel_rfl)
    (case c8 => kernel_rfl)
    (case k8 => kernel_rfl)
    (case a11 => kernel_rfl)
    (case i11 => kernel_rfl)
    (case l11 => kernel_rfl)
    (case c11 => kernel_rfl)
    (case k11 => kernel_rfl)
    (case a15 => kernel_rfl)
    (case i15 => kernel_rfl)
    (case l15 => kernel_rfl)
    (case c15 => kernel_rfl)
    (case k15 => kernel_rfl)
    (case a14 => kernel_rfl)
    (case i14 => kernel_rfl)
    (case l14 => kernel_rfl)
    (case c14 => kernel_rfl)
    (case k14 => kernel_rfl)
    (case a16 => kernel_rfl)
    (case i16 => kernel_rfl)
    (case l16 => kernel_rfl)
    (case c16 => kernel_rfl)
    (case k16 => kernel_rfl)
    (case a17 => kernel_rfl)
    (case i17 => kernel_rfl)
    (case l17 => kernel_rfl)
    (case c17 => kernel_rfl)
    (case k17 => kernel_rfl)
    (case a21 => kernel_rfl)
    (case l21 => kernel_rfl)
    (case c21 => kernel_rfl)
    (case k21 => kernel_rfl)
    (case a25 => kernel_rfl)
    (case l25 => kernel_rfl)
    (case c25 => kernel_rfl)
    (case k25 => kernel_rfl)
    (case a19 => kernel_rfl)
    (case l19 => kernel_rfl)
    (case c19 => kernel_rfl)
    (case k19 => kernel_rfl)
    (case a23 => kernel_rfl)
    (case l23 => kernel_rfl)
    (case c23 => kernel_rfl)
    (case k23 => kernel_rfl)
    (case a22 => kernel_rfl)
    (case l22 => kernel_rfl)
    (case c22 => kernel_rfl)
    (case k22 => kernel_rfl)
    (case a24 => kernel_rfl)
    (case l24 => kernel_rfl)
    (case c24 => kernel_rfl)
    (case k24 => kernel_rfl)
    (case a26 => kernel_rfl)
    (case l26 => kernel_rfl)
    (case c26 => kernel_rfl)
    (case k26 => kernel_rfl)
    (case lC0 => kernel_rfl)
    (case hC0 => kernel_rfl)
    (case nC0 => kernel_rfl)
    (case tC0 => k_is)
    (case lC1 => kernel_rfl)
    (case hC1 => kernel_rfl)
    (case nC1 => kernel_rfl)
    (case tC1 => k_is)
    (case lC2 => kernel_rfl)
    (case hC2 => kernel_rfl)
    (case nC2 => kernel_rfl)
    (case tC2 => k_is)
    (case lC3 => kernel_rfl)
    (case hC3 => kernel_rfl)
    (case nC3 => kernel_rfl)
    (case tC3 => k_is)
    (case lC4 => kernel_rfl)
    (case hC4 => kernel_rfl)
    (case nC4 => kernel_rfl)
    (case tC4 => k_is)
    (case np0_1 => decide)
    (case np0_2 => decide)
    (case np0_3 => decide)
    (case np0_4 => decide)
    (case np1_2 => decide)
    (case np1_3 => decide)
    (case np1_4 => decide)
    (case np2_3 => decide)
    (case np2_4 => decide)
    (case np3_4 => decide)
    (case bi_abs => kernel_rfl)
    (case bi_int => kernel_rfl)
    (case bi_len => kernel_rfl)
    (case bi_list => kernel_rfl)
    (case bi_min => kernel_rfl)
    (case bi_range => kernel_rfl)
    (case bi_str => kernel_rfl)
    (case bi_sum => kernel_rfl)
    (case bi_tuple => kernel_rfl)
    (case bi_zip => kernel_rfl)
    (case ag0 => kernel_rfl)
    (case lg0 => kernel_rfl)
    (case zg0 => decide)
    (case ag1 => kernel_rfl)
    (case tcl => kernel_rfl)
    (case ts1 => kernel_rfl)
