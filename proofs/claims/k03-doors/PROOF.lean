import PyProof.Rows.All
import Wide.All
import OpenK.AllK
import Wide.FinOn
import HandS.ForMost
import HandS.ForExc
import HandS.Lambda
import HandS.TupAny
import HandS.Style
import HandS.Flow
import HandS.TupLe
import HandS.Dict
import HandS.Small
import HandS.Iter
import KE.DataEq
import HandS.Strs
import HandS.Text
import HandS.Comp
import HandS.SortInts
import PyProof.DictUpdate
import HandS.WordsExc
import HandS.EndTab
import KE.KNestM
import PySem.Challenge.RW_liftstack_k03_doors_that_move
set_option Elab.async false
set_option linter.all false
set_option maxRecDepth 100000
set_option maxHeartbeats 8000000
/-! Pure values and a pure heap over the hand layer. -/
namespace Mi
open PySem PySem.Spec PyProof.Rows L2

/-- a value as a tree; `un`: nothing there yet; `ref i`: the i-th object of the pure heap -/
inductive T where
  | un | non | bl (b : Bool) | int (i : Int) | str (s : List Nat) | tup (ts : List T) | lst (ts : List T) | fix (ts : List T) | dct (kvs : List (T × T)) | ref (i : Nat)

/-- an object that may change -/
inductive Ob where
  | ins (c : Nat) (fs : List T) | lst (ts : List T) | dct (kvs : List (T × T)) | lkd (kvs : List (T × T))

abbrev Hs := List Ob
abbrev Loc := List T

inductive Res (α : Type) where
  | ok (a : α) (M : Hs) | ex (c : Nat) (M : Hs) | bad
def Res.bind {α β : Type} : Res α → (α → Hs → Res β) → Res β
  | .ok a M, k => k a M
  | .ex c M, _ => .ex c M
  | .bad, _ => .bad

inductive SRes where
  | nx (τ : Loc) (M : Hs) | rt (t : T) (M : Hs) | bk (τ : Loc) (M : Hs) | ct (τ : Loc) (M : Hs) | ex (c : Nat) (M : Hs) | bad

abbrev EM := Loc → Hs → Res T
abbrev TM := Loc → Hs → Res Bool
abbrev AM := Loc → Hs → Res (List T)
abbrev SM := Loc → Hs → SRes
abbrev FnM := List T → Hs → Res T

/-- the classes: where they stand, their fields by place -/
structure Tb where
  c : Nat → Addr
  fl : Nat → List Str
  T : List (Addr × (Nat → Nat → Str))
/-- the table at P: each code object that it tells for a place bears the name that nm tells for the place -/
def TabN (H : Hp) (P : Addr) (nm : Nat → Nat → Str) : Prop := ∃ ps : Array Value, H P = some (.tbl ps) ∧ TriplesOk ps.toList ∧ ∀ (pos : Pos) (cv : Value), codeAmong pos ps.toList = some cv → ∃ c, cv = .ref c ∧ H c = some (LamX.CodeO c (nm pos.line pos.col))
def TabsN (T : List (Addr × (Nat → Nat → Str))) (H : Hp) : Prop := ∀ p ∈ T, TabN H p.1 p.2
theorem TabN.ext {H H' : Hp} {P : Addr} {q : Nat → Nat → Str} (t : TabN H P q) (e : ∀ b o, H b = some o → H' b = some o) : TabN H' P q := by
  obtain ⟨ps, h1, h2, h3⟩ := t
  refine ⟨ps, e _ _ h1, h2, fun pos cv hc => ?_⟩
  obtain ⟨c, e1, e2⟩ := h3 pos cv hc
  exact ⟨c, e1, e _ _ e2⟩
theorem TabsN.ext {T : List (Addr × (Nat → Nat → Str))} {H H' : Hp} (t : TabsN T H) (e : ∀ b o, H b = some o → H' b = some o) : TabsN T H' := fun p hp => (t p hp).ext e
theorem TabN.nil {H : Hp} {P : Addr} {q : Nat → Nat → Str} (h : H P = some (.tbl #[])) : TabN H P q := ⟨#[], h, True.intro, fun pos cv hc => by
  have z : codeAmong pos [] = some cv := hc
  simp [codeAmong] at z⟩
/-- not a table of code objects -/
abbrev NT (o : HO) : Prop := ∀ ps, o ≠ .tbl ps

def keyT : T → Option Key
  | .int i => some (.inl i)
  | .str s => some (.inr ⟨s.toArray⟩)
  | _ => none

mutual
inductive Rep (K : PySem.W.Frag) (F : Hp) (ρ : List Addr) : T → V → Prop
  | non : Rep K F ρ .non .non
  | bl (b : Bool) : Rep K F ρ (.bl b) (.bl b)
  | int (i : Int) : Rep K F ρ (.int i) (.int i)
  | str (s : List Nat) : Rep K F ρ (.str s) (.str ⟨s.toArray⟩)
  | ref (i : Nat) (a : Addr) (h : ρ[i]? = some a) : Rep K F ρ (.ref i) (.ref a)
  | tup (ts : List T) (vs : List V) (a : Addr) (h : SqT K F a vs) (r : RepL K F ρ ts vs) : Rep K F ρ (.tup ts) (.ref a)
  | lst (ts : List T) (vs : List V) (a : Addr) (h : F a = some (.lst vs)) (r : RepL K F ρ ts vs) : Rep K F ρ (.lst ts) (.ref a)
  | fix (ts : List T) (vs : List V) (a : Addr) (h : SqL K F a vs) (r : RepL K F ρ ts vs) : Rep K F ρ (.fix ts) (.ref a)
  | dct (kvs : List (T × T)) (vs : List (Key × V)) (a : Addr) (h : F a = some (.dK vs)) (r : RepD K F ρ kvs vs) : Rep K F ρ (.dct kvs) (.ref a)
inductive RepL (K : PySem.W.Frag) (F : Hp) (ρ : List Addr) : List T → List V → Prop
  | nil : RepL K F ρ [] []
  | cons (t : T) (ts : List T) (v : V) (vs : List V) (h : Rep K F ρ t v) (r : RepL K F ρ ts vs) : RepL K F ρ (t :: ts) (v :: vs)
inductive RepD (K : PySem.W.Frag) (F : Hp) (ρ : List Addr) : List (T × T) → List (Key × V) → Prop
  | nil : RepD K F ρ [] []
  | cons (k t : T) (kvs : List (T × T)) (q : Key) (v : V) (vs : List (Key × V)) (e : keyT k = some q) (h : Rep K F ρ t v) (r : RepD K F ρ kvs vs) : RepD K F ρ ((k, t) :: kvs) ((q, v) :: vs)
end

/-- what a run may do: new fixed things, new objects, changes of the objects at ρ; all else that is tracked stays -/
structure Ext (ρ : List Addr) (F H : Hp) (ρ' : List Addr) (F' H' : Hp) : Prop where
  r : ∃ l, ρ' = ρ ++ l
  n : ∀ a ∈ ρ', a ∈ ρ ∨ ∀ o, H a = some o → ¬ NT o
  f : ∀ a o, F a = some o → F' a = some o
  h : ∀ a o, H a = some o → NT o → a ∉ ρ → H' a = some o
  t : ∀ a o, H a = some o → NT o → ∃ o', H' a = some o' ∧ NT o'
  g : ∀ a o, F' a = some o → F a = some o ∨ ∀ o, H a = some o → ¬ NT o

section
variable {K : PySem.W.Frag} {F F' F'' H H' H'' : Hp} {ρ ρ' ρ'' : List Addr}
theorem Ext.refl : Ext ρ F H ρ F H := ⟨⟨[], (List.append_nil _).symm⟩, fun _ h => .inl h, fun _ _ h => h, fun _ _ h _ _ => h, fun _ o h n => ⟨o, h, n⟩, fun _ _ h => .inl h⟩
theorem Ext.trans (a : Ext ρ F H ρ' F' H') (b : Ext ρ' F' H' ρ'' F'' H'') : Ext ρ F H ρ'' F'' H'' := by
  obtain ⟨⟨l, rfl⟩, n, f, h, t, g⟩ := a
  obtain ⟨⟨l', rfl⟩, n', f', h', t', g'⟩ := b
  refine ⟨⟨l ++ l', List.append_assoc _ _ _⟩, fun x hx => ?_, fun x o e => f' x o (f x o e), fun x o e k hx => ?_, fun x o e k => ?_, fun x o e => ?_⟩
  · rcases n' x hx with z | z
    · exact n x z
    · refine .inr fun o e k => ?_
      obtain ⟨o', e', k'⟩ := t x o e k
      exact z o' e' k'
  · refine h' x o (h x o e k hx) k fun m => ?_
    rcases n x m with z | z
    · exact hx z
    · exact z o e k
  · obtain ⟨o', e', k'⟩ := t x o e k
    exact t' x o' e' k'
  · rcases g' x o e with z | z
    · exact g x o z
    · refine .inr fun o e k => ?_
      obtain ⟨o', e', k'⟩ := t x o e k
      exact z o' e' k'
theorem Ext.get (e : Ext ρ F H ρ' F' H') {i : Nat} {a : Addr} (h : ρ[i]? = some a) : ρ'[i]? = some a := by
  obtain ⟨⟨l, rfl⟩, _⟩ := e
  rw [List.getElem?_append_left (List.getElem?_eq_some_iff.mp h).1]
  exact h
theorem Ext.grow {p : Addr} (hp : H p = none) (keep : ∀ a o, H a = some o → H' a = some o) : Ext ρ F H (ρ ++ [p]) F H' := ⟨⟨[p], rfl⟩, fun a h => (List.mem_append.mp h).imp id (fun m => by rw [List.mem_singleton] at m; subst m; intro o e; rw [hp] at e; cases e), fun _ _ e => e, fun a o e _ _ => keep a o e, fun a o e k => ⟨o, keep a o e, k⟩, fun _ _ h => .inl h⟩
theorem rd_mono (e : ∀ a o, F a = some o → F' a = some o) {a : Addr} {u : HO} (h : Rd F a u) : Rd F' a u := by
  rcases h with h | ⟨o, h⟩
  · exact .inl (e _ _ h)
  · exact .inr ⟨o, e _ _ h⟩
theorem sqT_mono (e : ∀ a o, F a = some o → F' a = some o) {a : Addr} {vs : List V} (h : SqT K F a vs) : SqT K F' a vs := by
  rcases h with h | h
  · exact .inl (rd_mono e h)
  · exact .inr h
theorem sqL_mono (e : ∀ a o, F a = some o → F' a = some o) {a : Addr} {vs : List V} (h : SqL K F a vs) : SqL K F' a vs := by
  rcases h with h | h
  · exact .inl (rd_mono e h)
  · exact .inr h
mutual
theorem Rep.mono (e : Ext ρ F H ρ' F' H') : ∀ {t : T} {v : V}, Rep K F ρ t v → Rep K F' ρ' t v
  | _, _, .non => .non
  | _, _, .bl b => .bl b
  | _, _, .int i => .int i
  | _, _, .str s => .str s
  | _, _, .ref i a h => .ref i a (e.get h)
  | _, _, .tup ts vs a h r => .tup ts vs a (sqT_mono e.f h) (RepL.mono e r)
  | _, _, .lst ts vs a h r => .lst ts vs a (e.f _ _ h) (RepL.mono e r)
  | _, _, .fix ts vs a h r => .fix ts vs a (sqL_mono e.f h) (RepL.mono e r)
  | _, _, .dct kvs vs a h r => .dct kvs vs a (e.f _ _ h) (RepD.mono e r)
theorem RepL.mono (e : Ext ρ F H ρ' F' H') : ∀ {ts : List T} {vs : List V}, RepL K F ρ ts vs → RepL K F' ρ' ts vs
  | _, _, .nil => .nil
  | _, _, .cons t ts v vs h r => .cons t ts v vs (Rep.mono e h) (RepL.mono e r)
theorem RepD.mono (e : Ext ρ F H ρ' F' H') : ∀ {ts : List (T × T)} {vs : List (Key × V)}, RepD K F ρ ts vs → RepD K F' ρ' ts vs
  | _, _, .nil => .nil
  | _, _, .cons k t kvs q v vs e' h r => .cons k t kvs q v vs e' (Rep.mono e h) (RepD.mono e r)
end
theorem RepL.length : ∀ {ts : List T} {vs : List V}, RepL K F ρ ts vs → ts.length = vs.length
  | _, _, .nil => rfl
  | _, _, .cons _ _ _ _ _ r => congrArg (· + 1) (RepL.length r)
theorem RepL.get : ∀ {ts : List T} {vs : List V} {i : Nat} {t : T}, RepL K F ρ ts vs → ts[i]? = some t → ∃ v, vs[i]? = some v ∧ Rep K F ρ t v
  | _, _, _, _, .nil, e => by simp at e
  | _, _, 0, _, .cons t ts v vs h r, e => by
    simp only [List.getElem?_cons_zero, Option.some.injEq] at e
    subst e
    exact ⟨v, rfl, h⟩
  | _, _, i + 1, _, .cons t ts v vs h r, e => by
    simp only [List.getElem?_cons_succ] at e
    obtain ⟨w, h1, h2⟩ := RepL.get r e
    exact ⟨w, by simpa using h1, h2⟩
theorem RepL.append : ∀ {ts us : List T} {vs ws : List V}, RepL K F ρ ts vs → RepL K F ρ us ws → RepL K F ρ (ts ++ us) (vs ++ ws)
  | _, _, _, _, .nil, q => q
  | _, _, _, _, .cons t ts v vs h r, q => .cons t _ v _ h (RepL.append r q)
theorem RepL.set {t : T} {v : V} (q : Rep K F ρ t v) : ∀ {ts : List T} {vs : List V} (i : Nat), RepL K F ρ ts vs → RepL K F ρ (ts.set i t) (vs.set i v)
  | _, _, _, .nil => .nil
  | _, _, 0, .cons _ ts _ vs _ r => .cons _ ts _ vs q r
  | _, _, i + 1, .cons t ts v vs h r => .cons t _ v _ h (RepL.set q i r)
end

/-- fields by place against the attributes of the instance -/
structure FsRep (K : PySem.W.Frag) (F : Hp) (ρ : List Addr) (ns : List Str) (fs : List T) (fsV : List (Str × V)) : Prop where
  len : fs.length = ns.length
  at_ : ∀ (i : Nat) (n : Str) (t : T), ns[i]? = some n → fs[i]? = some t → (t = .un ∧ fsV.lookup n = none) ∨ ∃ v, Rep K F ρ t v ∧ fsV.lookup n = some v
  out : ∀ n, n ∉ ns → fsV.lookup n = none
  keys : (fsV.map (·.1)).Nodup ∧ ∀ n ∈ fsV.map (·.1), n ∈ ns

def ObRep (tb : Tb) (K : PySem.W.Frag) (F : Hp) (ρ : List Addr) (H : Hp) (a : Addr) : Ob → Prop
  | .ins c fs => ∃ dx fsV, H a = some (.ins (tb.c c) dx fsV) ∧ FsRep K F ρ (tb.fl c) fs fsV
  | .lst ts => ∃ vs, H a = some (.lst vs) ∧ RepL K F ρ ts vs
  | .dct kvs => ∃ vs, H a = some (.dK vs) ∧ RepD K F ρ kvs vs
  | .lkd kvs => ∃ od vs, H a = some (.frz od (.dK vs)) ∧ RepD K F ρ kvs vs

/-- what is fixed stands; a dict may be locked meanwhile -/
def Hd (H : Hp) (a : Addr) (o : HO) : Prop := H a = some o ∨ ∃ od kvs, o = .dK kvs ∧ H a = some (.frz od o)
structure Sim (tb : Tb) (K : PySem.W.Frag) (ρ : List Addr) (F : Hp) (M : Hs) (H : Hp) : Prop where
  sub : ∀ a o, F a = some o → Hd H a o
  len : ρ.length = M.length
  nd : ρ.Nodup
  fr : ∀ a ∈ ρ, F a = none
  ob : ∀ (i : Nat) (ob : Ob) (a : Addr), M[i]? = some ob → ρ[i]? = some a → ObRep tb K F ρ H a ob
  nt : ∀ a o, F a = some o → NT o
  tab : TabsN tb.T H

theorem Hd.there {H : Hp} {a : Addr} {o : HO} (h : Hd H a o) : ∃ u, H a = some u := by
  rcases h with h | ⟨od, kvs, _, h⟩ <;> exact ⟨_, h⟩
theorem Hd.keep {H H' : Hp} {a : Addr} {o : HO} (h : Hd H a o) (k : ∀ u, H a = some u → H' a = some u) : Hd H' a o := by
  rcases h with h | ⟨od, kvs, e, h⟩
  · exact .inl (k _ h)
  · exact .inr ⟨od, kvs, e, k _ h⟩
/-- the slots of a frame -/
structure LocR (K : PySem.W.Frag) (F : Hp) (ρ : List Addr) (τ : Loc) (σ : L2.St) : Prop where
  len : τ.length = σ.length
  at_ : ∀ (i : Nat) (t : T), τ[i]? = some t → t = .un ∨ ∃ v, σ[i]? = some (some v) ∧ Rep K F ρ t v

section
variable {tb : Tb} {K : PySem.W.Frag} {F F' : Hp} {ρ ρ' : List Addr} {M : Hs} {H : Hp} {τ : Loc} {σ : L2.St}
theorem FsRep.mono (e : Ext ρ F H ρ' F' H') {ns : List Str} {fs : List T} {fsV : List (Str × V)} (h : FsRep K F ρ ns fs fsV) : FsRep K F' ρ' ns fs fsV :=
  ⟨h.len, fun i n t h1 h2 => (h.at_ i n t h1 h2).imp id fun ⟨v, a, b⟩ => ⟨v, a.mono e, b⟩, h.out, h.keys⟩
theorem LocR.mono (e : Ext ρ F H ρ' F' H') (h : LocR K F ρ τ σ) : LocR K F' ρ' τ σ :=
  ⟨h.len, fun i t h1 => (h.at_ i t h1).imp id fun ⟨v, a, b⟩ => ⟨v, a, b.mono e⟩⟩
theorem ObRep.mono {H0 H0' : Hp} (e : Ext ρ F H0 ρ' F' H0') {H' : Hp} {a : Addr} (q : H' a = H a) : ∀ {ob : Ob}, ObRep tb K F ρ H a ob → ObRep tb K F' ρ' H' a ob
  | .ins _ _, ⟨dx, fsV, h, r⟩ => ⟨dx, fsV, by rw [q]; exact h, r.mono e⟩
  | .lst _, ⟨vs, h, r⟩ => ⟨vs, by rw [q]; exact h, r.mono e⟩
  | .dct _, ⟨vs, h, r⟩ => ⟨vs, by rw [q]; exact h, r.mono e⟩
  | .lkd _, ⟨od, vs, h, r⟩ => ⟨od, vs, by rw [q]; exact h, r.mono e⟩
theorem ObRep.there {a : Addr} : ∀ {ob : Ob}, ObRep tb K F ρ H a ob → ∃ o, H a = some o
  | .ins _ _, ⟨dx, fsV, h, r⟩ => ⟨_, h⟩
  | .lst _, ⟨vs, h, r⟩ => ⟨_, h⟩
  | .dct _, ⟨vs, h, r⟩ => ⟨_, h⟩
  | .lkd _, ⟨od, vs, h, r⟩ => ⟨_, h⟩
theorem ObRep.kind {a : Addr} : ∀ {ob : Ob}, ObRep tb K F ρ H a ob → ∃ o, H a = some o ∧ NT o ∧ ∀ φ, o ≠ .ext φ
  | .ins _ _, ⟨dx, fsV, h, r⟩ => ⟨_, h, fun _ z => (by cases z), fun _ z => (by cases z)⟩
  | .lst _, ⟨vs, h, r⟩ => ⟨_, h, fun _ z => (by cases z), fun _ z => (by cases z)⟩
  | .dct _, ⟨vs, h, r⟩ => ⟨_, h, fun _ z => (by cases z), fun _ z => (by cases z)⟩
  | .lkd _, ⟨od, vs, h, r⟩ => ⟨_, h, fun _ z => (by cases z), fun _ z => (by cases z)⟩
theorem Sim.kind (S : Sim tb K ρ F M H) {a : Addr} (h : a ∈ ρ) : ∃ o, H a = some o ∧ NT o ∧ ∀ φ, o ≠ .ext φ := by
  obtain ⟨i, hi, rfl⟩ := List.mem_iff_getElem.mp h
  have hm : i < M.length := by rw [← S.len]; exact hi
  exact (S.ob i M[i] ρ[i] (List.getElem?_eq_getElem hm) (List.getElem?_eq_getElem hi)).kind
theorem Sim.at_ (S : Sim tb K ρ F M H) {i : Nat} {ob : Ob} (h : M[i]? = some ob) : ∃ a, ρ[i]? = some a ∧ ObRep tb K F ρ H a ob := by
  have hi : i < ρ.length := by rw [S.len]; exact (List.getElem?_eq_some_iff.mp h).1
  exact ⟨ρ[i], List.getElem?_eq_getElem hi, S.ob i ob _ h (List.getElem?_eq_getElem hi)⟩
theorem Sim.mem (S : Sim tb K ρ F M H) {a : Addr} (h : a ∈ ρ) : ∃ o, H a = some o := by
  obtain ⟨i, hi, rfl⟩ := List.mem_iff_getElem.mp h
  have hm : i < M.length := by rw [← S.len]; exact hi
  obtain ⟨o, e⟩ := (S.ob i M[i] ρ[i] (List.getElem?_eq_getElem hm) (List.getElem?_eq_getElem hi)).there
  exact ⟨o, e⟩
/-- a new fixed object -/
theorem Sim.lay (S : Sim tb K ρ F M H) {p : Addr} (hp : H p = none) (o : HO) (ho : NT o := by intro _ z; cases z) : Sim tb K ρ (upd F p o) M (upd H p o) ∧ Ext ρ F H ρ (upd F p o) (upd H p o) := by
  have hF : F p = none := by
    cases e : F p with
    | none => rfl
    | some u =>
      obtain ⟨z, q⟩ := (S.sub _ _ e).there
      rw [q] at hp; cases hp
  have kp : ∀ a u, H a = some u → upd H p o a = some u := fun a u e => by rw [upd_ne (ne_of_none e hp)]; exact e
  have ex : Ext ρ F H ρ (upd F p o) (upd H p o) := ⟨⟨[], (List.append_nil _).symm⟩, fun _ h => .inl h, fun a u e => by
    rw [upd_ne (ne_of_none e hF)]; exact e, fun a u e _ _ => kp a u e, fun a u e k => ⟨u, kp a u e, k⟩, fun a u e => by
    by_cases q : a = p
    · subst q; exact .inr fun o z => by rw [hp] at z; cases z
    · rw [upd_ne q] at e; exact .inl e⟩
  refine ⟨⟨fun a u e => ?_, S.len, S.nd, fun a ha => ?_, fun i ob a h1 h2 => ?_, fun a u e => ?_, S.tab.ext kp⟩, ex⟩
  · by_cases q : a = p
    · subst q; rw [upd_same] at e; exact .inl (by rw [upd_same]; exact e)
    · rw [upd_ne q] at e; exact (S.sub a u e).keep fun u h => by rw [upd_ne q]; exact h
  · obtain ⟨u, e⟩ := S.mem ha
    rw [upd_ne (ne_of_none e hp)]
    exact S.fr a ha
  · have r := S.ob i ob a h1 h2
    obtain ⟨u, e⟩ := r.there
    exact r.mono ex (upd_ne (ne_of_none e hp))
  · by_cases q : a = p
    · subst q; rw [upd_same] at e; cases e; exact ho
    · rw [upd_ne q] at e; exact S.nt a u e
/-- a new object that may change -/
theorem Sim.add (S : Sim tb K ρ F M H) {p : Addr} {H' : Hp} {ob : Ob} (hp : H p = none) (keep : ∀ a o, H a = some o → H' a = some o) (h : ObRep tb K F (ρ ++ [p]) H' p ob) :
    Sim tb K (ρ ++ [p]) F (M ++ [ob]) H' ∧ Ext ρ F H (ρ ++ [p]) F H' := by
  have hF : F p = none := by
    cases e : F p with
    | none => rfl
    | some u =>
      obtain ⟨z, q⟩ := (S.sub _ _ e).there
      rw [q] at hp; cases hp
  have ex : Ext ρ F H (ρ ++ [p]) F H' := Ext.grow hp keep
  have hn : p ∉ ρ := fun hm => by obtain ⟨o, e⟩ := S.mem hm; rw [hp] at e; cases e
  refine ⟨⟨fun a o e => (S.sub a o e).keep fun u h => keep _ _ h, by simp [S.len], ?_, fun a ha => ?_, fun i o a h1 h2 => ?_, S.nt, S.tab.ext keep⟩, ex⟩
  · rw [List.nodup_append]
    refine ⟨S.nd, by simp, fun a ha b hb e => ?_⟩
    rw [List.mem_singleton] at hb
    subst hb; subst e
    exact hn ha
  · rcases List.mem_append.mp ha with q | q
    · exact S.fr a q
    · rw [List.mem_singleton] at q; subst q; exact hF
  · by_cases hi : i < M.length
    · rw [List.getElem?_append_left hi] at h1
      rw [List.getElem?_append_left (by rw [S.len]; exact hi)] at h2
      have r := S.ob i o a h1 h2
      obtain ⟨u, e⟩ := r.there
      exact r.mono ex (by rw [keep _ _ e, e])
    · have e1 : i = M.length := by
        have := (List.getElem?_eq_some_iff.mp h1).1
        rw [List.length_append, List.length_singleton] at this
        omega
      subst e1
      rw [List.getElem?_append_right (Nat.le_refl _), Nat.sub_self] at h1
      rw [List.getElem?_append_right (by rw [S.len]; exact Nat.le_refl _), S.len, Nat.sub_self] at h2
      simp only [List.getElem?_cons_zero, Option.some.injEq] at h1 h2
      subst h1; subst h2
      exact h
/-- the tables grow -/
theorem Sim.grow {H' : Hp} (S : Sim tb K ρ F M H) (e : LamX.ExtN H H') (t : TabsN tb.T H') : Sim tb K ρ F M H' ∧ Ext ρ F H ρ F H' := by
  have ex : Ext ρ F H ρ F H' := ⟨⟨[], (List.append_nil _).symm⟩, fun _ h => .inl h, fun _ _ e => e, fun a o q k _ => e a o q k, fun a o q k => ⟨o, e a o q k, k⟩, fun _ _ h => .inl h⟩
  refine ⟨⟨fun a o q => ?_, S.len, S.nd, S.fr, fun i ob a h1 h2 => ?_, S.nt, t⟩, ex⟩
  · rcases S.sub a o q with z | ⟨od, kvs, rfl, z⟩
    · exact .inl (e a o z (S.nt a o q))
    · exact .inr ⟨od, kvs, rfl, e a _ z fun _ z => by cases z⟩
  · have r := S.ob i ob a h1 h2
    obtain ⟨o, q, k, _⟩ := r.kind
    exact r.mono (Ext.refl (H := H)) (by rw [e a o q k, q])
/-- an object changes -/
theorem Ext.put {a : Addr} {o : HO} (ha : a ∈ ρ) (ho : NT o := by intro _ z; cases z) : Ext ρ F H ρ F (upd H a o) := by
  refine ⟨⟨[], (List.append_nil _).symm⟩, fun _ h => .inl h, fun _ _ e => e, fun b u e _ hb => ?_, fun b u e k => ?_, fun _ _ h => .inl h⟩
  · rw [upd_ne (fun z : b = a => hb (by rw [z]; exact ha))]; exact e
  · by_cases z : b = a
    · subst z; exact ⟨_, upd_same, ho⟩
    · exact ⟨u, by rw [upd_ne z]; exact e, k⟩
theorem Sim.put (S : Sim tb K ρ F M H) {i : Nat} {a : Addr} {o : HO} {ob : Ob} (hi : ρ[i]? = some a) (h : ObRep tb K F ρ (upd H a o) a ob) : Sim tb K ρ F (M.set i ob) (upd H a o) := by
  have ha : a ∈ ρ := List.mem_of_getElem? hi
  have hF := S.fr a ha
  obtain ⟨oa, qa, ka, ca⟩ := S.kind ha
  refine ⟨fun b u e => ?_, by simp [S.len], S.nd, S.fr, fun j o' b h1 h2 => ?_, S.nt, fun p hp => ?_⟩
  · exact (S.sub b u e).keep fun z h => by rw [upd_ne (ne_of_none e hF)]; exact h
  · by_cases hj : i = j
    · subst hj
      rw [hi] at h2; cases h2
      have hl : i < M.length := by rw [← S.len]; exact (List.getElem?_eq_some_iff.mp hi).1
      rw [List.getElem?_set_self hl] at h1
      cases h1
      exact h
    · rw [List.getElem?_set_ne hj] at h1
      have ne : b ≠ a := fun e => by
        subst e
        obtain ⟨q1, e1⟩ := List.getElem?_eq_some_iff.mp hi
        obtain ⟨q2, e2⟩ := List.getElem?_eq_some_iff.mp h2
        exact hj ((List.getElem_inj S.nd).mp (e1.trans e2.symm))
      exact (S.ob j o' b h1 h2).mono (Ext.refl (H := H)) (upd_ne ne)
  · obtain ⟨ps, h1, h2, h3⟩ := S.tab p hp
    refine ⟨ps, ?_, h2, fun pos cv hc => ?_⟩
    · rw [upd_ne fun z => ?_]
      · exact h1
      · rw [z, qa] at h1; cases h1; exact ka _ rfl
    · obtain ⟨c, e1, e2⟩ := h3 pos cv hc
      refine ⟨c, e1, ?_⟩
      rw [upd_ne fun z => ?_]
      · exact e2
      · rw [z, qa] at e2; exact ca _ (Option.some.inj e2)
theorem LocR.set (L : LocR K F ρ τ σ) {t : T} {v : V} (r : Rep K F ρ t v) (i : Nat) : LocR K F ρ (τ.set i t) (σ.set i (some v)) := by
  refine ⟨by simp [L.len], fun j u h => ?_⟩
  by_cases hj : i = j
  · subst hj
    have hl : i < τ.length := by
      have := (List.getElem?_eq_some_iff.mp h).1
      simpa using this
    rw [List.getElem?_set_self hl] at h
    cases h
    refine .inr ⟨v, ?_, r⟩
    rw [List.getElem?_set_self (by rw [← L.len]; exact hl)]
  · rw [List.getElem?_set_ne hj] at h
    rw [List.getElem?_set_ne hj]
    exact L.at_ j u h
end

/-! ### readings of mirrors -/
/-- what is wanted of a result -/
def RP {α : Type} (tb : Tb) (K : PySem.W.Frag) (ρ : List Addr) (F H : Hp) (E : Nat → Hp → Prop) (G : α → List Addr → Hp → Hp → Prop) : Res α → Prop
  | .ok a M' => ∀ ρ' F' H', Ext ρ F H ρ' F' H' → Sim tb K ρ' F' M' H' → G a ρ' F' H'
  | .ex c M' => ∀ ρ' F' H', Ext ρ F H ρ' F' H' → Sim tb K ρ' F' M' H' → E c H'
  | .bad => False
theorem RP.mono {α : Type} {tb : Tb} {K : PySem.W.Frag} {ρ ρ' : List Addr} {F F' H H' : Hp} {E : Nat → Hp → Prop} {G : α → List Addr → Hp → Hp → Prop} (e : Ext ρ F H ρ' F' H') : ∀ {r : Res α}, RP tb K ρ F H E G r → RP tb K ρ' F' H' E G r
  | .ok _ _, h => fun ρ2 F2 H2 e2 S => h ρ2 F2 H2 (e.trans e2) S
  | .ex _ _, h => fun ρ2 F2 H2 e2 S => h ρ2 F2 H2 (e.trans e2) S
  | .bad, h => h
theorem RP.imp {α : Type} {tb : Tb} {K : PySem.W.Frag} {ρ : List Addr} {F H : Hp} {E : Nat → Hp → Prop} {G G' : α → List Addr → Hp → Hp → Prop} (g : ∀ a ρ' F' H', Ext ρ F H ρ' F' H' → G a ρ' F' H' → G' a ρ' F' H') : ∀ {r : Res α}, RP tb K ρ F H E G r → RP tb K ρ F H E G' r
  | .ok _ _, h => fun ρ2 F2 H2 e2 S => g _ _ _ _ e2 (h ρ2 F2 H2 e2 S)
  | .ex _ _, h => fun ρ2 F2 H2 e2 S => h ρ2 F2 H2 e2 S
  | .bad, h => h
theorem RP.bind {α β : Type} {tb : Tb} {K : PySem.W.Frag} {ρ : List Addr} {F H : Hp} {E : Nat → Hp → Prop} {G : β → List Addr → Hp → Hp → Prop} {k : α → Hs → Res β} : ∀ {r : Res α}, RP tb K ρ F H E G (r.bind k) →
    RP tb K ρ F H E (fun a ρ' F' H' => ∃ M', r = .ok a M' ∧ Sim tb K ρ' F' M' H' ∧ RP tb K ρ' F' H' E G (k a M')) r
  | .ok _ M, h => fun ρ2 F2 H2 e2 S => ⟨M, rfl, S, RP.mono e2 h⟩
  | .ex _ _, h => fun ρ2 F2 H2 e2 S => h ρ2 F2 H2 e2 S
  | .bad, h => h

abbrev WE1 (tb : Tb) (W : WX) (σ : L2.St) : Nat → Hp → Prop := fun c H => W (.ref (tb.c c)) none σ H
def tM (tb : Tb) (K : PySem.W.Frag) (W : WX) (m : EM) : TE := fun σ H Q => ∃ ρ F M τ, Sim tb K ρ F M H ∧ LocR K F ρ τ σ ∧ RP tb K ρ F H (WE1 tb W σ) (fun t ρ' F' H' => ∀ v, Rep K F' ρ' t v → Q v H') (m τ M)
def tTM (tb : Tb) (K : PySem.W.Frag) (W : WX) (m : TM) : TT := fun σ H Q => ∃ ρ F M τ, Sim tb K ρ F M H ∧ LocR K F ρ τ σ ∧ RP tb K ρ F H (WE1 tb W σ) (fun b _ _ H' => Q b H') (m τ M)
def tAM (tb : Tb) (K : PySem.W.Frag) (W : WX) (m : AM) : TA := fun σ H Q => ∃ ρ F M τ, Sim tb K ρ F M H ∧ LocR K F ρ τ σ ∧ RP tb K ρ F H (WE1 tb W σ) (fun ts ρ' F' H' => ∀ vs, RepL K F' ρ' ts vs → Q vs H') (m τ M)

def SP1 (tb : Tb) (K : PySem.W.Frag) (W : WX) (ρ : List Addr) (F H : Hp) (D : Ends) : SRes → Prop
  | .nx τ' M' => ∀ ρ' F' H' σ', Ext ρ F H ρ' F' H' → Sim tb K ρ' F' M' H' → LocR K F' ρ' τ' σ' → D.nx σ' H'
  | .rt t M' => ∀ ρ' F' H' v, Ext ρ F H ρ' F' H' → Sim tb K ρ' F' M' H' → Rep K F' ρ' t v → D.rt v H'
  | .bk τ' M' => ∀ ρ' F' H' σ', Ext ρ F H ρ' F' H' → Sim tb K ρ' F' M' H' → LocR K F' ρ' τ' σ' → D.bk σ' H'
  | .ct τ' M' => ∀ ρ' F' H' σ', Ext ρ F H ρ' F' H' → Sim tb K ρ' F' M' H' → LocR K F' ρ' τ' σ' → D.ct σ' H'
  | .ex c M' => ∀ ρ' F' H' σ', Ext ρ F H ρ' F' H' → Sim tb K ρ' F' M' H' → W (.ref (tb.c c)) none σ' H'
  | .bad => False
theorem SP1.mono {tb : Tb} {K : PySem.W.Frag} {W : WX} {ρ ρ' : List Addr} {F F' H H' : Hp} {D : Ends} (e : Ext ρ F H ρ' F' H') : ∀ {r : SRes}, SP1 tb K W ρ F H D r → SP1 tb K W ρ' F' H' D r
  | .nx _ _, h => fun ρ2 F2 H2 σ' e2 S L => h ρ2 F2 H2 σ' (e.trans e2) S L
  | .rt _ _, h => fun ρ2 F2 H2 v e2 S R => h ρ2 F2 H2 v (e.trans e2) S R
  | .bk _ _, h => fun ρ2 F2 H2 σ' e2 S L => h ρ2 F2 H2 σ' (e.trans e2) S L
  | .ct _ _, h => fun ρ2 F2 H2 σ' e2 S L => h ρ2 F2 H2 σ' (e.trans e2) S L
  | .ex _ _, h => fun ρ2 F2 H2 σ' e2 S => h ρ2 F2 H2 σ' (e.trans e2) S
  | .bad, h => h
def tSM (tb : Tb) (K : PySem.W.Frag) (W : WX) (m : SM) : TS := fun D σ H => ∃ ρ F M τ, Sim tb K ρ F M H ∧ LocR K F ρ τ σ ∧ SP1 tb K W ρ F H D (m τ M)
end Mi
namespace Mi
open PySem PySem.Spec PyProof.Rows L2

section
variable {X : Cx}
theorem pe_imp {e : Expr} {t t' : TE} (h : PE X e t) (g : ∀ σ H Q, t' σ H Q → t σ H Q) : PE X e t' := ⟨fun pins s σ H Q I q => h.run pins s σ H Q I (g σ H Q q)⟩
theorem pt_imp {e : Expr} {t t' : TT} (h : PT X e t) (g : ∀ σ H Q, t' σ H Q → t σ H Q) : PT X e t' := ⟨fun pins s σ H Q I q => h.run pins s σ H Q I (g σ H Q q)⟩
theorem pw_imp {e : Expr} {t t' : TT} (h : PW X e t) (g : ∀ σ H Q, t' σ H Q → t σ H Q) : PW X e t' := ⟨fun wh pins s σ H Q I q => h.run wh pins s σ H Q I (g σ H Q q)⟩
theorem pa_imp {e : List Expr} {t t' : TA} (h : PA X e t) (g : ∀ σ H Q, t' σ H Q → t σ H Q) : PA X e t' := ⟨fun pos pins s σ H Q I q => h.run pos pins s σ H Q I (g σ H Q q)⟩
theorem ps_imp {e : Stmt} {t t' : TS} (h : PS X e t) (g : ∀ D σ H, t' D σ H → t D σ H) : PS X e t' := ⟨fun pins s σ H D I q => h.run pins s σ H D I (g D σ H q)⟩
theorem pss_imp {e : List Stmt} {t t' : TS} (h : PSs X e t) (g : ∀ D σ H, t' D σ H → t D σ H) : PSs X e t' := ⟨fun pins s σ H D I q => h.run pins s σ H D I (g D σ H q)⟩
theorem pe_alt {e : Expr} {t t' : TE} (h : PE X e t) (h' : PE X e t') : PE X e (fun σ H Q => t σ H Q ∨ t' σ H Q) := ⟨fun pins s σ H Q I q => q.elim (h.run pins s σ H Q I) (h'.run pins s σ H Q I)⟩
theorem ps_alt {e : Stmt} {t t' : TS} (h : PS X e t) (h' : PS X e t') : PS X e (fun D σ H => t D σ H ∨ t' D σ H) := ⟨fun pins s σ H D I q => q.elim (h.run pins s σ H D I) (h'.run pins s σ H D I)⟩
end

abbrev GM (K : PySem.W.Frag) (Q : VK) : T → List Addr → Hp → Hp → Prop := fun t ρ' F' H' => ∀ v, Rep K F' ρ' t v → Q v H'
theorem RP.here {α : Type} {tb : Tb} {K : PySem.W.Frag} {ρ : List Addr} {F : Hp} {M : Hs} {H : Hp} {E : Nat → Hp → Prop} {G : α → List Addr → Hp → Hp → Prop} {a : α} (S : Sim tb K ρ F M H) (h : RP tb K ρ F H E G (.ok a M)) : G a ρ F H := h ρ F H .refl S

def okT : T → Hs → Res T
  | .un, _ => .bad
  | t, M => .ok t M
theorem okT_of {t : T} {M : Hs} (h : t ≠ .un) : okT t M = .ok t M := by
  cases t <;> first | rfl | exact absurd rfl h

/-! ### mirrors of expressions -/
def mC (t : T) : EM := fun _ M => .ok t M
def mVar (i : Nat) : EM := fun τ M => okT (τ.getD i .un) M
def mOp2 (f : T → T → Hs → Res T) (a b : EM) : EM := fun τ M => (a τ M).bind fun x M1 => (b τ M1).bind fun y M2 => f x y M2
def mOp1 (f : T → Hs → Res T) (a : EM) : EM := fun τ M => (a τ M).bind f
def mNil : AM := fun _ M => .ok [] M
def mCons (a : EM) (b : AM) : AM := fun τ M => (a τ M).bind fun x M1 => (b τ M1).bind fun xs M2 => .ok (x :: xs) M2
def mApp (f : List T → Hs → Res T) (a : AM) : EM := fun τ M => (a τ M).bind f
def mBool (a : EM) : TM := fun τ M => (a τ M).bind fun t M1 => match t with | .bl b => .ok b M1 | _ => .bad
def mOfB (a : TM) : EM := fun τ M => (a τ M).bind fun b M1 => .ok (.bl b) M1
def mAnd (a b : TM) : TM := fun τ M => (a τ M).bind fun x M1 => if x then b τ M1 else .ok false M1
def mOr (a b : TM) : TM := fun τ M => (a τ M).bind fun x M1 => if x then .ok true M1 else b τ M1
def mNot (a : TM) : TM := fun τ M => (a τ M).bind fun x M1 => .ok (!x) M1
def mIfE (c : TM) (a b : EM) : EM := fun τ M => (c τ M).bind fun x M1 => if x then a τ M1 else b τ M1
def mTup (a : AM) : EM := fun τ M => (a τ M).bind fun xs M1 => .ok (.tup xs) M1
def mLst (a : AM) : EM := fun τ M => (a τ M).bind fun xs M1 => .ok (.lst xs) M1
/-- a list that may change -/
def mLstR (a : AM) : EM := fun τ M => (a τ M).bind fun xs M1 => .ok (.ref M1.length) (M1 ++ [.lst xs])

section
variable {X : Cx} {tb : Tb} {W : WX} {σ : L2.St} {H : Hp} {Q : VK}

theorem mE_var (i : Nat) {x : Str} {pos : Pos} (hN : X.N[i]? = some x := by rfl) (hv : Vis X.env.scope x := by first | exact Or.inl rfl | exact Or.inr (Or.inl rfl) | exact Or.inr (Or.inr rfl))
    (hd : (x == ("__debug__" : Str)) = false := by decide) (hcd : (x == ("__classdict__" : Str)) = false := by decide) : PE X (.Name x pos) (tM tb X.K W (mVar i)) := by
  refine pe_imp (pe_var hN hv hd hcd) fun σ H Q h => ?_
  obtain ⟨ρ, F, M, τ, S, L, p⟩ := h
  unfold mVar at p
  cases e : τ[i]? with
  | none =>
    rw [List.getD_eq_getElem?_getD, e] at p
    exact p.elim
  | some t =>
    rw [List.getD_eq_getElem?_getD, e] at p
    rcases L.at_ i t e with rfl | ⟨v, h1, h2⟩
    · exact p.elim
    · have hu : t ≠ .un := fun z => by subst z; cases h2
      rw [show Option.getD (some t) T.un = t from rfl, okT_of hu] at p
      exact ⟨v, h1, RP.here S p v h2⟩

theorem mE_const {e : Expr} {t : T} {v : V} (h : PE X e (tC v)) (r : ∀ (F : Hp) (ρ : List Addr), Rep X.K F ρ t v) : PE X e (tM tb X.K W (mC t)) := by
  refine pe_imp h fun σ H Q h => ?_
  obtain ⟨ρ, F, M, τ, S, L, p⟩ := h
  exact RP.here S p v (r F ρ)
theorem mE_int {i : Int} {j : Nat} {pos : Pos} : PE X (.Constant (.int i) j pos) (tM tb X.K W (mC (.int i))) := mE_const pe_int fun _ _ => .int i
theorem mE_bl {b : Bool} {j : Nat} {pos : Pos} : PE X (.Constant (.bool b) j pos) (tM tb X.K W (mC (.bl b))) := mE_const pe_bl fun _ _ => .bl b
theorem mE_non {j : Nat} {pos : Pos} : PE X (.Constant .none j pos) (tM tb X.K W (mC .non)) := mE_const pe_non fun _ _ => .non
theorem mE_str (s : List Nat) {x : Str} {j : Nat} {pos : Pos} (h : x = ⟨s.toArray⟩ := by rfl) : PE X (.Constant (.str x) j pos) (tM tb X.K W (mC (.str s))) := by
  subst h
  exact mE_const pe_str fun _ _ => .str s
theorem mE_glob {x : Str} {t : T} {v : V} {u : Value} {pos : Pos} (hm : X.mg x = some u) (r : RelV v u) (q : ∀ (F : Hp) (ρ : List Addr), Rep X.K F ρ t v) (hg : Gl X x := by rfl) (hd : (x == ("__debug__" : Str)) = false := by decide) :
    PE X (.Name x pos) (tM tb X.K W (mC t)) := mE_const (pe_glob hg hm r hd) q

/-- an operation on values -/
def Op2 (tb : Tb) (K : PySem.W.Frag) (f : T → T → Hs → Res T) (r : R2) : Prop :=
  ∀ (E : Nat → Hp → Prop) (ρ : List Addr) (F : Hp) (M : Hs) (H : Hp) (Q : VK) (a b : T) (x y : V), Sim tb K ρ F M H → Rep K F ρ a x → Rep K F ρ b y → RP tb K ρ F H E (GM K Q) (f a b M) → r x y H Q
def Op1 (tb : Tb) (K : PySem.W.Frag) (f : T → Hs → Res T) (r : V → Hp → VK → Prop) : Prop :=
  ∀ (E : Nat → Hp → Prop) (ρ : List Addr) (F : Hp) (M : Hs) (H : Hp) (Q : VK) (a : T) (x : V), Sim tb K ρ F M H → Rep K F ρ a x → RP tb K ρ F H E (GM K Q) (f a M) → r x H Q
def OpN (tb : Tb) (K : PySem.W.Frag) (f : List T → Hs → Res T) (r : List V → Hp → VK → Prop) : Prop :=
  ∀ (E : Nat → Hp → Prop) (ρ : List Addr) (F : Hp) (M : Hs) (H : Hp) (Q : VK) (a : List T) (x : List V), Sim tb K ρ F M H → RepL K F ρ a x → RP tb K ρ F H E (GM K Q) (f a M) → r x H Q

theorem one {f : T → Hs → Res T} {r : V → Hp → VK → Prop} {ma : EM} {K : PySem.W.Frag} (hf : Op1 tb K f r) (h : tM tb K W (mOp1 f ma) σ H Q) : tUn r (tM tb K W ma) σ H Q := by
  obtain ⟨ρ, F, M, τ, S, L, p⟩ := h
  refine ⟨ρ, F, M, τ, S, L, (RP.bind p).imp fun a ρ1 F1 H1 e1 q v r1 => ?_⟩
  obtain ⟨M1, _, S1, p1⟩ := q
  exact hf _ ρ1 F1 M1 H1 Q a v S1 r1 p1
theorem two {f : T → T → Hs → Res T} {r : R2} {ma mb : EM} {K : PySem.W.Frag} (hf : Op2 tb K f r) (h : tM tb K W (mOp2 f ma mb) σ H Q) : tOp r (tM tb K W ma) (tM tb K W mb) σ H Q := by
  obtain ⟨ρ, F, M, τ, S, L, p⟩ := h
  refine ⟨ρ, F, M, τ, S, L, (RP.bind p).imp fun a ρ1 F1 H1 e1 q v r1 => ?_⟩
  obtain ⟨M1, _, S1, p1⟩ := q
  refine ⟨ρ1, F1, M1, τ, S1, L.mono e1, (RP.bind p1).imp fun b ρ2 F2 H2 e2 q2 w r2 => ?_⟩
  obtain ⟨M2, _, S2, p2⟩ := q2
  exact hf _ ρ2 F2 M2 H2 Q a b v w S2 (r1.mono e2) r2 p2
theorem many {f : List T → Hs → Res T} {r : List V → Hp → VK → Prop} {ma : AM} {K : PySem.W.Frag} (hf : OpN tb K f r) (h : tM tb K W (mApp f ma) σ H Q) : tCB r (tAM tb K W ma) σ H Q := by
  obtain ⟨ρ, F, M, τ, S, L, p⟩ := h
  refine ⟨ρ, F, M, τ, S, L, (RP.bind p).imp fun a ρ1 F1 H1 e1 q v r1 => ?_⟩
  obtain ⟨M1, _, S1, p1⟩ := q
  exact hf _ ρ1 F1 M1 H1 Q a v S1 r1 p1

theorem mE_op {op : Operator} {a b : Expr} {pos : Pos} {f : T → T → Hs → Res T} {r : R2} {ma mb : EM} (ho : OpR X (binaryOp op) r) (hf : Op2 tb X.K f r) (ha : PE X a (tM tb X.K W ma)) (hb : PE X b (tM tb X.K W mb)) :
    PE X (.BinOp a op b pos) (tM tb X.K W (mOp2 f ma mb)) := pe_imp (pe_op ho ha hb) fun _ _ _ h => two hf h
theorem mE_un {op : UnaryOp} {a : Expr} {pos : Pos} {f : T → Hs → Res T} {r : V → Hp → VK → Prop} {ma : EM} (ho : UnR X (unaryOp op) r) (hf : Op1 tb X.K f r) (ha : PE X a (tM tb X.K W ma)) :
    PE X (.UnaryOp op a pos) (tM tb X.K W (mOp1 f ma)) := pe_imp (pe_un ho ha) fun _ _ _ h => one hf h
theorem mE_cmp {op : CmpOp} {a b : Expr} {pos : Pos} {f : T → T → Hs → Res T} {r : R2} {ma mb : EM} (ho : OpR X (compareOp op) r) (hf : Op2 tb X.K f r) (ha : PE X a (tM tb X.K W ma)) (hb : PE X b (tM tb X.K W mb))
    (hm : behindInMarks op b = false := by first | exact nomark _ | rfl) : PE X (.Compare a [op] [b] pos) (tM tb X.K W (mOp2 f ma mb)) := pe_imp (pe_cmpR ho ha hb hm) fun _ _ _ h => two hf h
theorem bools {m : EM} {K : PySem.W.Frag} {Qb : Bool → Hp → Prop} (h : tTM tb K W (mBool m) σ H Qb) : tM tb K W m σ H (fun x H' => ∃ k, x = .bl k ∧ Qb k H') := by
  obtain ⟨ρ, F, M, τ, S, L, p⟩ := h
  refine ⟨ρ, F, M, τ, S, L, (RP.bind p).imp fun a ρ1 F1 H1 e1 q v r1 => ?_⟩
  obtain ⟨M1, _, S1, p1⟩ := q
  cases r1 with
  | bl b => exact ⟨b, rfl, RP.here S1 p1⟩
  | _ => exact p1.elim
theorem mT_cmp {op : CmpOp} {a b : Expr} {pos : Pos} {f : T → T → Hs → Res T} {r : R2} {ma mb : EM} (ho : OpR X (compareOp op) r) (hf : Op2 tb X.K f r) (ha : PE X a (tM tb X.K W ma)) (hb : PE X b (tM tb X.K W mb))
    (hm : behindInMarks op b = false := by first | exact nomark _ | rfl) : PT X (.Compare a [op] [b] pos) (tTM tb X.K W (mBool (mOp2 f ma mb))) := pt_imp (pt_cmpR ho ha hb hm) fun _ _ _ h => two hf (bools h)
/-- an expression that gives a bool, as a test -/
theorem mT_val {e : Expr} {m : EM} (h : PE X e (tM tb X.K W m)) (he : ∀ whole, isTrue e X.env whole = (do let v ← whole; standAt e.pos; holding [v] (truthy v)) := by intro _; rfl) : PT X e (tTM tb X.K W (mBool m)) :=
  pt_imp (pt_val h he) fun _ _ _ h => bools h
theorem mT_and {a b : Expr} {rest : List Expr} {pos : Pos} {ma mb : TM} (ha : PT X a (tTM tb X.K W ma)) (hb : PW X (.BoolOp .And (b :: rest) pos) (tTM tb X.K W mb)) : PW X (.BoolOp .And (a :: b :: rest) pos) (tTM tb X.K W (mAnd ma mb)) := by
  refine pw_imp (pw_and ha hb) fun σ H Q h => ?_
  obtain ⟨ρ, F, M, τ, S, L, p⟩ := h
  refine ⟨ρ, F, M, τ, S, L, (RP.bind p).imp fun x ρ1 F1 H1 e1 q => ?_⟩
  obtain ⟨M1, _, S1, p1⟩ := q
  cases x with
  | true => exact ⟨ρ1, F1, M1, τ, S1, L.mono e1, p1⟩
  | false => exact RP.here S1 p1
theorem mT_or {a b : Expr} {rest : List Expr} {pos : Pos} {ma mb : TM} (ha : PT X a (tTM tb X.K W ma)) (hb : PW X (.BoolOp .Or (b :: rest) pos) (tTM tb X.K W mb)) : PW X (.BoolOp .Or (a :: b :: rest) pos) (tTM tb X.K W (mOr ma mb)) := by
  refine pw_imp (pw_or ha hb) fun σ H Q h => ?_
  obtain ⟨ρ, F, M, τ, S, L, p⟩ := h
  refine ⟨ρ, F, M, τ, S, L, (RP.bind p).imp fun x ρ1 F1 H1 e1 q => ?_⟩
  obtain ⟨M1, _, S1, p1⟩ := q
  cases x with
  | true => exact RP.here S1 p1
  | false => exact ⟨ρ1, F1, M1, τ, S1, L.mono e1, p1⟩
theorem mT_not {a : Expr} {pos : Pos} {ma : TM} (ha : PT X a (tTM tb X.K W ma)) : PT X (.UnaryOp .Not a pos) (tTM tb X.K W (mNot ma)) := by
  refine pt_imp (pt_not ha) fun σ H Q h => ?_
  obtain ⟨ρ, F, M, τ, S, L, p⟩ := h
  refine ⟨ρ, F, M, τ, S, L, (RP.bind p).imp fun x ρ1 F1 H1 e1 q => ?_⟩
  obtain ⟨M1, _, S1, p1⟩ := q
  exact RP.here S1 p1
/-- the same as values: all bools -/
theorem mE_notB {a : Expr} {pos : Pos} {ma : EM} (ha : PE X a (tM tb X.K W ma)) : PE X (.UnaryOp .Not a pos) (tM tb X.K W (mOfB (mNot (mBool ma)))) := by
  refine pe_imp (pe_not ha) fun σ H Q h => ?_
  refine bools (Qb := fun c H1 => Q (.bl (!c)) H1) ?_
  obtain ⟨ρ, F, M, τ, S, L, p⟩ := h
  refine ⟨ρ, F, M, τ, S, L, ?_⟩
  have p' := RP.bind p
  unfold mNot at p'
  refine (RP.bind p').imp fun x ρ1 F1 H1 e1 q => ?_
  obtain ⟨M1, e2, S1, p1⟩ := q
  obtain ⟨M2, e3, S2, p2⟩ := RP.here S1 p1
  exact RP.here S2 p2 _ (.bl _)
theorem mE_and {a b : Expr} {rest : List Expr} {pos : Pos} {ma mb : EM} (ha : PE X a (tM tb X.K W ma)) (hb : PE X (.BoolOp .And (b :: rest) pos) (tM tb X.K W mb)) : PE X (.BoolOp .And (a :: b :: rest) pos) (tM tb X.K W (mIfE (mBool ma) mb (mC (.bl false)))) := by
  refine pe_imp (pe_and ha hb) fun σ H Q h => ?_
  refine bools (Qb := fun c H1 => if c = true then tM tb X.K W mb σ H1 Q else Q (.bl false) H1) ?_
  obtain ⟨ρ, F, M, τ, S, L, p⟩ := h
  refine ⟨ρ, F, M, τ, S, L, (RP.bind p).imp fun x ρ1 F1 H1 e1 q => ?_⟩
  obtain ⟨M1, _, S1, p1⟩ := q
  cases x with
  | true => exact ⟨ρ1, F1, M1, τ, S1, L.mono e1, p1⟩
  | false => exact RP.here S1 p1 _ (.bl _)
theorem mE_or {a b : Expr} {rest : List Expr} {pos : Pos} {ma mb : EM} (ha : PE X a (tM tb X.K W ma)) (hb : PE X (.BoolOp .Or (b :: rest) pos) (tM tb X.K W mb)) : PE X (.BoolOp .Or (a :: b :: rest) pos) (tM tb X.K W (mIfE (mBool ma) (mC (.bl true)) mb)) := by
  refine pe_imp (pe_or ha hb) fun σ H Q h => ?_
  refine bools (Qb := fun c H1 => if c = true then Q (.bl true) H1 else tM tb X.K W mb σ H1 Q) ?_
  obtain ⟨ρ, F, M, τ, S, L, p⟩ := h
  refine ⟨ρ, F, M, τ, S, L, (RP.bind p).imp fun x ρ1 F1 H1 e1 q => ?_⟩
  obtain ⟨M1, _, S1, p1⟩ := q
  cases x with
  | true => exact RP.here S1 p1 _ (.bl _)
  | false => exact ⟨ρ1, F1, M1, τ, S1, L.mono e1, p1⟩
theorem mE_ifE {c a b : Expr} {pos : Pos} {mc : TM} {ma mb : EM} (hc : PT X c (tTM tb X.K W mc)) (ha : PE X a (tM tb X.K W ma)) (hb : PE X b (tM tb X.K W mb)) : PE X (.IfExp c a b pos) (tM tb X.K W (mIfE mc ma mb)) := by
  refine pe_imp (pe_ifExp hc ha hb) fun σ H Q h => ?_
  obtain ⟨ρ, F, M, τ, S, L, p⟩ := h
  refine ⟨ρ, F, M, τ, S, L, (RP.bind p).imp fun x ρ1 F1 H1 e1 q => ?_⟩
  obtain ⟨M1, _, S1, p1⟩ := q
  cases x with
  | true => exact ⟨ρ1, F1, M1, τ, S1, L.mono e1, p1⟩
  | false => exact ⟨ρ1, F1, M1, τ, S1, L.mono e1, p1⟩

/-! ### argument lists, displays -/
theorem mA_nil : PA X [] (tAM tb X.K W mNil) := pa_imp pa_nil fun σ H Q ⟨ρ, F, M, τ, S, L, p⟩ => RP.here S p [] .nil
theorem mA_cons {e : Expr} {es : List Expr} {ma : EM} {mb : AM} (ha : PE X e (tM tb X.K W ma)) (hb : PA X es (tAM tb X.K W mb)) (hs : starEach (e :: es) X.env = (false, eval e X.env) :: starEach es X.env := by rfl) :
    PA X (e :: es) (tAM tb X.K W (mCons ma mb)) := by
  refine pa_imp (pa_cons ha hb hs) fun σ H Q h => ?_
  obtain ⟨ρ, F, M, τ, S, L, p⟩ := h
  refine ⟨ρ, F, M, τ, S, L, (RP.bind p).imp fun a ρ1 F1 H1 e1 q v r1 => ?_⟩
  obtain ⟨M1, _, S1, p1⟩ := q
  refine ⟨ρ1, F1, M1, τ, S1, L.mono e1, (RP.bind p1).imp fun b ρ2 F2 H2 e2 q2 w r2 => ?_⟩
  obtain ⟨M2, _, S2, p2⟩ := q2
  exact RP.here S2 p2 _ (.cons _ _ _ _ (r1.mono e2) r2)
/-- a new fixed list, tuple out of values that stand -/
theorem new_lst {K : PySem.W.Frag} {ρ : List Addr} {F : Hp} {M : Hs} {E : Nat → Hp → Prop} {ts : List T} {vs : List V} (S : Sim tb K ρ F M H) (r : RepL K F ρ ts vs) (p : RP tb K ρ F H E (GM K Q) (.ok (.lst ts) M)) (q : Addr) (hq : H q = none) : Q (.ref q) (upd H q (.lst vs)) := by
  obtain ⟨S', e⟩ := S.lay hq (.lst vs)
  exact p ρ _ _ e S' _ (.lst ts vs q upd_same (r.mono e))
theorem new_tup {K : PySem.W.Frag} {ρ : List Addr} {F : Hp} {M : Hs} {E : Nat → Hp → Prop} {ts : List T} {vs : List V} (S : Sim tb K ρ F M H) (r : RepL K F ρ ts vs) (p : RP tb K ρ F H E (GM K Q) (.ok (.tup ts) M)) (q : Addr) (hq : H q = none) : Q (.ref q) (upd H q (.tup vs)) := by
  obtain ⟨S', e⟩ := S.lay hq (.tup vs)
  exact p ρ _ _ e S' _ (.tup ts vs q (.inl (.inl upd_same)) (r.mono e))
theorem new_lstR {K : PySem.W.Frag} {ρ : List Addr} {F : Hp} {M : Hs} {E : Nat → Hp → Prop} {ts : List T} {vs : List V} (S : Sim tb K ρ F M H) (r : RepL K F ρ ts vs) (p : RP tb K ρ F H E (GM K Q) (.ok (.ref M.length) (M ++ [.lst ts]))) (q : Addr) (hq : H q = none) : Q (.ref q) (upd H q (.lst vs)) := by
  have kp : ∀ a o, H a = some o → upd H q (.lst vs) a = some o := fun a o e => by rw [upd_ne (ne_of_none e hq)]; exact e
  have ex : Ext ρ F H (ρ ++ [q]) F (upd H q (.lst vs)) := .grow hq kp
  obtain ⟨S', e⟩ := S.add (H' := upd H q (.lst vs)) (ob := .lst ts) hq kp ⟨vs, upd_same, r.mono ex⟩
  exact p _ _ _ e S' _ (.ref _ q (by rw [← S.len, List.getElem?_append_right (Nat.le_refl _), Nat.sub_self]; rfl))
/-- how many values a display has -/
def Len (n : Nat) (m : AM) : Prop := ∀ τ M xs M', m τ M = .ok xs M' → xs.length = n
theorem Len.nil : Len 0 mNil := fun τ M xs M' e => by cases e; rfl
theorem Len.cons {n : Nat} {a : EM} {b : AM} (h : Len n b) : Len (n + 1) (mCons a b) := fun τ M xs M' e => by
  unfold mCons at e
  cases ea : a τ M with
  | ok x M1 =>
    rw [ea] at e
    cases eb : b τ M1 with
    | ok ys M2 =>
      simp only [Res.bind, eb] at e
      cases e
      simp [h τ M1 ys _ eb]
    | ex c M2 => simp [Res.bind, eb] at e
    | bad => simp [Res.bind, eb] at e
  | ex c M1 => rw [ea] at e; cases e
  | bad => rw [ea] at e; cases e
theorem small_line {n : Nat} (h : n ≤ 1000) : n ≤ sizeLine := Nat.le_trans h (by rw [sizeLine_eq]; decide)
theorem mE_tup {es : List Expr} {k n : Nat} {pos : Pos} {m : AM} (h : PA X es (tAM tb X.K W m)) (hl : Len n m) (hn : n ≤ 1000 := by decide) : PE X (.Tuple es k pos) (tM tb X.K W (mTup m)) := by
  refine pe_imp (pe_tup h) fun σ H Q h => ?_
  obtain ⟨ρ, F, M, τ, S, L, p⟩ := h
  refine ⟨ρ, F, M, τ, S, L, (RP.bind p).imp fun a ρ1 F1 H1 e1 q v r1 => ?_⟩
  obtain ⟨M1, e2, S1, p1⟩ := q
  exact ⟨by rw [← r1.length, hl _ _ _ _ e2]; exact small_line hn, new_tup S1 r1 p1⟩
theorem mE_lst {es : List Expr} {n : Nat} {pos : Pos} {m : AM} (h : PA X es (tAM tb X.K W m)) (hl : Len n m) (hn : n ≤ 1000 := by decide) : PE X (.List es pos) (tM tb X.K W (mLst m)) := by
  refine pe_imp (pe_lst h) fun σ H Q h => ?_
  obtain ⟨ρ, F, M, τ, S, L, p⟩ := h
  refine ⟨ρ, F, M, τ, S, L, (RP.bind p).imp fun a ρ1 F1 H1 e1 q v r1 => ?_⟩
  obtain ⟨M1, e2, S1, p1⟩ := q
  exact ⟨by rw [← r1.length, hl _ _ _ _ e2]; exact small_line hn, new_lst S1 r1 p1⟩
theorem mE_lstR {es : List Expr} {n : Nat} {pos : Pos} {m : AM} (h : PA X es (tAM tb X.K W m)) (hl : Len n m) (hn : n ≤ 1000 := by decide) : PE X (.List es pos) (tM tb X.K W (mLstR m)) := by
  refine pe_imp (pe_lst h) fun σ H Q h => ?_
  obtain ⟨ρ, F, M, τ, S, L, p⟩ := h
  refine ⟨ρ, F, M, τ, S, L, (RP.bind p).imp fun a ρ1 F1 H1 e1 q v r1 => ?_⟩
  obtain ⟨M1, e2, S1, p1⟩ := q
  exact ⟨by rw [← r1.length, hl _ _ _ _ e2]; exact small_line hn, new_lstR S1 r1 p1⟩
end
end Mi
namespace Mi
open PySem PySem.Spec PyProof.Rows L2

/-! ### what a def is worth -/
def spM (tb : Tb) (K : PySem.W.Frag) (n : Nat) (g : FnM) : Sp := fun vs H Q E => ∃ ρ F M ts, Sim tb K ρ F M H ∧ RepL K F ρ ts vs ∧ ts.length = n ∧ RP tb K ρ F H (fun c H' => E (.ref (tb.c c)) none H') (GM K Q) (g ts M)

def mBody (n : Nat) (b : SM) : FnM := fun ts M => match b (ts ++ List.replicate (n - ts.length) .un) M with
  | .nx _ M' => .ok .non M'
  | .rt t M' => .ok t M'
  | .ex c M' => .ex c M'
  | _ => .bad

section
variable {P : Program} {w : World} {K : PySem.W.Frag} {mg : Str → Option Value} {base : Heap} {tb : Tb}
theorem loc_start {F : Hp} {ρ : List Addr} {ts : List T} {vs : List V} {N : List Str} (r : RepL K F ρ ts vs) : LocR K F ρ (ts ++ List.replicate (N.length - ts.length) .un) (L2.start N vs) := by
  have hl := r.length
  refine ⟨by simp [L2.start, hl], fun i t h => ?_⟩
  by_cases hi : i < ts.length
  · rw [List.getElem?_append_left hi] at h
    obtain ⟨v, h1, h2⟩ := r.get h
    refine .inr ⟨v, ?_, h2⟩
    unfold L2.start
    rw [List.getElem?_append_left (by rw [List.length_map, ← hl]; exact hi), List.getElem?_map, h1]
    rfl
  · rw [List.getElem?_append_right (by omega)] at h
    obtain ⟨_, e⟩ := List.getElem?_eq_some_iff.mp h
    rw [List.getElem_replicate] at e
    exact .inl e.symm
theorem fn_ok {x qual : Str} {st : Stmt} {f : Addr} {fd : FuncData} {N ps : List Str} {k n : Nat} {b : SM} (Fu : Fun K x qual st f fd) (S : FnScope N ps (defScope st)) (hn : n = N.length)
    (hb : ∀ (cdv : Value) (A : Around) (outer : List Env) (s : Shared) (H : Hp) (E : XK), Room k (A.deeper (envOfC qual (defScope st) s.heap.objs.size f cdv)) →
      PSs (cxOf (L2.CX P w) P w K mg base N qual (defScope st) f cdv A outer s H E) (defBody st) (tSM tb K (fun cls d _ H' => E cls d H') b)) :
    FnOk P w K mg base (L2.CX P w) (k + 1) f fd ps (spM tb K ps.length (mBody n b)) := by
  refine Fu.okX S (fun vs H Q E h => ?_) (fun cdv A outer s H vs Q E hr h => ⟨_, hb cdv A outer s H E hr, ?_⟩)
  · obtain ⟨ρ, F, M, ts, _, r, e, _⟩ := h
    rw [← r.length, e]
  · obtain ⟨ρ, F, M, ts, Sm, r, e, p⟩ := h
    refine ⟨ρ, F, M, _, Sm, loc_start r, ?_⟩
    unfold mBody at p
    rw [hn] at p
    cases hres : b (ts ++ List.replicate (N.length - ts.length) .un) M with
    | nx τ' M' => rw [hres] at p; exact fun ρ' F' H' σ' ex S' _ => p ρ' F' H' ex S' _ .non
    | rt t M' => rw [hres] at p; exact fun ρ' F' H' v ex S' rv => p ρ' F' H' ex S' v rv
    | ex c M' => rw [hres] at p; exact fun ρ' F' H' σ' ex S' => p ρ' F' H' ex S'
    | bk τ' M' => rw [hres] at p; exact p.elim
    | ct τ' M' => rw [hres] at p; exact p.elim
    | bad => rw [hres] at p; exact p.elim
end

/-- a def that may be called with n arguments (its defaults filled up) -/
def CallOk (P : Program) (w : World) (K : PySem.W.Frag) (mg : Str → Option Value) (base : Heap) (tb : Tb) (k : Nat) (f : Addr) (n : Nat) (g : FnM) : Prop :=
  ∃ (fd : FuncData) (ps : List Str) (ds : List Value) (dvs : List V) (dts : List T) (g0 : FnM), FnOk P w K mg base (L2.CX P w) k f fd ps (spM tb K ps.length g0) ∧ Binds K fd ps ds ∧ Vals dvs ds ∧
    (∀ (F : Hp) (ρ : List Addr), RepL K F ρ dts dvs) ∧ n + dts.length = ps.length ∧ g = fun ts => g0 (ts ++ dts)
theorem CallOk.of {P : Program} {w : World} {K : PySem.W.Frag} {mg : Str → Option Value} {base : Heap} {tb : Tb} {k n : Nat} {f : Addr} {g : FnM} {fd : FuncData} {ps : List Str}
    (G : FnOk P w K mg base (L2.CX P w) k f fd ps (spM tb K n g)) (b : Binds K fd ps []) (hn : n = ps.length := by rfl) : CallOk P w K mg base tb k f n g := by
  subst hn
  exact ⟨fd, ps, [], [], [], g, G, b, .nil, fun _ _ => .nil, rfl, by simp⟩
theorem CallOk.mono {P : Program} {w : World} {K : PySem.W.Frag} {mg : Str → Option Value} {base : Heap} {tb : Tb} {j k n : Nat} {f : Addr} {g : FnM} (G : CallOk P w K mg base tb j f n g) (h : j ≤ k) : CallOk P w K mg base tb k f n g := by
  obtain ⟨fd, ps, ds, dvs, dts, g0, G, r⟩ := G
  exact ⟨fd, ps, ds, dvs, dts, g0, G.mono h, r⟩

section
variable {X : Cx} {tb : Tb} {W : WX} {σ : L2.St} {H : Hp} {Q : VK} {s : Shared} {pins : List (Addr × Obj)}
theorem run_ok {k n : Nat} {f : Addr} {g : FnM} {ρ : List Addr} {F : Hp} {M : Hs} {ts : List T} {vs : List V} {us : List Value} (G : CallOk X.prog X.w X.K X.mg X.base tb k f n g) (hr : Room k X.A) (tk : Takes X W)
    (I : Inv X pins σ H s) (S : Sim tb X.K ρ F M H) (r : RepL X.K F ρ ts vs) (rv : Vals vs us) (hn : ts.length = n) (p : RP tb X.K ρ F H (WE1 tb W σ) (GM X.K Q) (g ts M)) :
    wpAny (model X.prog X.w) X.A (call (.ref f) us) (EP X pins σ Q) X.xe s := by
  obtain ⟨fd, ps, ds, dvs, dts, g0, G, hb, hd, hdt, hl, rfl⟩ := G
  have r2 : Vals (vs ++ dvs) (us ++ ds) := rv.append hd
  have rt : RepL X.K F ρ (ts ++ dts) (vs ++ dvs) := r.append (hdt F ρ)
  have hlen : (us ++ ds).length = ps.length := by rw [← r2.length, ← rt.length, List.length_append, hn, hl]
  have sp : spM tb X.K ps.length g0 (vs ++ dvs) H Q (L2.WE W σ) := ⟨ρ, F, M, ts ++ dts, S, rt, by rw [List.length_append, hn, hl], p⟩
  refine wpAny_call (codeAny_mono (G.run X.A X.stack s H ⟨us, []⟩ (us ++ ds) (vs ++ dvs) Q (L2.WE W σ) hr I.env0 (hb s us I.kIn hlen) r2 sp) fun res s' hq => ?_)
  cases res with
  | error e => exact passAt tk σ pins H s e s' I hq
  | ok fl =>
    cases fl with
    | ret u => exact I.after hq
    | next => exact False.elim hq
    | brk => exact False.elim hq
    | cont => exact False.elim hq

def mCall (g : FnM) (a : AM) : EM := fun τ M => (a τ M).bind g
theorem mE_call {x : Str} {p pos : Pos} {e : Expr} {es : List Expr} {k n : Nat} {f : Addr} {g : FnM} {ma : AM} (G : CallOk X.prog X.w X.K X.mg X.base tb k f n g) (hr : Room k X.A) (hm : X.mg x = some (.ref f)) (hk : PySem.W.keepIn X.K (.ref f) = true) (tk : Takes X W)
    (ha : PA X (e :: es) (tAM tb X.K W ma)) (hl : Len n ma) (hg : Gl X x := by rfl) (hdb : (x == ("__debug__" : Str)) = false := by decide) (he : starEach (e :: es) X.env = (false, eval e X.env) :: starEach es X.env := by rfl)
    (hpl : (backTo pos (starEach es X.env)).any (·.1) = false := by rfl) : PE X (.Call (.Name x p) (e :: es) [] pos) (tM tb X.K W (mCall g ma)) := by
  refine ⟨fun pins s σ H Q I h => ?_⟩
  obtain ⟨ρ, F, M, τ, S, L, p⟩ := h
  have hq : tAM tb X.K W ma σ H (fun vs H1 => ∃ ρ1 F1 M1 ts, Sim tb X.K ρ1 F1 M1 H1 ∧ RepL X.K F1 ρ1 ts vs ∧ ts.length = n ∧ RP tb X.K ρ1 F1 H1 (WE1 tb W σ) (GM X.K Q) (g ts M1)) :=
    ⟨ρ, F, M, τ, S, L, (RP.bind p).imp fun ts ρ1 F1 H1 e1 ⟨M1, e2, S1, p1⟩ vs r1 => ⟨ρ1, F1, M1, ts, S1, r1, hl _ _ _ _ e2, p1⟩⟩
  refine wpAny_Call_Name_kw (ld_glob I hg hm ?_ hdb)
  refine PySem.W.callWith_K (h₀ := X.base) I.ok.mod.kin hk (thn (ha.run pos pins s σ H _ I hq) fun us s1 ⟨vs, H1, I1, rv, q⟩ => ⟨I1.kIn, ?_⟩) he hpl
  obtain ⟨ρ1, F1, M1, ts, S1, r1, hn, p1⟩ := q
  exact run_ok G hr tk I1 S1 r1 rv hn p1
theorem mE_call0 {x : Str} {p pos : Pos} {k : Nat} {f : Addr} {g : FnM} (G : CallOk X.prog X.w X.K X.mg X.base tb k f 0 g) (hr : Room k X.A) (hm : X.mg x = some (.ref f)) (hk : PySem.W.keepIn X.K (.ref f) = true) (tk : Takes X W)
    (hg : Gl X x := by rfl) (hdb : (x == ("__debug__" : Str)) = false := by decide) : PE X (.Call (.Name x p) [] [] pos) (tM tb X.K W (mCall g mNil)) := by
  refine ⟨fun pins s σ H Q I h => ?_⟩
  obtain ⟨ρ, F, M, τ, S, L, p⟩ := h
  refine wpAny_Call_Name_kw (ld_glob I hg hm ?_ hdb)
  exact PySem.W.callWith_K0 I.kIn hk (run_ok (us := []) G hr tk I S .nil .nil rfl p)

/-! ### fields, methods, new instances -/
def mFld (tab : List (Nat × Nat)) (a : EM) : EM := fun τ M => (a τ M).bind fun o M1 => match o with
  | .ref i => match M1[i]? with
    | some (.ins c fs) => match tab.lookup c with
      | some j => okT (fs.getD j .un) M1
      | none => .bad
    | _ => .bad
  | _ => .bad
/-- what is known of a class -/
structure CF (K : PySem.W.Frag) (tb : Tb) (c : Nat) : Prop where
  cls : Cls K (tb.c c)
  nd : (tb.fl c).Nodup
  few : (tb.fl c).length ≤ 100
/-- which place the field f has in which class -/
def FTab (K : PySem.W.Frag) (tb : Tb) (f : Str) (tab : List (Nat × Nat)) : Prop := ∀ c j, (c, j) ∈ tab → (tb.fl c)[j]? = some f ∧ CF K tb c ∧ NoAttr K (tb.c c) f
theorem mem_of_lk {α : Type} {l : List (Nat × α)} {c : Nat} {v : α} (h : l.lookup c = some v) : (c, v) ∈ l := by
  induction l with
  | nil => cases h
  | cons p l ih =>
    obtain ⟨a, b⟩ := p
    rw [List.lookup_cons] at h
    by_cases e : c == a
    · rw [e] at h
      cases h
      rw [eq_of_beq e]
      exact List.mem_cons_self
    · rw [Bool.not_eq_true] at e
      rw [e] at h
      exact List.mem_cons_of_mem _ (ih h)
theorem FTab.one {K : PySem.W.Frag} {f : Str} {c j : Nat} (h : (tb.fl c)[j]? = some f) (h1 : CF K tb c) (h2 : NoAttr K (tb.c c) f) : FTab K tb f [(c, j)] := fun a b m => by
  rw [List.mem_singleton] at m
  cases m
  exact ⟨h, h1, h2⟩
theorem FTab.cons {K : PySem.W.Frag} {f : Str} {c j : Nat} {tab : List (Nat × Nat)} (h : (tb.fl c)[j]? = some f) (h1 : CF K tb c) (h2 : NoAttr K (tb.c c) f) (t : FTab K tb f tab) : FTab K tb f ((c, j) :: tab) := fun a b m => by
  rcases List.mem_cons.mp m with m | m
  · cases m
    exact ⟨h, h1, h2⟩
  · exact t a b m
/-- what stands at a value that names an instance -/
theorem ins_at {K : PySem.W.Frag} {ρ : List Addr} {F : Hp} {M : Hs} {i c : Nat} {fs : List T} {v : V} (S : Sim tb K ρ F M H) (r : Rep K F ρ (.ref i) v) (e : M[i]? = some (.ins c fs)) :
    ∃ a dx fsV, v = .ref a ∧ ρ[i]? = some a ∧ H a = some (.ins (tb.c c) dx fsV) ∧ FsRep K F ρ (tb.fl c) fs fsV := by
  cases r with
  | ref _ a h =>
    obtain ⟨dx, fsV, h1, h2⟩ := S.ob i _ a e h
    exact ⟨a, dx, fsV, rfl, h, h1, h2⟩
theorem mE_fld {e : Expr} {f : Str} {pos : Pos} {tab : List (Nat × Nat)} {m : EM} (ht : FTab X.K tb f tab) (he : PE X e (tM tb X.K W m)) (hb : attributeBase e f X.env (eval e X.env) = eval e X.env := by rfl) : PE X (.Attribute e f pos) (tM tb X.K W (mFld tab m)) := by
  refine pe_imp (pe_fld he hb) fun σ H Q h => ?_
  obtain ⟨ρ, F, M, τ, S, L, p⟩ := h
  refine ⟨ρ, F, M, τ, S, L, (RP.bind p).imp fun o ρ1 F1 H1 e1 q v r1 => ?_⟩
  obtain ⟨M1, _, S1, p1⟩ := q
  split at p1
  case h_2 => exact p1.elim
  rename_i i
  split at p1
  case h_2 => exact p1.elim
  rename_i c fs hm
  split at p1
  case h_2 => exact p1.elim
  rename_i j hl
  obtain ⟨h1, h2, h3⟩ := ht c j (mem_of_lk hl)
  obtain ⟨a, dx, fsV, rfl, _, ha, fr⟩ := ins_at S1 r1 hm
  have hj : j < fs.length := by rw [fr.len]; exact (List.getElem?_eq_some_iff.mp h1).1
  rw [List.getD_eq_getElem?_getD, List.getElem?_eq_getElem hj] at p1
  rcases fr.at_ j f fs[j] h1 (List.getElem?_eq_getElem hj) with ⟨z, _⟩ | ⟨w, rw', lk⟩
  · rw [show Option.getD (some fs[j]) T.un = fs[j] from rfl, z] at p1
    exact p1.elim
  · have hu : fs[j] ≠ .un := fun z => by rw [z] at rw'; cases rw'
    rw [show Option.getD (some fs[j]) T.un = fs[j] from rfl, okT_of hu] at p1
    exact ⟨a, _, dx, fsV, w, rfl, ha, h2.cls, h3, lk, RP.here S1 p1 w rw'⟩

def mMeth (tab : List (Nat × FnM)) (mo : EM) (ma : AM) : EM := fun τ M => (mo τ M).bind fun o M1 => match o with
  | .ref i => match M1[i]? with
    | some (.ins c _) => match tab.lookup c with
      | some g => (ma τ M1).bind fun ts M2 => g (o :: ts) M2
      | none => .bad
    | _ => .bad
  | _ => .bad
def MTab (P : Program) (w : World) (K : PySem.W.Frag) (mg : Str → Option Value) (base : Heap) (tb : Tb) (k n : Nat) (m : Str) (tab : List (Nat × FnM)) : Prop :=
  ∀ c g, (c, g) ∈ tab → CF K tb c ∧ m ∉ tb.fl c ∧ ∃ f, Meth K (tb.c c) m f ∧ CallOk P w K mg base tb k f (n + 1) g
theorem MTab.one {P : Program} {w : World} {K : PySem.W.Frag} {mg : Str → Option Value} {base : Heap} {k n c : Nat} {m : Str} {g : FnM} {f : Addr} (h1 : CF K tb c) (h2 : m ∉ tb.fl c) (h3 : Meth K (tb.c c) m f) (h4 : CallOk P w K mg base tb k f (n + 1) g) :
    MTab P w K mg base tb k n m [(c, g)] := fun a b q => by
  rw [List.mem_singleton] at q
  cases q
  exact ⟨h1, h2, f, h3, h4⟩
theorem MTab.cons {P : Program} {w : World} {K : PySem.W.Frag} {mg : Str → Option Value} {base : Heap} {k n c : Nat} {m : Str} {g : FnM} {f : Addr} {tab : List (Nat × FnM)} (h1 : CF K tb c) (h2 : m ∉ tb.fl c) (h3 : Meth K (tb.c c) m f)
    (h4 : CallOk P w K mg base tb k f (n + 1) g) (t : MTab P w K mg base tb k n m tab) : MTab P w K mg base tb k n m ((c, g) :: tab) := fun a b q => by
  rcases List.mem_cons.mp q with q | q
  · cases q
    exact ⟨h1, h2, f, h3, h4⟩
  · exact t a b q
theorem MTab.mono {P : Program} {w : World} {K : PySem.W.Frag} {mg : Str → Option Value} {base : Heap} {j k n : Nat} {m : Str} {tab : List (Nat × FnM)} (t : MTab P w K mg base tb j n m tab) (h : j ≤ k) : MTab P w K mg base tb k n m tab := fun c g q => by
  obtain ⟨h1, h2, f, h3, h4⟩ := t c g q
  exact ⟨h1, h2, f, h3, h4.mono h⟩
/-- the reading of a method call, up to its arguments -/
theorem meth_read {m : Str} {tab : List (Nat × FnM)} {mo : EM} {ma : AM} {k n : Nat} (t : MTab X.prog X.w X.K X.mg X.base tb k n m tab) (h : tM tb X.K W (mMeth tab mo ma) σ H Q) :
    tM tb X.K W mo σ H fun x H1 => ∃ a C dx fs f, x = .ref a ∧ H1 a = some (.ins C dx fs) ∧ Cls X.K C ∧ Meth X.K C m f ∧ fs.lookup m = none ∧
      ∃ (g : FnM) (o : T) (ρ1 : List Addr) (F1 : Hp) (M1 : Hs) (τ : Loc), CallOk X.prog X.w X.K X.mg X.base tb k f (n + 1) g ∧ Sim tb X.K ρ1 F1 M1 H1 ∧ LocR X.K F1 ρ1 τ σ ∧ Rep X.K F1 ρ1 o (.ref a) ∧
        RP tb X.K ρ1 F1 H1 (WE1 tb W σ) (GM X.K Q) ((ma τ M1).bind fun ts M2 => g (o :: ts) M2) := by
  obtain ⟨ρ, F, M, τ, S, L, p⟩ := h
  refine ⟨ρ, F, M, τ, S, L, (RP.bind p).imp fun o ρ1 F1 H1 e1 q v r1 => ?_⟩
  obtain ⟨M1, _, S1, p1⟩ := q
  split at p1
  case h_2 => exact p1.elim
  rename_i i
  split at p1
  case h_2 => exact p1.elim
  rename_i c fs hm
  split at p1
  case h_2 => exact p1.elim
  rename_i g hl
  obtain ⟨h1, h2, f, h3, h4⟩ := t c g (mem_of_lk hl)
  obtain ⟨a, dx, fsV, rfl, _, ha, fr⟩ := ins_at S1 r1 hm
  exact ⟨a, _, dx, fsV, f, rfl, ha, h1.cls, h3, fr.out m h2, g, _, ρ1, F1, M1, τ, h4, S1, L.mono e1, r1, p1⟩
theorem mE_meth {o e : Expr} {es : List Expr} {m : Str} {apos pos : Pos} {k n : Nat} {tab : List (Nat × FnM)} {mo : EM} {ma : AM} {pl : Sem Bool} (t : MTab X.prog X.w X.K X.mg X.base tb k n m tab) (hr : Room k X.A) (tk : Takes X W)
    (ho : PE X o (tM tb X.K W mo)) (ha : PA X (e :: es) (tAM tb X.K W ma)) (hl : Len n ma) (he : starEach (e :: es) X.env = (false, eval e X.env) :: starEach es X.env := by rfl) (hpl : (backTo pos (starEach es X.env)).any (·.1) = false := by rfl)
    (ht : eval (.Call (.Attribute o m apos) (e :: es) [] pos) X.env = (do
      let ov ← eval o X.env
      standAt apos.atName
      let (f, first) ← holding [ov] (getMethod ov m pl)
      callWith pos f first (backTo pos (starEach (e :: es) X.env)) (backToKw pos (keywordEach [] X.env))) := by rfl) :
    PE X (.Call (.Attribute o m apos) (e :: es) [] pos) (tM tb X.K W (mMeth tab mo ma)) := by
  refine ⟨fun pins s σ H Q I h => ?_⟩
  refine methcall_of (pl := pl) ho I ?_ ht
  obtain ⟨ρ, F, M, τ, S, L, p⟩ := meth_read t h
  refine ⟨ρ, F, M, τ, S, L, p.imp fun o ρ1 F1 H1 e1 q v r1 => ?_⟩
  obtain ⟨a, C, dx, fs, f, rfl, hH, hC, hM, hn, g, o', ρ1, F1, M1, τ', G, S1, L1, ro, p1⟩ := q v r1
  refine ⟨a, C, dx, fs, f, rfl, hH, hC, hM, hn, fun s1 I1 => ?_⟩
  have hq : tAM tb X.K W ma σ H1 (fun vs H2 => ∃ ρ2 F2 M2 ts, Sim tb X.K ρ2 F2 M2 H2 ∧ RepL X.K F2 ρ2 (o' :: ts) (.ref a :: vs) ∧ (o' :: ts).length = n + 1 ∧ RP tb X.K ρ2 F2 H2 (WE1 tb W σ) (GM X.K Q) (g (o' :: ts) M2)) :=
    ⟨ρ1, F1, M1, τ', S1, L1, (RP.bind p1).imp fun ts ρ2 F2 H2 e2 ⟨M2, e3, S2, p2⟩ vs r2 => ⟨ρ2, F2, M2, ts, S2, .cons _ _ _ _ (ro.mono e2) r2, congrArg (· + 1) (hl _ _ _ _ e3), p2⟩⟩
  refine PySem.W.callWith_K (first := [.ref a]) (h₀ := X.base) I1.ok.mod.kin hM.kp (thn (ha.run pos pins s1 σ H1 _ I1 hq) fun us s2 ⟨vs, H2, I2, rv, q⟩ => ⟨I2.kIn, ?_⟩) he hpl
  obtain ⟨ρ2, F2, M2, ts, S2, r2, hn2, p2⟩ := q
  exact run_ok (us := .ref a :: us) (vs := .ref a :: vs) G hr tk I2 S2 r2 (.cons rfl rv) hn2 p2
theorem mE_meth0 {o : Expr} {m : Str} {apos pos : Pos} {k : Nat} {tab : List (Nat × FnM)} {mo : EM} {pl : Sem Bool} (t : MTab X.prog X.w X.K X.mg X.base tb k 0 m tab) (hr : Room k X.A) (tk : Takes X W)
    (ho : PE X o (tM tb X.K W mo))
    (ht : eval (.Call (.Attribute o m apos) [] [] pos) X.env = (do
      let ov ← eval o X.env
      standAt apos.atName
      let (f, first) ← holding [ov] (getMethod ov m pl)
      callWith pos f first (backTo pos (starEach [] X.env)) (backToKw pos (keywordEach [] X.env))) := by rfl) :
    PE X (.Call (.Attribute o m apos) [] [] pos) (tM tb X.K W (mMeth tab mo mNil)) := by
  refine ⟨fun pins s σ H Q I h => ?_⟩
  refine methcall_of (pl := pl) ho I ?_ ht
  obtain ⟨ρ, F, M, τ, S, L, p⟩ := meth_read t h
  refine ⟨ρ, F, M, τ, S, L, p.imp fun o ρ1 F1 H1 e1 q v r1 => ?_⟩
  obtain ⟨a, C, dx, fs, f, rfl, hH, hC, hM, hn, g, o', ρ1, F1, M1, τ', G, S1, L1, ro, p1⟩ := q v r1
  refine ⟨a, C, dx, fs, f, rfl, hH, hC, hM, hn, fun s1 I1 => ?_⟩
  exact PySem.W.callWith_K0 (first := [.ref a]) I1.kIn hM.kp (run_ok (us := [.ref a]) (vs := [.ref a]) G hr tk I1 S1 (.cons _ _ _ _ ro .nil) (.cons rfl .nil) rfl p1)

/-- a new instance of the class c; nf: how many fields -/
def mMake (c nf : Nat) (g : FnM) (ma : AM) : EM := fun τ M => (ma τ M).bind fun ts M1 => (g (.ref M1.length :: ts) (M1 ++ [.ins c (List.replicate nf .un)])).bind fun r M2 => match r with
  | .non => .ok (.ref M1.length) M2
  | _ => .bad
theorem fs_new {K : PySem.W.Frag} {F : Hp} {ρ : List Addr} {ns : List Str} : FsRep K F ρ ns (List.replicate ns.length .un) [] :=
  ⟨by simp, fun i n t h1 h2 => by
    obtain ⟨_, e⟩ := List.getElem?_eq_some_iff.mp h2
    rw [List.getElem_replicate] at e
    exact .inl ⟨e.symm, rfl⟩, fun _ _ => rfl, ⟨List.nodup_nil, fun n h => by cases h⟩⟩
theorem run_new {k n c nf : Nat} {f : Addr} {g : FnM} {ρ : List Addr} {F : Hp} {M : Hs} {ts : List T} {vs : List V} {us : List Value} (Mk' : Mk X.K (tb.c c) f) (hnf : nf = (tb.fl c).length) (G : CallOk X.prog X.w X.K X.mg X.base tb k f (n + 1) g) (hr : Room (k + 1) X.A) (tk : Takes X W)
    (I : Inv X pins σ H s) (S : Sim tb X.K ρ F M H) (r : RepL X.K F ρ ts vs) (rv : Vals vs us) (hn : ts.length = n)
    (p : RP tb X.K ρ F H (WE1 tb W σ) (GM X.K Q) ((g (.ref M.length :: ts) (M ++ [.ins c (List.replicate nf .un)])).bind fun r M2 => match r with | .non => .ok (.ref M.length) M2 | _ => .bad)) :
    wpAny (model X.prog X.w) X.A (call (.ref (tb.c c)) us) (EP X pins σ Q) X.xe s := by
  obtain ⟨fd, ps, ds, dvs, dts, g0, G, hb, hd, hdt, hl, rfl⟩ := G
  have I2 := Inv.made (C := tb.c c) I
  have fx : H (s.heap.objs.size + 1) = none := I.hok.fresh (Nat.le_succ _)
  have fd' : H s.heap.objs.size = none := I.hok.fresh (Nat.le_refl _)
  subst hnf
  obtain ⟨S2, e2⟩ := S.add (p := s.heap.objs.size + 1) (H' := upd (upd H s.heap.objs.size (.own (s.heap.objs.size + 1))) (s.heap.objs.size + 1) (.ins (tb.c c) s.heap.objs.size [])) (ob := .ins c (List.replicate (tb.fl c).length .un)) fx
    (fun a o e => by rw [upd_ne (ne_of_none e fx), upd_ne (ne_of_none e fd')]; exact e) ⟨s.heap.objs.size, [], upd_same, fs_new⟩
  have r0 : Rep X.K F (ρ ++ [s.heap.objs.size + 1]) (.ref M.length) (.ref (s.heap.objs.size + 1)) := .ref _ _ (by rw [← S.len, List.getElem?_append_right (Nat.le_refl _), Nat.sub_self]; rfl)
  have rt : RepL X.K F (ρ ++ [s.heap.objs.size + 1]) (.ref M.length :: (ts ++ dts)) (.ref (s.heap.objs.size + 1) :: (vs ++ dvs)) := .cons _ _ _ _ r0 ((r.mono e2).append (hdt _ _))
  have r2 : Vals (V.ref (s.heap.objs.size + 1) :: (vs ++ dvs)) (Value.ref (s.heap.objs.size + 1) :: (us ++ ds)) := .cons rfl (rv.append hd)
  have hlt : (T.ref M.length :: (ts ++ dts)).length = ps.length := by rw [List.length_cons, List.length_append, hn]; omega
  have hlen : (Value.ref (s.heap.objs.size + 1) :: us ++ ds).length = ps.length := by
    rw [← hlt, rt.length, r2.length]
    rfl
  have q := RP.bind (p.mono e2)
  have sp : spM tb X.K ps.length g0 (.ref (s.heap.objs.size + 1) :: (vs ++ dvs)) (upd (upd H s.heap.objs.size (.own (s.heap.objs.size + 1))) (s.heap.objs.size + 1) (.ins (tb.c c) s.heap.objs.size []))
      (fun v H2 => v = .non ∧ Q (.ref (s.heap.objs.size + 1)) H2) (L2.WE W σ) := by
    refine ⟨_, F, _, _, S2, rt, hlt, q.imp fun t ρ3 F3 H3 e3 ⟨M3, _, S3, p3⟩ v r3 => ?_⟩
    cases t with
    | non => cases r3; exact ⟨rfl, RP.here S3 p3 _ (r0.mono e3)⟩
    | _ => exact p3.elim
  refine wpAny_call (make_map (f := f) I.kIn Mk'.makes Mk'.init (beq_iff_eq.mp Mk'.fn) (codeAny_mono (G.run _ X.stack _ _ ⟨Value.ref (s.heap.objs.size + 1) :: us, []⟩ (Value.ref (s.heap.objs.size + 1) :: (us ++ ds)) _ _ (L2.WE W σ) (hr.make _ us [])
    (I2.env0.make _ us []) (hb _ (Value.ref (s.heap.objs.size + 1) :: us) I2.kIn hlen) r2 sp) fun res s' hq => ?_))
  cases res with
  | error e => exact passAt tk σ pins _ _ e s' I2 hq
  | ok fl =>
    cases fl with
    | ret u =>
      obtain ⟨v, H', I3, rv', ev, q3⟩ := I2.after hq
      subst ev
      exact ⟨rv', ⟨V.ref (s.heap.objs.size + 1), H', I3, rfl, q3⟩⟩
    | next => exact False.elim hq
    | brk => exact False.elim hq
    | cont => exact False.elim hq
theorem mE_make {x : Str} {p pos : Pos} {e : Expr} {es : List Expr} {k n c nf : Nat} {f : Addr} {g : FnM} {ma : AM} (Mk' : Mk X.K (tb.c c) f) (hnf : nf = (tb.fl c).length) (G : CallOk X.prog X.w X.K X.mg X.base tb k f (n + 1) g) (hr : Room (k + 1) X.A)
    (hm : X.mg x = some (.ref (tb.c c))) (tk : Takes X W) (ha : PA X (e :: es) (tAM tb X.K W ma)) (hl : Len n ma) (hg : Gl X x := by rfl) (hdb : (x == ("__debug__" : Str)) = false := by decide)
    (he : starEach (e :: es) X.env = (false, eval e X.env) :: starEach es X.env := by rfl) (hpl : (backTo pos (starEach es X.env)).any (·.1) = false := by rfl) : PE X (.Call (.Name x p) (e :: es) [] pos) (tM tb X.K W (mMake c nf g ma)) := by
  refine ⟨fun pins s σ H Q I h => ?_⟩
  obtain ⟨ρ, F, M, τ, S, L, p⟩ := h
  have hq : tAM tb X.K W ma σ H (fun vs H1 => ∃ ρ1 F1 M1 ts, Sim tb X.K ρ1 F1 M1 H1 ∧ RepL X.K F1 ρ1 ts vs ∧ ts.length = n ∧ RP tb X.K ρ1 F1 H1 (WE1 tb W σ) (GM X.K Q)
      ((g (.ref M1.length :: ts) (M1 ++ [.ins c (List.replicate nf .un)])).bind fun r M2 => match r with | .non => .ok (.ref M1.length) M2 | _ => .bad)) :=
    ⟨ρ, F, M, τ, S, L, (RP.bind p).imp fun ts ρ1 F1 H1 e1 ⟨M1, e2, S1, p1⟩ vs r1 => ⟨ρ1, F1, M1, ts, S1, r1, hl _ _ _ _ e2, p1⟩⟩
  refine wpAny_Call_Name_kw (ld_glob I hg hm ?_ hdb)
  refine PySem.W.callWith_K (h₀ := X.base) I.ok.mod.kin Mk'.kp (thn (ha.run pos pins s σ H _ I hq) fun us s1 ⟨vs, H1, I1, rv, q⟩ => ⟨I1.kIn, ?_⟩) he hpl
  obtain ⟨ρ1, F1, M1, ts, S1, r1, hn, p1⟩ := q
  exact run_new Mk' hnf G hr tk I1 S1 r1 rv hn p1
theorem mE_make0 {x : Str} {p pos : Pos} {k c nf : Nat} {f : Addr} {g : FnM} (Mk' : Mk X.K (tb.c c) f) (hnf : nf = (tb.fl c).length) (G : CallOk X.prog X.w X.K X.mg X.base tb k f 1 g) (hr : Room (k + 1) X.A)
    (hm : X.mg x = some (.ref (tb.c c))) (tk : Takes X W) (hg : Gl X x := by rfl) (hdb : (x == ("__debug__" : Str)) = false := by decide) : PE X (.Call (.Name x p) [] [] pos) (tM tb X.K W (mMake c nf g mNil)) := by
  refine ⟨fun pins s σ H Q I h => ?_⟩
  obtain ⟨ρ, F, M, τ, S, L, p⟩ := h
  refine wpAny_Call_Name_kw (ld_glob I hg hm ?_ hdb)
  exact PySem.W.callWith_K0 I.kIn Mk'.kp (run_new (us := []) Mk' hnf G hr tk I S .nil .nil rfl p)
end
end Mi
namespace Mi
open PySem PySem.Spec PyProof.Rows L2

/-! ### mirrors of statements -/
def Res.st {α : Type} : Res α → (α → Hs → SRes) → SRes
  | .ok a M, k => k a M
  | .ex c M, _ => .ex c M
  | .bad, _ => .bad
def mSkip : SM := fun τ M => .nx τ M
def mSeq (a b : SM) : SM := fun τ M => match a τ M with
  | .nx τ' M' => b τ' M'
  | r => r
def mIf (c : TM) (a b : SM) : SM := fun τ M => (c τ M).st fun x M1 => if x then a τ M1 else b τ M1
def mExp (e : EM) : SM := fun τ M => (e τ M).st fun _ M1 => .nx τ M1
def mRet (e : EM) : SM := fun τ M => (e τ M).st fun t M1 => .rt t M1
def mRetN : SM := fun τ M => .rt .non M
def mSet (i : Nat) (e : EM) : SM := fun τ M => (e τ M).st fun t M1 => .nx (τ.set i t) M1
def mRaise (c : Nat) : SM := fun τ M => .ex c M
def mBrk : SM := fun τ M => .bk τ M
def mCnt : SM := fun τ M => .ct τ M

section
variable {X : Cx} {tb : Tb} {W : WX} {σ : L2.St} {H : Hp} {K : PySem.W.Frag} {ρ : List Addr} {F : Hp} {D : Ends}
theorem SP1.st {α : Type} {k : α → Hs → SRes} : ∀ {r : Res α}, SP1 tb K W ρ F H D (r.st k) → RP tb K ρ F H (WE1 tb W σ) (fun a ρ' F' H' => ∃ M', r = .ok a M' ∧ Sim tb K ρ' F' M' H' ∧ SP1 tb K W ρ' F' H' D (k a M')) r
  | .ok _ M, h => fun ρ2 F2 H2 e2 S => ⟨M, rfl, S, SP1.mono e2 h⟩
  | .ex _ _, h => fun ρ2 F2 H2 e2 S => h ρ2 F2 H2 σ e2 S
  | .bad, h => h
/-- the same reading where more is known of the ends -/
theorem SP1.imp {D D' : Ends} (hn : ∀ σ H, D.nx σ H → D'.nx σ H) (hr : ∀ v H, D.rt v H → D'.rt v H) (hb : ∀ σ H, D.bk σ H → D'.bk σ H) (hc : ∀ σ H, D.ct σ H → D'.ct σ H) : ∀ {r : SRes}, SP1 tb K W ρ F H D r → SP1 tb K W ρ F H D' r
  | .nx _ _, h => fun ρ2 F2 H2 σ' e2 S L => hn _ _ (h ρ2 F2 H2 σ' e2 S L)
  | .rt _ _, h => fun ρ2 F2 H2 v e2 S L => hr _ _ (h ρ2 F2 H2 v e2 S L)
  | .bk _ _, h => fun ρ2 F2 H2 σ' e2 S L => hb _ _ (h ρ2 F2 H2 σ' e2 S L)
  | .ct _ _, h => fun ρ2 F2 H2 σ' e2 S L => hc _ _ (h ρ2 F2 H2 σ' e2 S L)
  | .ex _ _, h => h
  | .bad, h => h

theorem mS_skip : PSs X [] (tSM tb X.K W mSkip) := pss_imp pss_nil fun D σ H ⟨ρ, F, M, τ, S, L, p⟩ => p ρ F H σ .refl S L
theorem mS_cons {st : Stmt} {rest : List Stmt} {a b : SM} (ha : PS X st (tSM tb X.K W a)) (hb : PSs X rest (tSM tb X.K W b)) : PSs X (st :: rest) (tSM tb X.K W (mSeq a b)) := by
  refine pss_imp (pss_cons ha hb) fun D σ H h => ?_
  obtain ⟨ρ, F, M, τ, S, L, p⟩ := h
  refine ⟨ρ, F, M, τ, S, L, ?_⟩
  unfold mSeq at p
  cases e : a τ M with
  | nx τ' M' => rw [e] at p; exact fun ρ1 F1 H1 σ1 e1 S1 L1 => ⟨ρ1, F1, M', τ', S1, L1, p.mono e1⟩
  | rt t M' => rw [e] at p; exact p
  | bk τ' M' => rw [e] at p; exact p
  | ct τ' M' => rw [e] at p; exact p
  | ex c M' => rw [e] at p; exact p
  | bad => rw [e] at p; exact p
theorem mS_one {st : Stmt} {a : SM} (ha : PS X st (tSM tb X.K W a)) : PSs X [st] (tSM tb X.K W a) := pss_one ha
theorem mS_pass {pos : Pos} : PS X (.Pass pos) (tSM tb X.K W mSkip) := ps_imp ps_pass fun D σ H ⟨ρ, F, M, τ, S, L, p⟩ => p ρ F H σ .refl S L
theorem mS_brk {pos : Pos} : PS X (.Break pos) (tSM tb X.K W mBrk) := ps_imp ps_break fun D σ H ⟨ρ, F, M, τ, S, L, p⟩ => p ρ F H σ .refl S L
theorem mS_cnt {pos : Pos} : PS X (.Continue pos) (tSM tb X.K W mCnt) := ps_imp ps_continue fun D σ H ⟨ρ, F, M, τ, S, L, p⟩ => p ρ F H σ .refl S L
theorem mS_if {c : Expr} {a b : List Stmt} {pos : Pos} {mc : TM} {ma mb : SM} (hc : PT X c (tTM tb X.K W mc)) (ha : PSs X a (tSM tb X.K W ma)) (hb : PSs X b (tSM tb X.K W mb)) : PS X (.If c a b pos) (tSM tb X.K W (mIf mc ma mb)) := by
  refine ps_imp (ps_if hc ha hb) fun D σ H h => ?_
  obtain ⟨ρ, F, M, τ, S, L, p⟩ := h
  refine ⟨ρ, F, M, τ, S, L, (SP1.st p).imp fun x ρ1 F1 H1 e1 q => ?_⟩
  obtain ⟨M1, _, S1, p1⟩ := q
  cases x with
  | true => exact ⟨ρ1, F1, M1, τ, S1, L.mono e1, p1⟩
  | false => exact ⟨ρ1, F1, M1, τ, S1, L.mono e1, p1⟩
theorem mS_exp {e : Expr} {pos : Pos} {m : EM} (he : PE X e (tM tb X.K W m)) (hs : swapsWith e none pos.line X.env = pure false := by rfl) : PS X (.Expr e pos) (tSM tb X.K W (mExp m)) := by
  refine ps_imp (ps_expr he hs) fun D σ H h => ?_
  obtain ⟨ρ, F, M, τ, S, L, p⟩ := h
  refine ⟨ρ, F, M, τ, S, L, (SP1.st p).imp fun x ρ1 F1 H1 e1 q v r => ?_⟩
  obtain ⟨M1, _, S1, p1⟩ := q
  exact p1 ρ1 F1 H1 σ .refl S1 (L.mono e1)
theorem mS_ret {e : Expr} {pos : Pos} {m : EM} (he : PE X e (tM tb X.K W m)) : PS X (.Return (some e) pos) (tSM tb X.K W (mRet m)) := by
  refine ps_imp (ps_ret he) fun D σ H h => ?_
  obtain ⟨ρ, F, M, τ, S, L, p⟩ := h
  refine ⟨ρ, F, M, τ, S, L, (SP1.st p).imp fun x ρ1 F1 H1 e1 q v r => ?_⟩
  obtain ⟨M1, _, S1, p1⟩ := q
  exact p1 ρ1 F1 H1 v .refl S1 r
theorem mS_retN {pos : Pos} : PS X (.Return none pos) (tSM tb X.K W mRetN) := ps_imp ps_retN fun D σ H ⟨ρ, F, M, τ, S, L, p⟩ => p ρ F H .non .refl S .non
theorem mS_set (i : Nat) {x : Str} {e : Expr} {pos pos' : Pos} {m : EM} (he : PE X e (tM tb X.K W m)) (hN : X.N.Nodup) (hi : X.N[i]? = some x := by rfl) (hx : L2.Loc X.env.scope x := by first | exact Or.inl rfl | exact Or.inr rfl)
    (hs : swapsWith e (some (.Name x pos')) pos.line X.env = pure false := by rfl) (hf : X.fn x = true ∨ X.env.scope.names.lookup x = some .local := by first | exact .inl rfl | exact .inr rfl) :
    PS X (.Assign [.Name x pos'] e pos) (tSM tb X.K W (mSet i m)) := by
  refine ps_imp (ps_set hN hi hx he hs hf) fun D σ H h => ?_
  obtain ⟨ρ, F, M, τ, S, L, p⟩ := h
  refine ⟨ρ, F, M, τ, S, L, (SP1.st p).imp fun x ρ1 F1 H1 e1 q v r => ?_⟩
  obtain ⟨M1, _, S1, p1⟩ := q
  exact p1 ρ1 F1 H1 _ .refl S1 ((L.mono e1).set r i)
/-- an own exception class, raised with a text -/
structure XOk (X : Cx) (tb : Tb) (c : Nat) (x : Str) : Prop where
  exc : PySem.W.excIn X.K (tb.c c) [.type "ValueError", .type "Exception", .type "BaseException", .type "object"] "ValueError.__new__" = true
  mg : X.mg x = some (.ref (tb.c c))
  kp : PySem.W.keepIn X.K (.ref (tb.c c)) = true
  sub : PySem.W.subIn X.K (.ref (tb.c c)) (.type "BaseException") = some true
  ty : PySem.W.typeIn X.K (.ref (tb.c c)) = some (.type "type")
theorem mS_raise {x msg : Str} {c j : Nat} {p p2 p3 pos : Pos} (o : XOk X tb c x) (tk : Takes X W) (hc : X.calm = true := by rfl) (hg : Gl X x := by rfl) (hdb : (x == ("__debug__" : Str)) = false := by decide) :
    PS X (.Raise (some (.Call (.Name x p) [.Constant (.str msg) j p2] [] p3)) none pos) (tSM tb X.K W (mRaise c)) := by
  refine ps_imp (ps_raise hc tk (pmk_own PySem.F.excBase_ValueError o.exc o.mg o.kp (raises_own o.sub o.ty) hg hdb)) fun D σ H h => ?_
  obtain ⟨ρ, F, M, τ, S, L, p⟩ := h
  exact p ρ F H σ .refl S
end

/-! ### while -/
def whileF (c : TM) (b : SM) : Nat → Loc → Hs → SRes
  | 0, _, _ => .bad
  | n + 1, τ, M => (c τ M).st fun x M1 => if x then (match b τ M1 with
    | .nx τ2 M2 => whileF c b n τ2 M2
    | .ct τ2 M2 => whileF c b n τ2 M2
    | .bk τ2 M2 => .nx τ2 M2
    | r => r) else .nx τ M1
def mWhile (n : Nat) (c : TM) (b : SM) : SM := whileF c b n

section
variable {X : Cx} {tb : Tb} {W : WX}
theorem mS_while {c : Expr} {body : List Stmt} {pos : Pos} {mc : TM} {mb : SM} (n : Nat) (hp : PassesOwn (model X.prog X.w) X.A X.env X.xe) (hc : PT X c (tTM tb X.K W mc)) (hb : PSs X body (tSM tb X.K W mb)) :
    PS X (.While c body [] pos) (tSM tb X.K W (mWhile n mc mb)) := by
  refine ps_imp (ps_while hp hc hb) fun D σ H h => ?_
  obtain ⟨ρ, F, M, τ, S, L, p⟩ := h
  refine ⟨fun m σ1 H1 => ∃ ρ1 F1 M1 τ1, Sim tb X.K ρ1 F1 M1 H1 ∧ LocR X.K F1 ρ1 τ1 σ1 ∧ SP1 tb X.K W ρ1 F1 H1 D (whileF mc mb m τ1 M1), ⟨n, ρ, F, M, τ, S, L, p⟩, ?_⟩
  rintro m σ1 H1 ⟨ρ1, F1, M1, τ1, S1, L1, p1⟩
  cases m with
  | zero => exact p1.elim
  | succ m =>
    refine ⟨ρ1, F1, M1, τ1, S1, L1, (SP1.st p1).imp fun x ρ2 F2 H2 e2 q => ?_⟩
    obtain ⟨M2, _, S2, p2⟩ := q
    cases x with
    | false => exact p2 ρ2 F2 H2 σ1 .refl S2 (L1.mono e2)
    | true =>
      rw [if_pos rfl] at p2 ⊢
      refine ⟨fun σ' H' => ∃ ρ1 F1 M1 τ1, Sim tb X.K ρ1 F1 M1 H' ∧ LocR X.K F1 ρ1 τ1 σ' ∧ SP1 tb X.K W ρ1 F1 H' D (whileF mc mb m τ1 M1), fun σ' H' q => ⟨m, Nat.lt_succ_self m, q⟩, ρ2, F2, M2, τ1, S2, L1.mono e2, ?_⟩
      cases e : mb τ1 M2 with
      | nx τ' M' => rw [e] at p2; exact fun ρ3 F3 H3 σ3 e3 S3 L3 => ⟨ρ3, F3, M', τ', S3, L3, p2.mono e3⟩
      | ct τ' M' => rw [e] at p2; exact fun ρ3 F3 H3 σ3 e3 S3 L3 => ⟨ρ3, F3, M', τ', S3, L3, p2.mono e3⟩
      | bk τ' M' => rw [e] at p2; exact p2
      | rt t M' => rw [e] at p2; exact p2
      | ex c M' => rw [e] at p2; exact p2
      | bad => rw [e] at p2; exact p2
end

/-! ### targets of names and tuples of names -/
abbrev TgP := T → Loc → Option Loc
abbrev TgPs := List T → Loc → Option Loc
def gN (i : Nat) : TgP := fun t τ => some (τ.set i t)
def gZ : TgPs := fun ts τ => match ts with | [] => some τ | _ => none
def gC (g : TgP) (h : TgPs) : TgPs := fun ts τ => match ts with | t :: r => (g t τ).bind (h r) | [] => none
def gTp (g : TgPs) : TgP := fun t τ => match t with | .tup ts => g ts τ | _ => none
def tGP (K : PySem.W.Frag) (ws : List Nat) (g : TgP) : TG := fun v σ H Q => ∃ (ρ : List Addr) (F : Hp) (τ τ' : Loc) (t : T), (∀ a o, F a = some o → Hd H a o) ∧ LocR K F ρ τ σ ∧ Rep K F ρ t v ∧ g t τ = some τ' ∧ ∀ σ', LocR K F ρ τ' σ' → wipe σ' ws = wipe σ ws → Q σ' H
def tGPs (K : PySem.W.Frag) (ws : List Nat) (g : TgPs) : TGs := fun vs σ H Q => ∃ (ρ : List Addr) (F : Hp) (τ τ' : Loc) (ts : List T), (∀ a o, F a = some o → Hd H a o) ∧ LocR K F ρ τ σ ∧ RepL K F ρ ts vs ∧ g ts τ = some τ' ∧ ∀ σ', LocR K F ρ τ' σ' → wipe σ' ws = wipe σ ws → Q σ' H
theorem wipe_set {σ : L2.St} {i : Nat} {x : Option V} : ∀ {ws : List Nat}, i ∈ ws → wipe (σ.set i x) ws = wipe σ ws
  | [], h => by cases h
  | w :: ws, h => by
    unfold wipe
    by_cases hi : i ∈ ws
    · rw [wipe_set hi]
    · have e : i = w := (List.mem_cons.mp h).resolve_right hi
      subst e
      have : ∀ ws : List Nat, i ∉ ws → wipe (σ.set i x) ws = (wipe σ ws).set i x := fun ws => by
        induction ws with
        | nil => exact fun _ => rfl
        | cons v vs ih =>
          intro hn
          have h1 : i ≠ v := fun e => hn (by rw [e]; exact List.mem_cons_self)
          have h2 : i ∉ vs := fun m => hn (List.mem_cons_of_mem _ m)
          unfold wipe
          rw [ih h2, List.set_comm _ _ h1]
      rw [this ws hi, List.set_set]
section
variable {X : Cx}
theorem hd_sqT {K : PySem.W.Frag} {F H : Hp} (h : ∀ a o, F a = some o → Hd H a o) {a : Addr} {vs : List V} (q : SqT K F a vs) : SqT K H a vs := by
  rcases q with (q | ⟨od, q⟩) | q
  · rcases h _ _ q with z | ⟨_, _, e, _⟩
    · exact .inl (.inl z)
    · cases e
  · rcases h _ _ q with z | ⟨_, _, e, _⟩
    · exact .inl (.inr ⟨od, z⟩)
    · cases e
  · exact .inr q
theorem hd_sqL {K : PySem.W.Frag} {F H : Hp} (h : ∀ a o, F a = some o → Hd H a o) {a : Addr} {vs : List V} (q : SqL K F a vs) : SqL K H a vs := by
  rcases q with (q | ⟨od, q⟩) | q
  · rcases h _ _ q with z | ⟨_, _, e, _⟩
    · exact .inl (.inl z)
    · cases e
  · rcases h _ _ q with z | ⟨_, _, e, _⟩
    · exact .inl (.inr ⟨od, z⟩)
    · cases e
  · exact .inr q
theorem hd_lst {F H : Hp} (h : ∀ a o, F a = some o → Hd H a o) {a : Addr} {vs : List V} (q : F a = some (.lst vs)) : H a = some (.lst vs) := by
  rcases h _ _ q with z | ⟨_, _, e, _⟩
  · exact z
  · cases e
theorem hd_dK {F H : Hp} (h : ∀ a o, F a = some o → Hd H a o) {a : Addr} {vs : List (Key × V)} (q : F a = some (.dK vs)) : Rd H a (.dK vs) := by
  rcases h _ _ q with z | ⟨od, _, _, z⟩
  · exact .inl z
  · exact .inr ⟨od, z⟩
theorem pg_imp {e : Expr} {t t' : TG} (h : PG X e t) (g : ∀ v σ H Q, t' v σ H Q → t v σ H Q) : PG X e t' := ⟨fun pins s σ H v u Q I r q => h.run pins s σ H v u Q I r (g v σ H Q q)⟩
theorem pgs_imp {e : List Expr} {t t' : TGs} (h : PGs X e t) (g : ∀ v σ H Q, t' v σ H Q → t v σ H Q) : PGs X e t' := ⟨fun pins s σ H v u Q I r q => h.run pins s σ H v u Q I r (g v σ H Q q)⟩
theorem mG_name (i : Nat) (ws : List Nat) {x : Str} {pos : Pos} (hN : X.N.Nodup) (hi : X.N[i]? = some x := by rfl) (hx : L2.Loc X.env.scope x := by first | exact Or.inl rfl | exact Or.inr rfl)
    (hf : X.fn x = true ∨ X.env.scope.names.lookup x = some .local := by first | exact .inl rfl | exact .inr rfl) (hw : i ∈ ws := by decide) : PG X (.Name x pos) (tGP X.K ws (gN i)) := by
  refine pg_imp (pg_name hN hi hx hf) fun v σ H Q h => ?_
  obtain ⟨ρ, F, τ, τ', t, hs, L, r, e, k⟩ := h
  cases e
  exact k _ (L.set r i) (wipe_set hw)
theorem mG_nil (ws : List Nat) : PGs X [] (tGPs X.K ws gZ) := by
  refine pgs_imp pgs_nil fun v σ H Q h => ?_
  obtain ⟨ρ, F, τ, τ', ts, hs, L, r, e, k⟩ := h
  cases r with
  | nil => cases e; exact ⟨rfl, k _ L rfl⟩
  | cons => cases e
theorem mG_cons {ws : List Nat} {e : Expr} {es : List Expr} {g : TgP} {h : TgPs} (hg : PG X e (tGP X.K ws g)) (hh : PGs X es (tGPs X.K ws h)) (hs : (assignEach (e :: es) X.env).map (·.2) = assign e X.env :: (assignEach es X.env).map (·.2) := by rfl) :
    PGs X (e :: es) (tGPs X.K ws (gC g h)) := by
  refine pgs_imp (pgs_cons hg hh hs) fun v σ H Q q => ?_
  obtain ⟨ρ, F, τ, τ', ts, hs, L, r, e, k⟩ := q
  cases r with
  | nil => cases e
  | cons t ts v vs r1 r2 =>
    unfold gC at e
    cases e1 : g t τ with
    | none => simp [e1] at e
    | some τ1 =>
      simp only [e1, Option.bind] at e
      exact ⟨v, vs, rfl, ρ, F, τ, τ1, t, hs, L, r1, e1, fun σ1 L1 w1 => ⟨ρ, F, τ1, τ', ts, hs, L1, r2, e, fun σ2 L2 w2 => k σ2 L2 (w2.trans w1)⟩⟩
theorem gLen {g : TgPs} {n : Nat} (h : ∀ ts τ τ', g ts τ = some τ' → ts.length = n) : True := trivial
theorem mG_tup {ws : List Nat} {es : List Expr} {k : Nat} {pos : Pos} {g : TgPs} {n : Nat} (h : PGs X es (tGPs X.K ws g)) (hl : ∀ ts τ τ', g ts τ = some τ' → ts.length = n) (hc : X.calm = true := by rfl) (hn : (assignEach es X.env).length = n := by rfl)
    (hst : (assignEach es X.env).findIdx? (·.1) = none := by rfl) : PG X (.Tuple es k pos) (tGP X.K ws (gTp g)) := by
  refine pg_imp (pg_tup hc h hn hst) fun v σ H Q q => ?_
  obtain ⟨ρ, F, τ, τ', t, hs, L, r, e, k⟩ := q
  unfold gTp at e
  split at e
  case h_2 => cases e
  rename_i ts
  cases r with
  | tup _ vs a hq rl => exact ⟨a, vs, rfl, hd_sqT hs hq, by rw [← rl.length]; exact hl _ _ _ e, ρ, F, τ, τ', ts, hs, L, rl, e, k⟩
theorem gZ_len : ∀ ts τ τ', gZ ts τ = some τ' → ts.length = 0 := fun ts τ τ' h => by
  cases ts with
  | nil => rfl
  | cons => cases h
theorem gC_len {g : TgP} {h : TgPs} {n : Nat} (hl : ∀ ts τ τ', h ts τ = some τ' → ts.length = n) : ∀ ts τ τ', gC g h ts τ = some τ' → ts.length = n + 1 := fun ts τ τ' e => by
  cases ts with
  | nil => cases e
  | cons t ts =>
    unfold gC at e
    cases e1 : g t τ with
    | none => simp [e1] at e
    | some τ1 =>
      simp only [e1, Option.bind] at e
      simp [hl _ _ _ e]
end
end Mi
namespace Mi
open PySem PySem.Spec PyProof.Rows L2

/-! ### what is walked -/
/-- fixed items, or items asked at each turn (none: not to be walked; some none: the end) -/
inductive Src where
  | l (ts : List T)
  | f (nx : Nat → Hs → Option (Option T))
abbrev IM := Mi.Loc → Hs → Res Src

def forL (g : TgP) (b : SM) : List T → Mi.Loc → Hs → SRes
  | [], τ, M => .nx τ M
  | t :: ts, τ, M => match g t τ with
    | none => .bad
    | some τ1 => match b τ1 M with
      | .nx τ2 M2 => forL g b ts τ2 M2
      | .ct τ2 M2 => forL g b ts τ2 M2
      | .bk τ2 M2 => .nx τ2 M2
      | r => r
def forF (g : TgP) (b : SM) (nx : Nat → Hs → Option (Option T)) : Nat → Nat → Mi.Loc → Hs → SRes
  | 0, _, _, _ => .bad
  | n + 1, i, τ, M => match nx i M with
    | none => .bad
    | some none => .nx τ M
    | some (some t) => match g t τ with
      | none => .bad
      | some τ1 => match b τ1 M with
        | .nx τ2 M2 => forF g b nx n (i + 1) τ2 M2
        | .ct τ2 M2 => forF g b nx n (i + 1) τ2 M2
        | .bk τ2 M2 => .nx τ2 M2
        | r => r
def forS (g : TgP) (b : SM) : Src → Mi.Loc → Hs → SRes
  | .l ts, τ, M => forL g b ts τ M
  | .f nx, τ, M => forF g b nx 1000000 0 τ M
def mFor (it : IM) (g : TgP) (b : SM) : SM := fun τ M => (it τ M).st fun src M1 => forS g b src τ M1

/-- the iterator J yields what the source tells -/
def Its (tb : Tb) (K : PySem.W.Frag) (J : It) (ρ0 : List Addr) (F0 H0 : Hp) : Src → Prop
  | .l ts => ∀ i ρ F M H, Ext ρ0 F0 H0 ρ F H → Sim tb K ρ F M H →
      (∀ t, ts[i]? = some t → J.go i H ∧ ∀ x H', J.yld i H x H' → ∃ F', Ext ρ F H ρ F' H' ∧ Sim tb K ρ F' M H' ∧ Rep K F' ρ t x) ∧ (i = ts.length → J.stop i H)
  | .f nx => ∀ i ρ F M H, Ext ρ0 F0 H0 ρ F H → Sim tb K ρ F M H →
      (∀ t, nx i M = some (some t) → J.go i H ∧ ∀ x H', J.yld i H x H' → ∃ F', Ext ρ F H ρ F' H' ∧ Sim tb K ρ F' M H' ∧ Rep K F' ρ t x) ∧ (nx i M = some none → J.stop i H)
def tI (tb : Tb) (K : PySem.W.Frag) (W : WX) (m : IM) : TI := fun σ H R => ∃ ρ F M τ, Sim tb K ρ F M H ∧ LocR K F ρ τ σ ∧ RP tb K ρ F H (WE1 tb W σ) (fun src ρ' F' H' => ∀ J, Its tb K J ρ' F' H' src → R J H') (m τ M)

section
variable {X : Cx} {tb : Tb} {W : WX} {σ : L2.St} {H : Hp} {K : PySem.W.Frag}
theorem pi_imp {tg e : Expr} {t t' : TI} (h : PI X tg e t) (g : ∀ σ H R, t' σ H R → t σ H R) : PI X tg e t' := ⟨fun pins s σ H R I q => h.run pins s σ H R I (g σ H R q)⟩
theorem pi_alt {tg e : Expr} {t t' : TI} (h : PI X tg e t) (h' : PI X tg e t') : PI X tg e (fun σ H R => t σ H R ∨ t' σ H R) := ⟨fun pins s σ H R I q => q.elim (h.run pins s σ H R I) (h'.run pins s σ H R I)⟩
theorem Its.mono {J : It} {ρ ρ' : List Addr} {F F' H H' : Hp} (e : Ext ρ F H ρ' F' H') : ∀ {src : Src}, Its tb K J ρ F H src → Its tb K J ρ' F' H' src
  | .l ts, h => fun i ρ F M H e' S => h i ρ F M H (e.trans e') S
  | .f nx, h => fun i ρ F M H e' S => h i ρ F M H (e.trans e') S
theorem for_end {ws : List Nat} {g : TgP} {b : SM} {J : It} {D : Ends} {src : Src} {ρ : List Addr} {F : Hp} {M : Hs} {τ : Mi.Loc} (S : Sim tb K ρ F M H) (L : LocR K F ρ τ σ) (hJ : Its tb K J ρ F H src) (p : SP1 tb K W ρ F H D (forS g b src τ M)) :
    ∃ Wv : Nat → Nat → L2.St → Hp → Prop, (∃ m, Wv 0 m σ H) ∧ ∀ i m σ H, Wv i m σ H → (J.stop i H ∧ D.nx σ H) ∨ (J.go i H ∧ ∃ N : L2.St → Hp → Prop, (∀ σ' H', N σ' H' → ∃ m', m' < m ∧ Wv (i + 1) m' σ' H') ∧
      ∀ x H', J.yld i H x H' → tGP K ws g x σ H' fun σ2 H2 => tSM tb K W b { D with nx := N, ct := N, bk := D.nx } σ2 H2) := by
  cases src with
  | l ts =>
    refine ⟨fun i m σ' H' => ∃ ρ1 F1 M1 τ1, Ext ρ F H ρ1 F1 H' ∧ Sim tb K ρ1 F1 M1 H' ∧ LocR K F1 ρ1 τ1 σ' ∧ m + i = ts.length ∧ SP1 tb K W ρ1 F1 H' D (forL g b (ts.drop i) τ1 M1), ⟨ts.length, ρ, F, M, τ, .refl, S, L, rfl, by rw [List.drop_zero]; exact p⟩, ?_⟩
    rintro i m σ1 H1 ⟨ρ1, F1, M1, τ1, e1, S1, L1, hm, p1⟩
    obtain ⟨h1, h2⟩ := hJ i ρ1 F1 M1 H1 e1 S1
    by_cases hi : i < ts.length
    · rw [List.drop_eq_getElem_cons hi] at p1
      obtain ⟨go, yl⟩ := h1 _ (List.getElem?_eq_getElem hi)
      refine .inr ⟨go, fun σ' H' => ∃ ρ1 F1 M1 τ1, Ext ρ F H ρ1 F1 H' ∧ Sim tb K ρ1 F1 M1 H' ∧ LocR K F1 ρ1 τ1 σ' ∧ (m - 1) + (i + 1) = ts.length ∧ SP1 tb K W ρ1 F1 H' D (forL g b (ts.drop (i + 1)) τ1 M1), fun σ' H' q => ⟨m - 1, by omega, q⟩, fun x H' y => ?_⟩
      obtain ⟨F2, e2, S2, r2⟩ := yl x H' y
      have hm' : (m - 1) + (i + 1) = ts.length := by omega
      unfold forL at p1
      cases eg : g ts[i] τ1 with
      | none => rw [eg] at p1; exact p1.elim
      | some τ2 =>
        rw [eg] at p1
        dsimp only at p1
        refine ⟨ρ1, F2, τ1, τ2, ts[i], S2.sub, L1.mono e2, r2, eg, fun σ2 L2' _ => ⟨ρ1, F2, M1, τ2, S2, L2', ?_⟩⟩
        have p2 := p1.mono e2
        cases eb : b τ2 M1 with
        | nx τ' M' => rw [eb] at p2; exact fun ρ3 F3 H3 σ3 e3 S3 L3 => ⟨ρ3, F3, M', τ', (e1.trans e2).trans e3, S3, L3, hm', p2.mono e3⟩
        | ct τ' M' => rw [eb] at p2; exact fun ρ3 F3 H3 σ3 e3 S3 L3 => ⟨ρ3, F3, M', τ', (e1.trans e2).trans e3, S3, L3, hm', p2.mono e3⟩
        | bk τ' M' => rw [eb] at p2; exact p2
        | rt t M' => rw [eb] at p2; exact p2
        | ex c M' => rw [eb] at p2; exact p2
        | bad => rw [eb] at p2; exact p2
    · have hi' : i = ts.length := by omega
      rw [List.drop_eq_nil_of_le (by omega)] at p1
      exact .inl ⟨h2 hi', p1 ρ1 F1 H1 σ1 .refl S1 L1⟩
  | f nx =>
    refine ⟨fun i m σ' H' => ∃ ρ1 F1 M1 τ1, Ext ρ F H ρ1 F1 H' ∧ Sim tb K ρ1 F1 M1 H' ∧ LocR K F1 ρ1 τ1 σ' ∧ SP1 tb K W ρ1 F1 H' D (forF g b nx m i τ1 M1), ⟨1000000, ρ, F, M, τ, .refl, S, L, p⟩, ?_⟩
    rintro i m σ1 H1 ⟨ρ1, F1, M1, τ1, e1, S1, L1, p1⟩
    obtain ⟨h1, h2⟩ := hJ i ρ1 F1 M1 H1 e1 S1
    cases m with
    | zero => exact p1.elim
    | succ m =>
      unfold forF at p1
      cases en : nx i M1 with
      | none => rw [en] at p1; exact p1.elim
      | some o =>
        rw [en] at p1
        cases o with
        | none => exact .inl ⟨h2 en, p1 ρ1 F1 H1 σ1 .refl S1 L1⟩
        | some t =>
          obtain ⟨go, yl⟩ := h1 _ en
          refine .inr ⟨go, fun σ' H' => ∃ ρ1 F1 M1 τ1, Ext ρ F H ρ1 F1 H' ∧ Sim tb K ρ1 F1 M1 H' ∧ LocR K F1 ρ1 τ1 σ' ∧ SP1 tb K W ρ1 F1 H' D (forF g b nx m (i + 1) τ1 M1), fun σ' H' q => ⟨m, Nat.lt_succ_self m, q⟩, fun x H' y => ?_⟩
          obtain ⟨F2, e2, S2, r2⟩ := yl x H' y
          dsimp only at p1
          cases eg : g t τ1 with
          | none => rw [eg] at p1; exact p1.elim
          | some τ2 =>
            rw [eg] at p1
            dsimp only at p1
            refine ⟨ρ1, F2, τ1, τ2, t, S2.sub, L1.mono e2, r2, eg, fun σ2 L2' _ => ⟨ρ1, F2, M1, τ2, S2, L2', ?_⟩⟩
            have p2 := p1.mono e2
            cases eb : b τ2 M1 with
            | nx τ' M' => rw [eb] at p2; exact fun ρ3 F3 H3 σ3 e3 S3 L3 => ⟨ρ3, F3, M', τ', (e1.trans e2).trans e3, S3, L3, p2.mono e3⟩
            | ct τ' M' => rw [eb] at p2; exact fun ρ3 F3 H3 σ3 e3 S3 L3 => ⟨ρ3, F3, M', τ', (e1.trans e2).trans e3, S3, L3, p2.mono e3⟩
            | bk τ' M' => rw [eb] at p2; exact p2
            | rt t M' => rw [eb] at p2; exact p2
            | ex c M' => rw [eb] at p2; exact p2
            | bad => rw [eb] at p2; exact p2
theorem mS_for {ws : List Nat} {tg iter : Expr} {body : List Stmt} {pos : Pos} {it : IM} {g : TgP} {b : SM} (hp : PassesOwn (model X.prog X.w) X.A X.env X.xe) (hi : PI X tg iter (tI tb X.K W it)) (hg : PG X tg (tGP X.K ws g)) (hb : PSs X body (tSM tb X.K W b))
    (hc : X.calm = true := by rfl) (hs : ∀ x, foldedSetIterable iter X.env x = pure x := by intro _; rfl) : PS X (.For tg iter body [] pos) (tSM tb X.K W (mFor it g b)) := by
  refine ps_imp (ps_for hp hc hi hg hb hs) fun D σ H h => ?_
  obtain ⟨ρ, F, M, τ, S, L, p⟩ := h
  refine ⟨ρ, F, M, τ, S, L, (SP1.st p).imp fun src ρ1 F1 H1 e1 q J hJ => ?_⟩
  obtain ⟨M1, _, S1, p1⟩ := q
  exact for_end S1 (L.mono e1) hJ p1

/-! ### sources -/
def srcR (r : Nat) : Nat → Hs → Option (Option T) := fun i M => match M[r]? with
  | some (.lst ts) => some ts[i]?
  | _ => none
def srcV : T → Hs → Res Src
  | .lst ts, M => .ok (.l ts) M
  | .tup ts, M => .ok (.l ts) M
  | .fix ts, M => .ok (.l ts) M
  | .str s, M => .ok (.l (s.map fun c => .str [c])) M
  | .ref r, M => match M[r]? with
    | some (.lst _) => .ok (.f (srcR r)) M
    | _ => .bad
  | _, _ => .bad
def mIV (e : EM) : IM := fun τ M => (e τ M).bind srcV
theorem its_list {a : Addr} {ρ : List Addr} {F : Hp} {ts : List T} {vs : List V} (h : SqL K F a vs) (r : RepL K F ρ ts vs) : Its tb K (Itl K a) ρ F H (.l ts) := fun i ρ1 F1 M1 H1 e1 S1 => by
  have h1 : SqL K H1 a vs := hd_sqL S1.sub (sqL_mono e1.f h)
  have sub1 : ∀ a o, F a = some o → Hd H1 a o := fun a o e => S1.sub a o (e1.f a o e)
  refine ⟨fun t ht => ?_, fun hi => ⟨vs, h1, by rw [hi, r.length]; exact Nat.le_refl _⟩⟩
  obtain ⟨v, hv, rv⟩ := r.get ht
  refine ⟨⟨vs, v, h1, hv⟩, fun x H' y => ?_⟩
  obtain ⟨rfl, y2⟩ := y
  have hx := y2 vs h1
  rw [hv] at hx; cases hx
  exact ⟨F1, .refl, S1, rv.mono e1⟩
theorem its_tup {a : Addr} {ρ : List Addr} {F : Hp} {ts : List T} {vs : List V} (h : SqT K F a vs) (r : RepL K F ρ ts vs) : Its tb K (Itt K a) ρ F H (.l ts) := fun i ρ1 F1 M1 H1 e1 S1 => by
  have h1 : SqT K H1 a vs := hd_sqT S1.sub (sqT_mono e1.f h)
  refine ⟨fun t ht => ?_, fun hi => ⟨vs, h1, by rw [hi, r.length]; exact Nat.le_refl _⟩⟩
  obtain ⟨v, hv, rv⟩ := r.get ht
  refine ⟨⟨vs, v, h1, hv⟩, fun x H' y => ?_⟩
  obtain ⟨rfl, y2⟩ := y
  have hx := y2 vs h1
  rw [hv] at hx; cases hx
  exact ⟨F1, .refl, S1, rv.mono e1⟩
theorem its_str {ρ : List Addr} {F : Hp} (s : List Nat) : Its tb K (L2.Its ⟨s.toArray⟩) ρ F H (.l (s.map fun c => .str [c])) := fun i ρ1 F1 M1 H1 e1 S1 => by
  refine ⟨fun t ht => ?_, fun hi => ?_⟩
  · rw [List.getElem?_map] at ht
    cases e : s[i]? with
    | none => rw [e] at ht; cases ht
    | some c =>
      rw [e] at ht; cases ht
      refine ⟨?_, fun x H' y => ?_⟩
      · show i < s.toArray.size
        have := (List.getElem?_eq_some_iff.mp e).1
        simpa using this
      · obtain ⟨rfl, c', hc, rfl⟩ := y
        have hc' : s[i]? = some c' := by simpa using hc
        rw [e] at hc'; cases hc'
        exact ⟨F1, .refl, S1, .str [c]⟩
  · show s.toArray.size ≤ i
    rw [hi]
    simp
theorem its_ref {a : Addr} {r : Nat} {ρ : List Addr} {F : Hp} (h : ρ[r]? = some a) : Its tb K (Itl K a) ρ F H (.f (srcR r)) := fun i ρ1 F1 M1 H1 e1 S1 => by
  have h' := e1.get h
  have at_ : ∀ ts, M1[r]? = some (.lst ts) → ∃ vs, H1 a = some (.lst vs) ∧ RepL K F1 ρ1 ts vs := fun ts hm => S1.ob r _ a hm h'
  refine ⟨fun t ht => ?_, fun ht => ?_⟩
  · unfold srcR at ht
    split at ht
    case h_2 => cases ht
    rename_i ts hm
    obtain ⟨vs, hH, rl⟩ := at_ ts hm
    obtain ⟨v, hv, rv⟩ := rl.get (Option.some.inj ht)
    refine ⟨⟨vs, v, .inl (.inl hH), hv⟩, fun x H' y => ?_⟩
    obtain ⟨rfl, y2⟩ := y
    have hx := y2 vs (.inl (.inl hH))
    rw [hv] at hx; cases hx
    exact ⟨F1, .refl, S1, rv⟩
  · unfold srcR at ht
    split at ht
    case h_2 => cases ht
    rename_i ts hm
    obtain ⟨vs, hH, rl⟩ := at_ ts hm
    have := Option.some.inj ht
    rw [List.getElem?_eq_none_iff] at this
    exact ⟨vs, .inl (.inl hH), by rw [← rl.length]; exact this⟩
theorem mI_val {tg e : Expr} {m : EM} (h : PE X e (tM tb X.K W m)) : PI X tg e (tI tb X.K W (mIV m)) := by
  refine pi_imp (pi_alt (pi_list h) (pi_alt (pi_tup h) (pi_str h))) fun σ H R q => ?_
  obtain ⟨ρ, F, M, τ, S, L, p⟩ := q
  have p' := RP.bind p
  cases em : m τ M with
  | bad => rw [em] at p'; exact p'.elim
  | ex c M' => rw [em] at p'; exact .inl ⟨ρ, F, M, τ, S, L, by rw [em]; exact p'⟩
  | ok t M1 =>
    rw [em] at p'
    have key : ∀ {ρ1 F1 H1}, Ext ρ F H ρ1 F1 H1 → Sim tb X.K ρ1 F1 M1 H1 → RP tb X.K ρ1 F1 H1 (WE1 tb W σ) (fun src ρ' F' H' => ∀ J, Its tb X.K J ρ' F' H' src → R J H') (srcV t M1) := fun {ρ1 F1 H1} e1 S1 => by
      obtain ⟨M', e, _, r⟩ := p' ρ1 F1 H1 e1 S1
      cases e
      exact r
    cases t with
    | lst ts =>
      refine .inl ⟨ρ, F, M, τ, S, L, ?_⟩
      rw [em]
      intro ρ1 F1 H1 e1 S1 v rv
      cases rv with
      | lst _ vs a hF rl =>
        refine ⟨a, rfl, ⟨vs, .inl (.inl (hd_lst S1.sub hF))⟩, RP.here S1 (key e1 S1) _ (its_list (.inl (.inl hF)) rl)⟩
    | tup ts =>
      refine .inr (.inl ⟨ρ, F, M, τ, S, L, ?_⟩)
      rw [em]
      intro ρ1 F1 H1 e1 S1 v rv
      cases rv with
      | tup _ vs a hF rl => exact ⟨a, rfl, ⟨vs, hd_sqT S1.sub hF⟩, RP.here S1 (key e1 S1) _ (its_tup hF rl)⟩
    | fix ts =>
      refine .inl ⟨ρ, F, M, τ, S, L, ?_⟩
      rw [em]
      intro ρ1 F1 H1 e1 S1 v rv
      cases rv with
      | fix _ vs a hF rl => exact ⟨a, rfl, ⟨vs, hd_sqL S1.sub hF⟩, RP.here S1 (key e1 S1) _ (its_list hF rl)⟩
    | str s =>
      refine .inr (.inr ⟨ρ, F, M, τ, S, L, ?_⟩)
      rw [em]
      intro ρ1 F1 H1 e1 S1 v rv
      cases rv with
      | str _ => exact ⟨_, rfl, RP.here S1 (key e1 S1) _ (its_str s)⟩
    | ref r =>
      refine .inl ⟨ρ, F, M, τ, S, L, ?_⟩
      rw [em]
      intro ρ1 F1 H1 e1 S1 v rv
      cases rv with
      | ref _ a hF =>
        have q := key e1 S1
        cases hm : M1[r]? with
        | none => simp only [srcV, hm] at q; exact q.elim
        | some ob =>
        cases ob with
        | ins c fs => simp only [srcV, hm] at q; exact q.elim
        | dct c => simp only [srcV, hm] at q; exact q.elim
        | lkd c => simp only [srcV, hm] at q; exact q.elim
        | lst ts =>
        simp only [srcV, hm] at q
        obtain ⟨vs, hH, rl⟩ := S1.ob r _ a hm hF
        exact ⟨a, rfl, ⟨vs, .inl (.inl hH)⟩, RP.here S1 q _ (its_ref hF)⟩
    | un => exact .inl ⟨ρ, F, M, τ, S, L, by rw [em]; exact fun ρ1 F1 H1 e1 S1 v rv => (key e1 S1).elim⟩
    | non => exact .inl ⟨ρ, F, M, τ, S, L, by rw [em]; exact fun ρ1 F1 H1 e1 S1 v rv => (key e1 S1).elim⟩
    | bl b => exact .inl ⟨ρ, F, M, τ, S, L, by rw [em]; exact fun ρ1 F1 H1 e1 S1 v rv => (key e1 S1).elim⟩
    | int i => exact .inl ⟨ρ, F, M, τ, S, L, by rw [em]; exact fun ρ1 F1 H1 e1 S1 v rv => (key e1 S1).elim⟩
    | dct kvs => exact .inl ⟨ρ, F, M, τ, S, L, by rw [em]; exact fun ρ1 F1 H1 e1 S1 v rv => (key e1 S1).elim⟩

/-! range -/
def rngL (lo c : Int) (n : Nat) : List T := (List.range n).map fun i => .int (lo + (i : Nat) * c)
def okI (i : Int) : Bool := decide (-4611686018427387904 ≤ i) && decide (i < 4611686018427387904)
theorem okI_of {i : Int} (h : okI i = true) : -(2 ^ 62) ≤ i ∧ i < 2 ^ 62 := by
  unfold okI at h
  simp only [Bool.and_eq_true, decide_eq_true_eq] at h
  omega
def mIA (f : List T → Hs → Res Src) (a : AM) : IM := fun τ M => (a τ M).bind f
def rngV1 : List T → Hs → Res Src
  | [.int j], M => if okI j then .ok (.l (rngL 0 1 j.toNat)) M else .bad
  | _, _ => .bad
def rngV2 : List T → Hs → Res Src
  | [.int i, .int j], M => if okI i && okI j then .ok (.l (rngL i 1 (j - i).toNat)) M else .bad
  | _, _ => .bad
def OpI (tb : Tb) (K : PySem.W.Frag) (f : List T → Hs → Res Src) (r : List V → Hp → (It → Hp → Prop) → Prop) : Prop :=
  ∀ (E : Nat → Hp → Prop) (ρ : List Addr) (F : Hp) (M : Hs) (H : Hp) (R : It → Hp → Prop) (a : List T) (x : List V), Sim tb K ρ F M H → RepL K F ρ a x → RP tb K ρ F H E (fun src ρ' F' H' => ∀ J, Its tb K J ρ' F' H' src → R J H') (f a M) → r x H R
theorem manyI {f : List T → Hs → Res Src} {r : List V → Hp → (It → Hp → Prop) → Prop} {ma : AM} {R : It → Hp → Prop} (hf : OpI tb K f r) (h : tI tb K W (mIA f ma) σ H R) : tAM tb K W ma σ H (fun vs H1 => r vs H1 R) := by
  obtain ⟨ρ, F, M, τ, S, L, p⟩ := h
  refine ⟨ρ, F, M, τ, S, L, (RP.bind p).imp fun a ρ1 F1 H1 e1 q v r1 => ?_⟩
  obtain ⟨M1, _, S1, p1⟩ := q
  exact hf _ ρ1 F1 M1 H1 R a v S1 r1 p1
theorem its_rng {ρ : List Addr} {F : Hp} {lo : Int} {n : Nat} : Its tb K (Itr lo n) ρ F H (.l (rngL lo 1 n)) := fun i ρ1 F1 M1 H1 e1 S1 => by
  refine ⟨fun t ht => ?_, fun hi => ?_⟩
  · unfold rngL at ht
    rw [List.getElem?_map] at ht
    cases e : (List.range n)[i]? with
    | none => rw [e] at ht; cases ht
    | some c =>
      rw [e] at ht; cases ht
      obtain ⟨hl, e⟩ := List.getElem?_eq_some_iff.mp e
      rw [List.getElem_range] at e
      subst e
      rw [List.length_range] at hl
      refine ⟨hl, fun x H' y => ?_⟩
      obtain ⟨rfl, rfl⟩ := y
      exact ⟨F1, .refl, S1, by show Rep K F1 ρ1 (.int (lo + (i : Nat) * 1)) _; rw [Int.mul_one]; exact .int _⟩
  · show n ≤ i
    rw [hi]
    simp [rngL]
theorem op_rng1 : OpI tb K rngV1 (fun vs H R => ∃ j : Int, vs = [.int j] ∧ -(2 ^ 62) ≤ j ∧ j < 2 ^ 62 ∧ R (Itr 0 j.toNat) H) := fun E ρ F M H R a x S r p => by
  unfold rngV1 at p
  split at p
  case h_2 => exact p.elim
  rename_i j
  cases r with
  | cons _ _ _ _ r1 r2 =>
  cases r1; cases r2
  split at p
  · rename_i hk
    obtain ⟨h1, h2⟩ := okI_of hk
    exact ⟨j, rfl, h1, h2, RP.here S p _ its_rng⟩
  · exact p.elim
theorem op_rng2 : OpI tb K rngV2 (fun vs H R => ∃ i j : Int, vs = [.int i, .int j] ∧ (-(2 ^ 62) ≤ i ∧ i < 2 ^ 62 ∧ -(2 ^ 62) ≤ j ∧ j < 2 ^ 62) ∧ R (Itr i (j - i).toNat) H) := fun E ρ F M H R a x S r p => by
  unfold rngV2 at p
  split at p
  case h_2 => exact p.elim
  rename_i i j
  cases r with
  | cons _ _ _ _ r1 r2 =>
  cases r2 with
  | cons _ _ _ _ r2 r3 =>
  cases r1; cases r2; cases r3
  split at p
  · rename_i hk
    rw [Bool.and_eq_true] at hk
    obtain ⟨h1, h2⟩ := okI_of hk.1
    obtain ⟨h3, h4⟩ := okI_of hk.2
    exact ⟨i, j, rfl, ⟨h1, h2, h3, h4⟩, RP.here S p _ its_rng⟩
  · exact p.elim
theorem mI_rng1 {tg a : Expr} {m : AM} {p pos : Pos} (hm : X.mg "range" = none) (h : PA X [a] (tAM tb X.K W m)) (hg : Gl X "range" := by rfl) (hs : starEach [a] X.env = [(false, eval a X.env)] := by rfl) :
    PI X tg (.Call (.Name "range" p) [a] [] pos) (tI tb X.K W (mIA rngV1 m)) := pi_imp (pi_range1 hg hm h hs) fun σ H R q => manyI op_rng1 q
theorem mI_rng2 {tg a b : Expr} {m : AM} {p pos : Pos} (hm : X.mg "range" = none) (h : PA X [a, b] (tAM tb X.K W m)) (hg : Gl X "range" := by rfl) (hs : starEach [a, b] X.env = [(false, eval a X.env), (false, eval b X.env)] := by rfl)
    (hs2 : starEach [b] X.env = [(false, eval b X.env)] := by rfl) : PI X tg (.Call (.Name "range" p) [a, b] [] pos) (tI tb X.K W (mIA rngV2 m)) :=
  pi_imp (pi_range2 hg hm h hs hs2) fun σ H R q => manyI op_rng2 q
end
end Mi
namespace Mi
open PySem PySem.Spec PyProof.Rows L2

/-! ### dicts -/
def kEq : T → T → Bool
  | .int i, .int j => decide (i = j)
  | .str s, .str t => decide (s = t)
  | _, _ => false
def isKey : T → Bool
  | .int _ => true
  | .str _ => true
  | _ => false
def dGet : List (T × T) → T → Option T
  | [], _ => none
  | p :: r, k => if kEq p.1 k then some p.2 else dGet r k
def dHas (kvs : List (T × T)) (k : T) : Bool := kvs.any fun p => kEq p.1 k
def dPut (kvs : List (T × T)) (k v : T) : List (T × T) := if dHas kvs k then kvs.map (fun p => if kEq p.1 k then (p.1, v) else p) else kvs ++ [(k, v)]
def dDrop (kvs : List (T × T)) (k : T) : List (T × T) := kvs.filter fun p => !kEq p.1 k
def dMerge (kvs more : List (T × T)) : List (T × T) := more.foldl (fun a p => dPut a p.1 p.2) kvs

theorem isKey_iff {k : T} : isKey k = true ↔ ∃ q, keyT k = some q := by
  cases k <;> simp [isKey, keyT]
theorem kEq_iff {a b : T} {p q : Key} (ha : keyT a = some p) (hb : keyT b = some q) : kEq a b = decide (p = q) := by
  cases a <;> simp only [keyT, Option.some.injEq, reduceCtorEq] at ha <;> cases b <;> simp only [keyT, Option.some.injEq, reduceCtorEq] at hb <;> subst ha <;> subst hb <;> simp [kEq]
section
variable {K : PySem.W.Frag} {F : Hp} {ρ : List Addr}
theorem key_rep {k : T} {q : Key} {v : V} (h : keyT k = some q) (r : Rep K F ρ k v) : v = kV q := by
  cases k <;> simp only [keyT, Option.some.injEq, reduceCtorEq] at h <;> subst h <;> cases r <;> rfl
theorem RepD.length : ∀ {kvs : List (T × T)} {vs : List (Key × V)}, RepD K F ρ kvs vs → kvs.length = vs.length
  | _, _, .nil => rfl
  | _, _, .cons _ _ _ _ _ _ _ _ r => congrArg (· + 1) (RepD.length r)
theorem RepD.get {k : T} {q : Key} (hk : keyT k = some q) : ∀ {kvs : List (T × T)} {vs : List (Key × V)}, RepD K F ρ kvs vs → (dGet kvs k = none ∧ valV vs q = none) ∨ ∃ t v, dGet kvs k = some t ∧ valV vs q = some v ∧ Rep K F ρ t v
  | _, _, .nil => .inl ⟨rfl, rfl⟩
  | _, _, .cons a t kvs p v vs e h r => by
    have he := kEq_iff e hk
    by_cases hp : p = q
    · refine .inr ⟨t, v, ?_, valV_pos hp, h⟩
      unfold dGet
      rw [he, decide_eq_true hp]
      rfl
    · have z : dGet ((a, t) :: kvs) k = dGet kvs k := by
        conv => lhs; unfold dGet
        rw [he, decide_eq_false hp]
        rfl
      rw [z, valV_neg (p := (p, v)) hp]
      exact RepD.get hk r
theorem RepD.has {k : T} {q : Key} (hk : keyT k = some q) : ∀ {kvs : List (T × T)} {vs : List (Key × V)}, RepD K F ρ kvs vs → dHas kvs k = vs.any fun kv => decide (kv.1 = q)
  | _, _, .nil => rfl
  | _, _, .cons a t kvs p v vs e h r => by
    unfold dHas
    rw [List.any_cons, List.any_cons, kEq_iff e hk]
    have := RepD.has hk r
    unfold dHas at this
    rw [this]
theorem RepD.hasV {k : T} {q : Key} (hk : keyT k = some q) {kvs : List (T × T)} {vs : List (Key × V)} (r : RepD K F ρ kvs vs) : dHas kvs k = (valV vs q).isSome := by
  rw [RepD.has hk r, valV_any]
theorem RepD.append : ∀ {kvs more : List (T × T)} {vs ws : List (Key × V)}, RepD K F ρ kvs vs → RepD K F ρ more ws → RepD K F ρ (kvs ++ more) (vs ++ ws)
  | _, _, _, _, .nil, s => s
  | _, _, _, _, .cons a t kvs p v vs e h r, s => .cons a t _ p v _ e h (RepD.append r s)
theorem RepD.repl {k t : T} {q : Key} {v : V} (hk : keyT k = some q) (rt : Rep K F ρ t v) : ∀ {kvs : List (T × T)} {vs : List (Key × V)}, RepD K F ρ kvs vs →
    RepD K F ρ (kvs.map fun p => if kEq p.1 k then (p.1, t) else p) (vs.map fun kv => if kv.1 = q then (kv.1, v) else kv)
  | _, _, .nil => .nil
  | _, _, .cons a u kvs p w vs e h r => by
    rw [List.map_cons, List.map_cons]
    have he := kEq_iff e hk
    by_cases hp : p = q
    · rw [he, decide_eq_true hp, if_pos rfl, if_pos hp]
      exact .cons _ _ _ _ _ _ e rt (RepD.repl hk rt r)
    · rw [he, decide_eq_false hp, if_neg Bool.false_ne_true, if_neg hp]
      exact .cons _ _ _ _ _ _ e h (RepD.repl hk rt r)
theorem RepD.put {k t : T} {q : Key} {v : V} (hk : keyT k = some q) (rt : Rep K F ρ t v) {kvs : List (T × T)} {vs : List (Key × V)} (r : RepD K F ρ kvs vs) : RepD K F ρ (dPut kvs k t) (putK vs q v) := by
  unfold dPut putK
  rw [RepD.has hk r]
  by_cases h : (vs.any fun kv => decide (kv.1 = q)) = true
  · rw [if_pos h, if_pos h]
    exact RepD.repl hk rt r
  · rw [if_neg h, if_neg h]
    exact r.append (.cons _ _ _ _ _ _ hk rt .nil)
theorem RepD.drop {k : T} {q : Key} (hk : keyT k = some q) : ∀ {kvs : List (T × T)} {vs : List (Key × V)}, RepD K F ρ kvs vs → RepD K F ρ (dDrop kvs k) (dropK vs q)
  | _, _, .nil => .nil
  | _, _, .cons a u kvs p w vs e h r => by
    have he := kEq_iff e hk
    have ih := RepD.drop hk r
    unfold dDrop dropK at ih ⊢
    rw [List.filter_cons, List.filter_cons]
    by_cases hp : p = q
    · simp only [he, decide_eq_true hp, hp]
      simpa using ih
    · simp only [he, decide_eq_false hp]
      simp only [Bool.not_false, if_true, ne_eq, hp, not_false_eq_true, decide_true]
      exact .cons _ _ _ _ _ _ e h ih
theorem RepD.merge : ∀ {more : List (T × T)} {ws : List (Key × V)} {kvs : List (T × T)} {vs : List (Key × V)}, RepD K F ρ more ws → RepD K F ρ kvs vs → RepD K F ρ (dMerge kvs more) (mergeK vs ws)
  | _, _, _, _, .nil, s => s
  | _, _, _, _, .cons a t more p v ws e h r, s => RepD.merge (kvs := dPut _ a t) (vs := putK _ p v) r (s.put e h)
end

/-! ### what a value stands for: a list, a tuple, a dict -/
def lsOf : T → Hs → Option (List T)
  | .lst ts, _ => some ts
  | .fix ts, _ => some ts
  | .ref r, M => match M[r]? with
    | some (.lst ts) => some ts
    | _ => none
  | _, _ => none
def dcOf : T → Hs → Option (List (T × T))
  | .dct kvs, _ => some kvs
  | .ref r, M => match M[r]? with
    | some (.dct kvs) => some kvs
    | some (.lkd kvs) => some kvs
    | _ => none
  | _, _ => none
section
variable {tb : Tb} {K : PySem.W.Frag} {F : Hp} {ρ : List Addr} {M : Hs} {H : Hp}
theorem ls_at {t : T} {ts : List T} {v : V} (S : Sim tb K ρ F M H) (r : Rep K F ρ t v) (h : lsOf t M = some ts) : ∃ a vs, v = .ref a ∧ SqL K H a vs ∧ RepL K F ρ ts vs := by
  cases t <;> simp only [lsOf, reduceCtorEq] at h
  case lst us =>
    cases h
    cases r with
    | lst _ vs a hF rl => exact ⟨a, vs, rfl, .inl (.inl (hd_lst S.sub hF)), rl⟩
  case fix us =>
    cases h
    cases r with
    | fix _ vs a hF rl => exact ⟨a, vs, rfl, hd_sqL S.sub hF, rl⟩
  case ref i =>
    split at h
    case h_2 => cases h
    rename_i us hm
    cases h
    cases r with
    | ref _ a hρ =>
      obtain ⟨vs, hH, rl⟩ := S.ob i _ a hm hρ
      exact ⟨a, vs, rfl, .inl (.inl hH), rl⟩
def lsW : T → Hs → Option (List T)
  | .lst ts, _ => some ts
  | .ref r, M => match M[r]? with
    | some (.lst ts) => some ts
    | _ => none
  | _, _ => none
theorem lw_at {t : T} {ts : List T} {v : V} (S : Sim tb K ρ F M H) (r : Rep K F ρ t v) (h : lsW t M = some ts) : ∃ a vs, v = .ref a ∧ H a = some (.lst vs) ∧ RepL K F ρ ts vs := by
  cases t <;> simp only [lsW, reduceCtorEq] at h
  case lst us =>
    cases h
    cases r with
    | lst _ vs a hF rl => exact ⟨a, vs, rfl, hd_lst S.sub hF, rl⟩
  case ref i =>
    split at h
    case h_2 => cases h
    rename_i us hm
    cases h
    cases r with
    | ref _ a hρ =>
      obtain ⟨vs, hH, rl⟩ := S.ob i _ a hm hρ
      exact ⟨a, vs, rfl, hH, rl⟩
theorem dc_at {t : T} {kvs : List (T × T)} {v : V} (S : Sim tb K ρ F M H) (r : Rep K F ρ t v) (h : dcOf t M = some kvs) : ∃ a vs, v = .ref a ∧ Rd H a (.dK vs) ∧ RepD K F ρ kvs vs := by
  cases t <;> simp only [dcOf, reduceCtorEq] at h
  case dct us =>
    cases h
    cases r with
    | dct _ vs a hF rl => exact ⟨a, vs, rfl, hd_dK S.sub hF, rl⟩
  case ref i =>
    split at h
    case h_3 => cases h
    all_goals
      rename_i us hm
      cases h
      cases r with
      | ref _ a hρ =>
        have z := S.ob i _ a hm hρ
        first
          | (obtain ⟨vs, hH, rl⟩ := z; exact ⟨a, vs, rfl, .inl hH, rl⟩)
          | (obtain ⟨od, vs, hH, rl⟩ := z; exact ⟨a, vs, rfl, .inr ⟨od, hH⟩, rl⟩)
end

/-! ### operations on values -/
def lineN : Nat := 16777216
theorem lineN_eq : lineN = sizeLine := by rw [sizeLine_eq]; rfl
def fAdd : T → T → Hs → Res T
  | .int i, .int j, M => .ok (.int (i + j)) M
  | .str s, .str t, M => if s.length + t.length ≤ lineN then .ok (.str (s ++ t)) M else .bad
  | .tup a, .tup b, M => if a.length + b.length ≤ lineN then .ok (.tup (a ++ b)) M else .bad
  | x, y, M => match lsW x M, lsW y M with
    | some a, some b => if a.length + b.length ≤ lineN then .ok (.lst (a ++ b)) M else .bad
    | _, _ => .bad
def fSub : T → T → Hs → Res T
  | .int i, .int j, M => .ok (.int (i - j)) M
  | _, _, _ => .bad
def smallI (i : Int) : Bool := decide (-18446744073709551616 < i) && decide (i < 18446744073709551616)
def fMul : T → T → Hs → Res T
  | .int i, .int j, M => if smallI i || smallI j then .ok (.int (i * j)) M else .bad
  | x, .int k, M => match lsW x M with
    | some a => if decide (-9223372036854775808 ≤ k) && decide (k < 9223372036854775808) && decide (a.length * k.toNat ≤ lineN) then .ok (.lst (List.replicate k.toNat a).flatten) M else .bad
    | none => .bad
  | _, _, _ => .bad
def fDiv : T → T → Hs → Res T
  | .int i, .int j, M => if decide (j ≠ 0) && decide (j.natAbs < 1073741824) then .ok (.int (i.fdiv j)) M else .bad
  | _, _, _ => .bad
def fMod : T → T → Hs → Res T
  | .int i, .int j, M => if decide (j ≠ 0) then .ok (.int (i.fmod j)) M else .bad
  | _, _, _ => .bad
def fPow : T → T → Hs → Res T
  | .int i, .int j, M => if decide (0 ≤ j) && decide (j ≤ 1000000) && decide (i.natAbs < 18446744073709551616) then .ok (.int (i ^ j.toNat)) M else .bad
  | _, _, _ => .bad
def fNeg : T → Hs → Res T
  | .int i, M => .ok (.int (-i)) M
  | _, _ => .bad
def fLt : T → T → Hs → Res T
  | .int i, .int j, M => .ok (.bl (decide (i < j))) M
  | _, _, _ => .bad
def fLe : T → T → Hs → Res T
  | .int i, .int j, M => .ok (.bl (decide (i ≤ j))) M
  | _, _, _ => .bad
def fGt : T → T → Hs → Res T
  | .int i, .int j, M => .ok (.bl (decide (j < i))) M
  | _, _, _ => .bad
def fGe : T → T → Hs → Res T
  | .int i, .int j, M => .ok (.bl (decide (j ≤ i))) M
  | _, _, _ => .bad
def isNon : T → Bool
  | .non => true
  | _ => false
def fIs : T → T → Hs → Res T
  | x, .non, M => .ok (.bl (isNon x)) M
  | .bl a, .bl b, M => .ok (.bl (decide (a = b))) M
  | _, _, _ => .bad
def fIsN : T → T → Hs → Res T
  | x, .non, M => .ok (.bl (!isNon x)) M
  | .bl a, .bl b, M => .ok (.bl (!decide (a = b))) M
  | _, _, _ => .bad

section
variable {X : Cx} {tb : Tb} {K : PySem.W.Frag}
theorem OpR.imp {f : Value → Value → Sem Value} {r r' : R2} (h : OpR X f r) (g : ∀ x y H Q, r' x y H Q → r x y H Q) : OpR X f r' := fun pins s σ H x y v u Q I rx ry q => h pins s σ H x y v u Q I rx ry (g x y H Q q)
abbrev rAddU (K : PySem.W.Frag) : R2 := fun x y H Q => rI0 (fun i j => .int (i + j)) x y H Q ∨ (∃ i j, x = .str i ∧ y = .str j ∧ i.length + j.length ≤ sizeLine ∧ Q (.str (i ++ j)) H) ∨ rCatA K x y H Q ∨ rCat x y H Q
theorem opr_add : OpR X (binaryOp .Add) (rAddU X.K) := op_add.or (op_add_str.or (op_catA.or op_cat))
theorem str_len (s : List Nat) : (⟨s.toArray⟩ : Str).length = s.length := by simp [Str.length]
theorem str_app (s t : List Nat) : ((⟨s.toArray⟩ : Str) ++ (⟨t.toArray⟩ : Str)) = ⟨(s ++ t).toArray⟩ := by
  show (⟨s.toArray ++ t.toArray⟩ : Str) = _
  simp
theorem op2_add : Op2 tb K fAdd (rAddU K) := fun E ρ F M H Q a b x y S ra rb p => by
  unfold fAdd at p
  split at p
  · cases ra; cases rb
    exact .inl ⟨_, _, rfl, rfl, RP.here S p _ (.int _)⟩
  · split at p
    case isFalse => exact p.elim
    rename_i s t hl
    cases ra; cases rb
    refine .inr (.inl ⟨_, _, rfl, rfl, by rw [str_len, str_len, ← lineN_eq]; exact hl, ?_⟩)
    rw [str_app]
    exact RP.here S p _ (.str _)
  · split at p
    case isFalse => exact p.elim
    rename_i s t hl
    cases ra with
    | tup _ vs aa ha rla =>
    cases rb with
    | tup _ ws bb hb rlb =>
    refine .inr (.inr (.inl ⟨aa, bb, vs, ws, rfl, rfl, hd_sqT S.sub ha, hd_sqT S.sub hb, by rw [← rla.length, ← rlb.length, ← lineN_eq]; exact hl, fun e => ?_, fun e1 e2 => ?_, fun _ _ q hq => new_tup S (rla.append rlb) p q hq⟩))
    · subst e
      cases rla
      exact RP.here S p _ (.tup _ ws bb hb rlb)
    · subst e2
      cases rlb
      rw [List.append_nil] at p
      exact RP.here S p _ (.tup _ vs aa ha rla)
  · split at p
    case h_2 => exact p.elim
    rename_i us ws h1 h2
    split at p
    case isFalse => exact p.elim
    rename_i hl
    obtain ⟨aa, vs, rfl, hH, rl⟩ := lw_at S ra h1
    obtain ⟨bb, zs, rfl, hH2, rl2⟩ := lw_at S rb h2
    exact .inr (.inr (.inr ⟨aa, bb, vs, zs, rfl, rfl, hH, hH2, by rw [← rl.length, ← rl2.length, ← lineN_eq]; exact hl, fun q hq => new_lst S (rl.append rl2) p q hq⟩))
theorem op2_I0 {f : T → T → Hs → Res T} {g : Int → Int → V} {g' : Int → Int → T} (hf : ∀ a b M, f a b M = .bad ∨ ∃ i j, a = .int i ∧ b = .int j ∧ f a b M = .ok (g' i j) M) (hg : ∀ i j (F : Hp) (ρ : List Addr), Rep K F ρ (g' i j) (g i j)) : Op2 tb K f (rI0 g) :=
  fun E ρ F M H Q a b x y S ra rb p => by
    rcases hf a b M with e | ⟨i, j, rfl, rfl, e⟩
    · rw [e] at p; exact p.elim
    · rw [e] at p
      cases ra; cases rb
      exact ⟨i, j, rfl, rfl, RP.here S p _ (hg i j F ρ)⟩
theorem op2_sub : Op2 tb K fSub (rI0 fun i j => .int (i - j)) := op2_I0 (g' := fun i j => .int (i - j)) (fun a b M => by
  cases a <;> try exact .inl rfl
  cases b <;> first | exact .inl rfl | exact .inr ⟨_, _, rfl, rfl, rfl⟩) fun i j F ρ => .int _
theorem op2_lt : Op2 tb K fLt (rI0 fun i j => .bl (decide (i < j))) := op2_I0 (g' := fun i j => .bl (decide (i < j))) (fun a b M => by
  cases a <;> try exact .inl rfl
  cases b <;> first | exact .inl rfl | exact .inr ⟨_, _, rfl, rfl, rfl⟩) fun i j F ρ => .bl _
theorem op2_le : Op2 tb K fLe (rI0 fun i j => .bl (decide (i ≤ j))) := op2_I0 (g' := fun i j => .bl (decide (i ≤ j))) (fun a b M => by
  cases a <;> try exact .inl rfl
  cases b <;> first | exact .inl rfl | exact .inr ⟨_, _, rfl, rfl, rfl⟩) fun i j F ρ => .bl _
theorem op2_gt : Op2 tb K fGt (rI0 fun i j => .bl (decide (j < i))) := op2_I0 (g' := fun i j => .bl (decide (j < i))) (fun a b M => by
  cases a <;> try exact .inl rfl
  cases b <;> first | exact .inl rfl | exact .inr ⟨_, _, rfl, rfl, rfl⟩) fun i j F ρ => .bl _
theorem op2_ge : Op2 tb K fGe (rI0 fun i j => .bl (decide (j ≤ i))) := op2_I0 (g' := fun i j => .bl (decide (j ≤ i))) (fun a b M => by
  cases a <;> try exact .inl rfl
  cases b <;> first | exact .inl rfl | exact .inr ⟨_, _, rfl, rfl, rfl⟩) fun i j F ρ => .bl _
theorem smallI_of {i : Int} (h : smallI i = true) : -(2 ^ 64) < i ∧ i < 2 ^ 64 := by
  unfold smallI at h
  simp only [Bool.and_eq_true, decide_eq_true_eq] at h
  omega
abbrev rMulU : R2 := fun x y H Q => rI CMul (fun i j => .int (i * j)) x y H Q ∨ rRep x y H Q
theorem opr_mul : OpR X (binaryOp .Mult) rMulU := op_mul.or op_rep
theorem rep_flat {F : Hp} {ρ : List Addr} {ts : List T} {vs : List V} (r : RepL K F ρ ts vs) : ∀ n : Nat, RepL K F ρ (List.replicate n ts).flatten (List.replicate n vs).flatten
  | 0 => .nil
  | n + 1 => by
    rw [List.replicate_succ, List.replicate_succ, List.flatten_cons, List.flatten_cons]
    exact r.append (rep_flat r n)
theorem op2_mul : Op2 tb K fMul rMulU := fun E ρ F M H Q a b x y S ra rb p => by
  unfold fMul at p
  split at p
  · split at p
    case isFalse => exact p.elim
    rename_i i j hs
    cases ra; cases rb
    refine .inl ⟨_, _, rfl, rfl, ?_, RP.here S p _ (.int _)⟩
    rw [Bool.or_eq_true] at hs
    exact hs.imp smallI_of smallI_of
  · split at p
    case h_2 => exact p.elim
    rename_i us h1
    split at p
    case isFalse => exact p.elim
    rename_i hl
    simp only [Bool.and_eq_true, decide_eq_true_eq] at hl
    obtain ⟨aa, vs, rfl, hH, rl⟩ := lw_at S ra h1
    cases rb
    exact .inr ⟨aa, _, vs, rfl, rfl, hH, by omega, by omega, by rw [← rl.length, ← lineN_eq]; exact hl.2, fun q hq => new_lst S (rep_flat rl _) p q hq⟩
  · exact p.elim
theorem op2_div : Op2 tb K fDiv (rI CDivN fun i j => .int (i.fdiv j)) := fun E ρ F M H Q a b x y S ra rb p => by
  unfold fDiv at p
  split at p
  case h_2 => exact p.elim
  split at p
  case isFalse => exact p.elim
  rename_i i j hs
  simp only [Bool.and_eq_true, decide_eq_true_eq] at hs
  cases ra; cases rb
  exact ⟨_, _, rfl, rfl, hs, RP.here S p _ (.int _)⟩
theorem op2_mod : Op2 tb K fMod (rI (fun _ j => j ≠ 0) fun i j => .int (i.fmod j)) := fun E ρ F M H Q a b x y S ra rb p => by
  unfold fMod at p
  split at p
  case h_2 => exact p.elim
  split at p
  case isFalse => exact p.elim
  rename_i i j hs
  simp only [decide_eq_true_eq] at hs
  cases ra; cases rb
  exact ⟨_, _, rfl, rfl, hs, RP.here S p _ (.int _)⟩
theorem op2_pow : Op2 tb K fPow (rI CPow fun i j => .int (i ^ j.toNat)) := fun E ρ F M H Q a b x y S ra rb p => by
  unfold fPow at p
  split at p
  case h_2 => exact p.elim
  split at p
  case isFalse => exact p.elim
  rename_i i j hs
  simp only [Bool.and_eq_true, decide_eq_true_eq] at hs
  cases ra; cases rb
  exact ⟨_, _, rfl, rfl, ⟨hs.1.1, hs.1.2, hs.2⟩, RP.here S p _ (.int _)⟩
theorem op1_neg : Op1 tb K fNeg (rU fun i => .int (-i)) := fun E ρ F M H Q a x S ra p => by
  unfold fNeg at p
  split at p
  case h_2 => exact p.elim
  cases ra
  exact ⟨_, rfl, RP.here S p _ (.int _)⟩
theorem rep_non {F : Hp} {ρ : List Addr} {t : T} {v : V} (r : Rep K F ρ t v) : isNon t = decide (v = .non) := by
  cases r <;> simp [isNon]
abbrev rIsU : R2 := fun x y H Q => (y = .non ∧ Q (.bl (decide (x = .non))) H) ∨ rIsB x y H Q
abbrev rNotU : R2 := fun x y H Q => (y = .non ∧ Q (.bl (!decide (x = .non))) H) ∨ rNotB x y H Q
theorem opr_is : OpR X (compareOp .Is) rIsU := op_isN.or op_isBl
theorem opr_isN : OpR X (compareOp .IsNot) rNotU := op_notN.or op_notBl
theorem op2_is : Op2 tb K fIs rIsU := fun E ρ F M H Q a b x y S ra rb p => by
  unfold fIs at p
  split at p
  · cases rb
    refine .inl ⟨rfl, ?_⟩
    have q := RP.here S p _ (.bl _)
    rw [rep_non ra] at q
    exact q
  · cases ra; cases rb
    exact .inr ⟨_, _, rfl, rfl, RP.here S p _ (.bl _)⟩
  · exact p.elim
theorem op2_isN : Op2 tb K fIsN rNotU := fun E ρ F M H Q a b x y S ra rb p => by
  unfold fIsN at p
  split at p
  · cases rb
    refine .inl ⟨rfl, ?_⟩
    have q := RP.here S p _ (.bl _)
    rw [rep_non ra] at q
    exact q
  · cases ra; cases rb
    exact .inr ⟨_, _, rfl, rfl, RP.here S p _ (.bl _)⟩
  · exact p.elim
end
end Mi
namespace Mi
open PySem PySem.Spec PyProof.Rows L2

/-! ### == and in over plain data -/
def b2 : Bool → Int
  | true => 1
  | false => 0
mutual
def teq : T → T → Bool
  | .non, .non => true
  | .bl a, .bl b => decide (a = b)
  | .bl a, .int j => decide (b2 a = j)
  | .int i, .bl b => decide (i = b2 b)
  | .int i, .int j => decide (i = j)
  | .str s, .str t => decide (s = t)
  | .lst a, .lst b => teqL a b
  | .tup a, .tup b => teqL a b
  | _, _ => false
def teqL : List T → List T → Bool
  | [], [] => true
  | x :: xs, y :: ys => teq x y && teqL xs ys
  | _, _ => false
end
/-- plain, no deeper than that -/
def dp : Nat → T → Bool
  | _, .non => true
  | _, .bl _ => true
  | _, .int _ => true
  | _, .str _ => true
  | n + 1, .lst ts => ts.all (dp n)
  | n + 1, .tup ts => ts.all (dp n)
  | _, _ => false
def deR : T → Hs → T
  | .fix ts, _ => .lst ts
  | .ref r, M => match M[r]? with
    | some (.lst ts) => .lst ts
    | _ => .ref r
  | t, _ => t
mutual
def toPy : T → PyData
  | .non => .none
  | .bl b => .bool b
  | .int i => .int i
  | .str s => .str ⟨s.toArray⟩
  | .lst ts => .list (toPyL ts)
  | .tup ts => .tuple (toPyL ts)
  | _ => .none
def toPyL : List T → List PyData
  | [] => []
  | t :: ts => toPy t :: toPyL ts
end
section
variable {tb : Tb} {K : PySem.W.Frag} {F : Hp} {ρ : List Addr} {M : Hs} {H : Hp}
theorem dp_scal : ∀ n t, dp n t = true → (∃ ts, t = .lst ts ∨ t = .tup ts) ∨ (t = .non ∨ (∃ b, t = .bl b) ∨ (∃ i, t = .int i) ∨ ∃ s, t = .str s) := fun n t h => by
  cases t <;> cases n <;> simp_all [dp]
theorem dp_lst {n : Nat} {ts : List T} (h : dp n (.lst ts) = true) : ∃ k, n = k + 1 ∧ ts.all (dp k) = true := by
  cases n with
  | zero => simp [dp] at h
  | succ k => exact ⟨k, rfl, by simpa [dp] using h⟩
theorem dp_tup {n : Nat} {ts : List T} (h : dp n (.tup ts) = true) : ∃ k, n = k + 1 ∧ ts.all (dp k) = true := by
  cases n with
  | zero => simp [dp] at h
  | succ k => exact ⟨k, rfl, by simpa [dp] using h⟩
mutual
theorem dp_Dp (sub : ∀ a o, F a = some o → Hd H a o) : ∀ (t : T) (n : Nat) (v : V), dp n t = true → Rep K F ρ t v → Dp K H v (toPy t) ∧ (toPy t).plain = true ∧ (toPy t).depth ≤ n
  | .un, n, v, h, r => by cases r
  | .non, n, v, h, r => by cases r; exact ⟨by rw [toPy]; exact .non, by simp [toPy, PyData.plain], by simp [toPy, PyData.depth]⟩
  | .bl b, n, v, h, r => by cases r; exact ⟨by rw [toPy]; exact .bl b, by simp [toPy, PyData.plain], by simp [toPy, PyData.depth]⟩
  | .int i, n, v, h, r => by cases r; exact ⟨by rw [toPy]; exact .int i, by simp [toPy, PyData.plain], by simp [toPy, PyData.depth]⟩
  | .str s, n, v, h, r => by cases r; exact ⟨by rw [toPy]; exact .str _, by simp [toPy, PyData.plain], by simp [toPy, PyData.depth]⟩
  | .lst ts, n, v, h, r => by
    obtain ⟨k, rfl, h⟩ := dp_lst h
    cases r with
    | lst _ vs a hF rl =>
      obtain ⟨h1, h2, h3⟩ := dp_DpL sub ts k vs h rl
      exact ⟨by rw [toPy]; exact .lst (.inl (.inl (hd_lst sub hF))) h1, by simp [toPy, PyData.plain, h2], by simp [toPy, PyData.depth]; omega⟩
  | .tup ts, n, v, h, r => by
    obtain ⟨k, rfl, h⟩ := dp_tup h
    cases r with
    | tup _ vs a hF rl =>
      obtain ⟨h1, h2, h3⟩ := dp_DpL sub ts k vs h rl
      exact ⟨by rw [toPy]; exact .tup (hd_sqT sub hF) h1, by simp [toPy, PyData.plain, h2], by simp [toPy, PyData.depth]; omega⟩
  | .fix ts, n, v, h, r => by cases n <;> simp [dp] at h
  | .dct kvs, n, v, h, r => by cases n <;> simp [dp] at h
  | .ref i, n, v, h, r => by cases n <;> simp [dp] at h
theorem dp_DpL (sub : ∀ a o, F a = some o → Hd H a o) : ∀ (ts : List T) (n : Nat) (vs : List V), ts.all (dp n) = true → RepL K F ρ ts vs → DpAll K H vs (toPyL ts) ∧ PyData.plainAll (toPyL ts) = true ∧ PyData.depthAll (toPyL ts) ≤ n
  | [], n, vs, h, r => by cases r; exact ⟨by rw [toPyL]; exact .nil, by simp [toPyL, PyData.plainAll], by simp [toPyL, PyData.depthAll]⟩
  | t :: ts, n, vs, h, r => by
    rw [List.all_cons, Bool.and_eq_true] at h
    cases r with
    | cons _ _ v vs r1 r2 =>
      obtain ⟨h1, h2, h3⟩ := dp_Dp sub t n v h.1 r1
      obtain ⟨g1, g2, g3⟩ := dp_DpL sub ts n vs h.2 r2
      exact ⟨by rw [toPyL]; exact .cons h1 g1, by simp [toPyL, PyData.plainAll, h2, g2], by simp [toPyL, PyData.depthAll]; omega⟩
end
theorem dec_beq {α : Type} [BEq α] [LawfulBEq α] [DecidableEq α] (a b : α) : decide (a = b) = (a == b) := by
  by_cases h : a = b
  · subst h; simp
  · rw [decide_eq_false h]; exact (beq_eq_false_iff_ne.mpr h).symm
mutual
theorem teq_py : ∀ (a b : T) (n m : Nat), dp n a = true → dp m b = true → teq a b = PyData.eqv (toPy a) (toPy b) := fun a b n m ha hb => by
  cases a with
  | un => cases n <;> simp [dp] at ha
  | fix => cases n <;> simp [dp] at ha
  | dct => cases n <;> simp [dp] at ha
  | ref => cases n <;> simp [dp] at ha
  | lst as =>
    obtain ⟨k, rfl, ha⟩ := dp_lst ha
    cases b with
    | lst bs =>
      obtain ⟨l, rfl, hb⟩ := dp_lst hb
      simp only [teq, toPy, PyData.eqv]
      exact teq_pyL as bs k l ha hb
    | _ => first | rfl | (cases m <;> simp [dp] at hb)
  | tup as =>
    obtain ⟨k, rfl, ha⟩ := dp_tup ha
    cases b with
    | tup bs =>
      obtain ⟨l, rfl, hb⟩ := dp_tup hb
      simp only [teq, toPy, PyData.eqv]
      exact teq_pyL as bs k l ha hb
    | _ => first | rfl | (cases m <;> simp [dp] at hb)
  | non => cases b <;> first | rfl | (cases m <;> simp [dp] at hb)
  | bl x =>
    cases b with
    | bl y => simp only [teq, toPy, PyData.eqv]; exact dec_beq x y
    | int y => simp only [teq, toPy, PyData.eqv]; cases x <;> exact dec_beq _ _
    | _ => first | rfl | (cases m <;> simp [dp] at hb)
  | int x =>
    cases b with
    | bl y => simp only [teq, toPy, PyData.eqv]; cases y <;> exact dec_beq _ _
    | int y => simp only [teq, toPy, PyData.eqv]; exact dec_beq x y
    | _ => first | rfl | (cases m <;> simp [dp] at hb)
  | str x =>
    cases b with
    | str y =>
      simp only [teq, toPy, PyData.eqv]
      rw [← dec_beq]
      simp
    | _ => first | rfl | (cases m <;> simp [dp] at hb)
theorem teq_pyL : ∀ (as bs : List T) (n m : Nat), as.all (dp n) = true → bs.all (dp m) = true → teqL as bs = PyData.eqvAll (toPyL as) (toPyL bs)
  | [], [], _, _, _, _ => by simp [teqL, toPyL, PyData.eqvAll]
  | [], _ :: _, _, _, _, _ => by simp [teqL, toPyL, PyData.eqvAll]
  | _ :: _, [], _, _, _, _ => by simp [teqL, toPyL, PyData.eqvAll]
  | a :: as, b :: bs, n, m, ha, hb => by
    rw [List.all_cons, Bool.and_eq_true] at ha hb
    simp only [teqL, toPyL, PyData.eqvAll]
    rw [teq_py a b n m ha.1 hb.1, teq_pyL as bs n m ha.2 hb.2]
end

theorem deR_at {t : T} {n : Nat} {v : V} (S : Sim tb K ρ F M H) (r : Rep K F ρ t v) (h : dp n (deR t M) = true) : Dp K H v (toPy (deR t M)) ∧ (toPy (deR t M)).plain = true ∧ (toPy (deR t M)).depth ≤ n := by
  have stay : deR t M = t → Dp K H v (toPy (deR t M)) ∧ (toPy (deR t M)).plain = true ∧ (toPy (deR t M)).depth ≤ n := fun e => by rw [e] at h ⊢; exact dp_Dp S.sub t n v h r
  cases t with
  | fix ts =>
    have e : deR (.fix ts) M = .lst ts := rfl
    rw [e] at h ⊢
    obtain ⟨k, rfl, h⟩ := dp_lst h
    cases r with
    | fix _ vs a hF rl =>
      obtain ⟨h1, h2, h3⟩ := dp_DpL S.sub ts k vs h rl
      exact ⟨by rw [toPy]; exact .lst (hd_sqL S.sub hF) h1, by simp [toPy, PyData.plain, h2], by simp [toPy, PyData.depth]; omega⟩
  | ref i =>
    cases hm : M[i]? with
    | none => exact stay (by simp [deR, hm])
    | some ob =>
      cases ob with
      | ins c fs => exact stay (by simp [deR, hm])
      | dct c => exact stay (by simp [deR, hm])
      | lkd c => exact stay (by simp [deR, hm])
      | lst ts =>
        have e : deR (.ref i) M = .lst ts := by simp [deR, hm]
        rw [e] at h ⊢
        obtain ⟨k, rfl, h⟩ := dp_lst h
        cases r with
        | ref _ a hρ =>
          obtain ⟨vs, hH, rl⟩ := S.ob i _ a hm hρ
          obtain ⟨h1, h2, h3⟩ := dp_DpL S.sub ts k vs h rl
          exact ⟨by rw [toPy]; exact .lst (.inl (.inl hH)) h1, by simp [toPy, PyData.plain, h2], by simp [toPy, PyData.depth]; omega⟩
  | _ => exact stay rfl
end

def fEqP (neg : Bool) : T → T → Hs → Res T := fun x y M => if dp 60 (deR x M) && dp 60 (deR y M) then .ok (.bl (xor neg (teq (deR x M) (deR y M)))) M else .bad
section
variable {X : Cx} {tb : Tb} {K : PySem.W.Frag}
def rEqP (K : PySem.W.Frag) (neg : Bool) : R2 := fun x y H Q => ∃ d e, Dp K H x d ∧ Dp K H y e ∧ d.plain = true ∧ e.plain = true ∧ d.depth ≤ 60 ∧ Q (.bl (xor neg (PyData.eqv d e))) H
theorem opr_eqP (hu : X.A.units + 64 < cLine) : OpR X (compareOp .Eq) (rEqP X.K false) := fun pins s σ H x y v u Q I rx ry h => by
  obtain ⟨d, e, hd, he, sd, se, hz, q⟩ := h
  obtain ⟨as, r1⟩ := Dp.reads I d x v hd rx
  obtain ⟨bs, r2⟩ := Dp.reads I e y u he ry
  exact SeqAt.eq_plain r1 r2 sd se (by have := Nat.min_le_left d.depth e.depth; omega) ⟨.bl _, H, I, rfl, by simpa using q⟩
theorem opr_neP (hu : X.A.units + 64 < cLine) : OpR X (compareOp .NotEq) (rEqP X.K true) := fun pins s σ H x y v u Q I rx ry h => by
  obtain ⟨d, e, hd, he, sd, se, hz, q⟩ := h
  obtain ⟨as, r1⟩ := Dp.reads I d x v hd rx
  obtain ⟨bs, r2⟩ := Dp.reads I e y u he ry
  exact SeqAt.ne_plain r1 r2 sd se (by have := Nat.min_le_left d.depth e.depth; omega) ⟨.bl _, H, I, rfl, by simpa using q⟩
theorem op2_eqP {neg : Bool} : Op2 tb K (fEqP neg) (rEqP K neg) := fun E ρ F M H Q a b x y S ra rb p => by
  unfold fEqP at p
  split at p
  case isFalse => exact p.elim
  rename_i h
  rw [Bool.and_eq_true] at h
  obtain ⟨h1, h2, h3⟩ := deR_at S ra h.1
  obtain ⟨g1, g2, g3⟩ := deR_at S rb h.2
  refine ⟨_, _, h1, g1, h2, g2, h3, ?_⟩
  rw [← teq_py _ _ 60 60 h.1 h.2]
  exact RP.here S p _ (.bl _)

/-! ### in -/
def occurs (s t : List Nat) : Bool := !(Builtin.Str.occurrences ⟨t.toArray⟩ ⟨s.toArray⟩ 0 t.length 1).isEmpty
def fInG (neg : Bool) : T → T → Hs → Res T := fun x y M => match y with
  | .str t => match x with
    | .str s => .ok (.bl (xor neg (occurs s t))) M
    | _ => .bad
  | _ => match dcOf y M with
    | some kvs => if isKey x then .ok (.bl (xor neg (dHas kvs x))) M else .bad
    | none => match deR y M with
      | .lst ts => if ts.all (dp 60) && dp 60 x then .ok (.bl (xor neg (ts.any fun t => teq t x))) M else .bad
      | .tup ts => if ts.all (dp 60) && dp 60 x then .ok (.bl (xor neg (ts.any fun t => teq t x))) M else .bad
      | _ => .bad
def rInG (K : PySem.W.Frag) (neg : Bool) : R2 := fun x y H Q => (∃ i j, x = .str i ∧ y = .str j ∧ Q (.bl (xor neg (!(Builtin.Str.occurrences j i 0 j.length 1).isEmpty))) H) ∨
  (∃ a o, y = .ref a ∧ DGet H a x o ∧ Q (.bl (xor neg o.isSome)) H) ∨
  ∃ d ds, (Dp K H y (.list ds) ∨ Dp K H y (.tuple ds)) ∧ Dp K H x d ∧ PyData.plainAll ds = true ∧ d.plain = true ∧ d.depth ≤ 60 ∧ Q (.bl (xor neg (ds.any fun t => PyData.eqv t d))) H
theorem opr_in (hu : X.A.units + 64 < cLine) : OpR X (compareOp .In) (rInG X.K false) := fun pins s σ H x y v u Q I rx ry h => by
  rcases h with h | ⟨a, o, rfl, g, q⟩ | ⟨d, ds, hy, hx, sd, se, hz, q⟩
  · exact op_in_str pins s σ H x y v u Q I rx ry (by simpa using h)
  · cases ry
    exact d_in (by omega) I g rx fun s' I' => ⟨.bl _, H, I', rfl, by simpa using q⟩
  · obtain ⟨as, r1⟩ := Dp.reads I d x v hx rx
    rcases hy with hy | hy
    · obtain ⟨bs, r2⟩ := Dp.reads I _ y u hy ry
      exact SeqAt.in_list_data r2 r1 sd se (by have := Nat.min_le_right (PyData.depthAll ds) d.depth; omega) ⟨.bl _, H, I, rfl, by simpa using q⟩
    · obtain ⟨bs, r2⟩ := Dp.reads I _ y u hy ry
      exact SeqAt.in_tuple_data r2 r1 sd se (by have := Nat.min_le_right (PyData.depthAll ds) d.depth; omega) ⟨.bl _, H, I, rfl, by simpa using q⟩
theorem opr_notIn (hu : X.A.units + 64 < cLine) : OpR X (compareOp .NotIn) (rInG X.K true) := fun pins s σ H x y v u Q I rx ry h => by
  rcases h with h | ⟨a, o, rfl, g, q⟩ | ⟨d, ds, hy, hx, sd, se, hz, q⟩
  · exact op_notin_str pins s σ H x y v u Q I rx ry (by simpa using h)
  · cases ry
    exact d_notIn (by omega) I g rx fun s' I' => ⟨.bl _, H, I', rfl, by simpa using q⟩
  · obtain ⟨as, r1⟩ := Dp.reads I d x v hx rx
    rcases hy with hy | hy
    · obtain ⟨bs, r2⟩ := Dp.reads I _ y u hy ry
      exact SeqAt.notIn_list_data r2 r1 sd se (by have := Nat.min_le_right (PyData.depthAll ds) d.depth; omega) ⟨.bl _, H, I, rfl, by simpa using q⟩
    · obtain ⟨bs, r2⟩ := Dp.reads I _ y u hy ry
      exact SeqAt.notIn_tuple_data r2 r1 sd se (by have := Nat.min_le_right (PyData.depthAll ds) d.depth; omega) ⟨.bl _, H, I, rfl, by simpa using q⟩
theorem dget_at {F H : Hp} {ρ : List Addr} {M : Hs} {x y : T} {v u : V} {kvs : List (T × T)} (S : Sim tb K ρ F M H) (ry : Rep K F ρ y v) (rx : Rep K F ρ x u) (h : dcOf y M = some kvs) (hk : isKey x = true) :
    ∃ a vs q, v = .ref a ∧ u = kV q ∧ keyT x = some q ∧ RepD K F ρ kvs vs ∧ DGet H a u (valV vs q) := by
  obtain ⟨a, vs, rfl, hH, rd⟩ := dc_at S ry h
  obtain ⟨q, hq⟩ := isKey_iff.mp hk
  have e := key_rep hq rx
  subst e
  exact ⟨a, vs, q, rfl, rfl, hq, rd, .inl ⟨vs, q, hH, rfl, rfl⟩⟩
theorem any_py {x : T} (hx : dp 60 x = true) : ∀ ts : List T, ts.all (dp 60) = true → (ts.any fun t => teq t x) = (toPyL ts).any fun t => PyData.eqv t (toPy x)
  | [], _ => by simp [toPyL]
  | t :: ts, h => by
    rw [List.all_cons, Bool.and_eq_true] at h
    rw [toPyL, List.any_cons, List.any_cons, any_py hx ts h.2, teq_py t x 60 60 h.1 hx]
theorem op2_inG {neg : Bool} : Op2 tb K (fInG neg) (rInG K neg) := fun E ρ F M H Q a b x y S ra rb p => by
  unfold fInG at p
  split at p
  · split at p
    case h_2 => exact p.elim
    cases ra; cases rb
    exact .inl ⟨_, _, rfl, rfl, by rw [str_len]; exact RP.here S p _ (.bl _)⟩
  · split at p
    · rename_i kvs hd
      split at p
      case isFalse => exact p.elim
      rename_i hk
      obtain ⟨aa, vs, q, rfl, rfl, hq, rd, g⟩ := dget_at S rb ra hd hk
      refine .inr (.inl ⟨aa, _, rfl, g, ?_⟩)
      rw [← RepD.hasV hq rd]
      exact RP.here S p _ (.bl _)
    · split at p
      case h_3 => exact p.elim
      all_goals
        rename_i ts hde
        split at p
        case isFalse => exact p.elim
        rename_i h
        rw [Bool.and_eq_true] at h
        have hb : dp 61 (deR b M) = true := by rw [hde]; simp only [dp]; exact h.1
        obtain ⟨g1, g2, g3⟩ := deR_at S rb hb
        obtain ⟨h1, h2, h3⟩ := dp_Dp S.sub a 60 x h.2 ra
        rw [hde, toPy] at g1 g2
        simp only [PyData.plain] at g2
        refine .inr (.inr ⟨_, _, ?_, h1, g2, h2, h3, ?_⟩)
        · first
            | exact .inl g1
            | exact .inr g1
        · rw [← any_py h.2 ts h.1]
          exact RP.here S p _ (.bl _)

/-! ### items: o[i] -/
def fIx : T → T → Hs → Res T := fun x y M => match x, y with
  | .str s, .int i => match atI s i with
    | some c => if s.length ≤ lineN then .ok (.str [c]) M else .bad
    | none => .bad
  | .tup ts, .int i => match atI ts i with
    | some t => okT t M
    | none => .bad
  | x, k => match dcOf x M with
    | some kvs => if isKey k then (match dGet kvs k with
      | some t => okT t M
      | none => .bad) else .bad
    | none => match lsOf x M, k with
      | some ts, .int i => match atI ts i with
        | some t => okT t M
        | none => .bad
      | _, _ => .bad
def rIxU (K : PySem.W.Frag) : R2 := fun x y H Q => rIx K x y H Q ∨ ∃ a v, x = .ref a ∧ DGet H a y (some v) ∧ Q v H
theorem ix_all (hu : X.A.units + 64 < cLine) : IxR X (rIxU X.K) := ix_seq.or fun value slice pins s σ H x y v u Q I rx ry h hs => by
  obtain ⟨a, w, rfl, g, q⟩ := h
  cases rx
  have hT := dict_typeIs I g
  have tail : wpAny (model X.prog X.w) X.A (subscripted slice false (.ref a) u) (fun r s₃ => wpAny (model X.prog X.w) X.A (letTemporaryGo value (.ref a) r >>= fun _ => pure r) (EP X pins σ Q) X.xe s₃) X.xe s := by
    rw [hs]
    exact wpAny_operating (d_getItem (by omega) I g ry fun w' s' I' rw' => wpAny_bind (wpAny_letTemporaryGo (wpAny_pure ⟨w, H, I', rw', q⟩)))
  unfold subscriptTail
  refine wpAny_bind ?_
  rw [getitemInPython_of_ne hT.not_modules]
  refine wpAny_bind (wpAny_specialOf hT PySem.F.slot_dict_getitem.lookup ?_)
  first
    | exact wpAny_pure (wpAny_bind tail)
    | exact wpAny_bind (wpAny_pure (wpAny_bind tail))
    | exact wpAny_bind tail
theorem atI_rep {F : Hp} {ρ : List Addr} {ts : List T} {vs : List V} {i : Int} {t : T} (r : RepL K F ρ ts vs) (h : atI ts i = some t) : ∃ v, atI vs i = some v ∧ Rep K F ρ t v := by
  unfold atI at h ⊢
  rw [r.length] at h
  cases e : ixN vs.length i with
  | none => rw [e] at h; cases h
  | some j =>
    rw [e] at h
    exact r.get h
theorem rep_un {F : Hp} {ρ : List Addr} {t : T} {v : V} (r : Rep K F ρ t v) : t ≠ .un := fun e => by subst e; cases r
theorem op2_ix : Op2 tb K fIx (rIxU K) := fun E ρ F M H Q a b x y S ra rb p => by
  unfold fIx at p
  split at p
  · split at p
    case h_2 => exact p.elim
    split at p
    case isFalse => exact p.elim
    rename_i c hc hl
    cases ra; cases rb
    exact .inl (.inr (.inr ⟨_, _, c, rfl, rfl, by rw [str_len, ← lineN_eq]; exact hl, by simpa using hc, RP.here S p _ (.str _)⟩))
  · split at p
    case h_2 => exact p.elim
    rename_i t ht
    cases rb
    cases ra with
    | tup _ vs aa hF rl =>
      obtain ⟨v, hv, rv⟩ := atI_rep rl ht
      rw [okT_of (rep_un rv)] at p
      exact .inl (.inr (.inl ⟨aa, vs, _, v, rfl, rfl, hd_sqT S.sub hF, hv, RP.here S p v rv⟩))
  · split at p
    · rename_i kvs hd
      split at p
      case isFalse => exact p.elim
      rename_i hk
      obtain ⟨aa, vs, q, rfl, rfl, hq, rd, g⟩ := dget_at S ra rb hd hk
      split at p
      case h_2 => exact p.elim
      rename_i t ht
      rcases RepD.get hq rd with ⟨e, _⟩ | ⟨t', v, e1, e2, rv⟩
      · rw [ht] at e; cases e
      · rw [ht] at e1; cases e1
        rw [okT_of (rep_un rv)] at p
        rw [e2] at g
        exact .inr ⟨aa, v, rfl, g, RP.here S p v rv⟩
    · split at p
      case h_2 => exact p.elim
      rename_i ts i hls _ _
      split at p
      case h_2 => exact p.elim
      rename_i t ht
      obtain ⟨aa, vs, rfl, hH, rl⟩ := ls_at S ra hls
      cases rb
      obtain ⟨v, hv, rv⟩ := atI_rep rl ht
      rw [okT_of (rep_un rv)] at p
      exact .inl (.inl ⟨aa, vs, _, v, rfl, rfl, hH, hv, RP.here S p v rv⟩)
theorem mE_ix {W : WX} {a b : Expr} {pos : Pos} {ma mb : EM} (hu : X.A.units + 64 < cLine) (ha : PE X a (tM tb X.K W ma)) (hb : PE X b (tM tb X.K W mb)) (hs : PlainIx b := by intro _ _; rfl) : PE X (.Subscript a b pos) (tM tb X.K W (mOp2 fIx ma mb)) :=
  pe_imp (pe_ix (ix_all hu) ha hb hs) fun _ _ _ h => two op2_ix h
end
end Mi
namespace Mi
open PySem PySem.Spec PyProof.Rows L2

/-! ### fields are stored -/
theorem keys_put (f : Str) (v : V) : ∀ l : List (Str × V), (putF f v l).map (·.1) = if f ∈ l.map (·.1) then l.map (·.1) else l.map (·.1) ++ [f]
  | [] => by simp [putF]
  | (g, x) :: r => by
    unfold putF
    by_cases e : g = f
    · rw [if_pos e]
      simp [e]
    · rw [if_neg e, List.map_cons, List.map_cons, keys_put f v r]
      by_cases m : f ∈ r.map (·.1)
      · rw [if_pos m, if_pos (List.mem_cons_of_mem _ m)]
      · rw [if_neg m, if_neg (fun z => (List.mem_cons.mp z).elim (fun q => e q.symm) m)]
        rfl
theorem nodup_sub_len {α : Type} [DecidableEq α] : ∀ (l m : List α), l.Nodup → (∀ x ∈ l, x ∈ m) → l.length ≤ m.length
  | [], m, _, _ => Nat.zero_le _
  | a :: l, m, hn, hs => by
    rw [List.nodup_cons] at hn
    have ha : a ∈ m := hs a List.mem_cons_self
    have := nodup_sub_len l (m.erase a) hn.2 fun x hx => (List.mem_erase_of_ne (fun e : x = a => hn.1 (by rw [← e]; exact hx))).mpr (hs x (List.mem_cons_of_mem _ hx))
    rw [List.length_erase_of_mem ha] at this
    have hp := List.length_pos_of_mem ha
    rw [List.length_cons]
    omega
section
variable {K : PySem.W.Frag} {F : Hp} {ρ : List Addr}
theorem FsRep.put {ns : List Str} {fs : List T} {fsV : List (Str × V)} {j : Nat} {f : Str} {t : T} {v : V} (fr : FsRep K F ρ ns fs fsV) (hnd : ns.Nodup) (hj : ns[j]? = some f) (r : Rep K F ρ t v) : FsRep K F ρ ns (fs.set j t) (putF f v fsV) := by
  refine ⟨by rw [List.length_set]; exact fr.len, fun i n u h1 h2 => ?_, fun n hn => ?_, ?_, fun n hn => ?_⟩
  · rw [lookup_putF]
    by_cases e : j = i
    · subst e
      rw [hj] at h1; cases h1
      rw [if_pos rfl]
      have hl : j < fs.length := by
        have := (List.getElem?_eq_some_iff.mp h2).1
        simpa using this
      rw [List.getElem?_set_self hl] at h2
      cases h2
      exact .inr ⟨v, r, rfl⟩
    · rw [List.getElem?_set_ne e] at h2
      have : n ≠ f := fun z => by
        subst z
        obtain ⟨q1, e1⟩ := List.getElem?_eq_some_iff.mp hj
        obtain ⟨q2, e2⟩ := List.getElem?_eq_some_iff.mp h1
        exact e ((List.getElem_inj hnd).mp (e1.trans e2.symm))
      rw [if_neg this]
      exact fr.at_ i n u h1 h2
  · rw [lookup_putF, if_neg (fun z => hn (by rw [z]; exact List.mem_of_getElem? hj))]
    exact fr.out n hn
  · rw [keys_put]
    split
    · exact fr.keys.1
    · rename_i hf
      rw [List.nodup_append]
      exact ⟨fr.keys.1, by simp, fun a ha b hb e => by
        rw [List.mem_singleton] at hb
        subst hb; subst e
        exact hf ha⟩
  · rw [keys_put] at hn
    split at hn
    · exact fr.keys.2 n hn
    · rcases List.mem_append.mp hn with z | z
      · exact fr.keys.2 n z
      · rw [List.mem_singleton] at z
        subst z
        exact List.mem_of_getElem? hj
theorem FsRep.few {ns : List Str} {fs : List T} {fsV : List (Str × V)} (fr : FsRep K F ρ ns fs fsV) (h : ns.length ≤ 100) : fsV.length < 1000 := by
  have := nodup_sub_len _ _ fr.keys.1 fr.keys.2
  rw [List.length_map] at this
  omega
end
def putFld (tab : List (Nat × Nat)) (o t : T) (M : Hs) : Option Hs := match o with
  | .ref i => match M[i]? with
    | some (.ins c fs) => match tab.lookup c with
      | some j => some (M.set i (.ins c (fs.set j t)))
      | none => none
    | _ => none
  | _ => none
/-- the field as it stands: its class, its place, its value -/
def rdFld (tab : List (Nat × Nat)) (o : T) (M : Hs) : Option (Nat × Nat × T) := match o with
  | .ref i => match M[i]? with
    | some (.ins c fs) => match tab.lookup c with
      | some j => match fs.getD j .un with
        | .un => none
        | t => some (c, j, t)
      | none => none
    | _ => none
  | _ => none
def Res.putTo {α : Type} (k : α → SRes) : Option α → SRes
  | some a => k a
  | none => .bad
def mSetFld (tab : List (Nat × Nat)) (mo mv : EM) : SM := fun τ M => (mv τ M).st fun t M1 => (mo τ M1).st fun o M2 => Res.putTo (fun M3 => .nx τ M3) (putFld tab o t M2)
def mAugFld (tab : List (Nat × Nat)) (f : T → T → Hs → Res T) (mo mv : EM) : SM := fun τ M => (mo τ M).st fun o M1 => match rdFld tab o M1 with
  | some (c, j, x) => (mv τ M1).st fun y M2 => (f x y M2).st fun z M3 => Res.putTo (fun M4 => .nx τ M4) (putFld [(c, j)] o z M3)
  | none => .bad
def mAugVar (i : Nat) (f : T → T → Hs → Res T) (mv : EM) : SM := fun τ M => (mVar i τ M).st fun x _ => (mv τ M).st fun y M1 => (f x y M1).st fun z M2 => .nx (τ.set i z) M2

section
variable {X : Cx} {tb : Tb} {W : WX} {σ : L2.St} {H : Hp} {K : PySem.W.Frag} {ρ : List Addr} {F : Hp} {M : Hs}
theorem put_at {tab : List (Nat × Nat)} {f : Str} {o t : T} {v w : V} {M' : Hs} (ht : FTab K tb f tab) (S : Sim tb K ρ F M H) (ro : Rep K F ρ o v) (rt : Rep K F ρ t w) (h : putFld tab o t M = some M') :
    ∃ a C dx fsV, v = .ref a ∧ H a = some (.ins C dx fsV) ∧ Cls K C ∧ NoAttr K C f ∧ fsV.length < 1000 ∧ Sim tb K ρ F M' (upd H a (.ins C dx (putF f w fsV))) ∧ Ext ρ F H ρ F (upd H a (.ins C dx (putF f w fsV))) := by
  unfold putFld at h
  split at h
  case h_2 => cases h
  rename_i i
  split at h
  case h_2 => cases h
  rename_i c fs hm
  split at h
  case h_2 => cases h
  rename_i j hl
  cases h
  obtain ⟨h1, cf, h3⟩ := ht c j (mem_of_lk hl)
  obtain ⟨a, dx, fsV, rfl, hρ, ha, fr⟩ := ins_at S ro hm
  exact ⟨a, _, dx, fsV, rfl, ha, cf.cls, h3, fr.few cf.few, S.put hρ ⟨dx, _, upd_same, fr.put cf.nd h1 rt⟩, Ext.put (List.mem_of_getElem? hρ)⟩
theorem mS_fld {o e : Expr} {f : Str} {pos pos' : Pos} {tab : List (Nat × Nat)} {mo mv : EM} (ht : FTab X.K tb f tab) (ho : PE X o (tM tb X.K W mo)) (hv : PE X e (tM tb X.K W mv))
    (hs : swapsWith e (some (.Attribute o f pos')) pos.line X.env = pure false := by rfl) : PS X (.Assign [.Attribute o f pos'] e pos) (tSM tb X.K W (mSetFld tab mo mv)) := by
  refine ps_imp (ps_fld ho hv hs) fun D σ H h => ?_
  obtain ⟨ρ, F, M, τ, S, L, p⟩ := h
  refine ⟨ρ, F, M, τ, S, L, (SP1.st p).imp fun t ρ1 F1 H1 e1 q w rw' => ?_⟩
  obtain ⟨M1, _, S1, p1⟩ := q
  refine ⟨ρ1, F1, M1, τ, S1, L.mono e1, (SP1.st p1).imp fun o ρ2 F2 H2 e2 q v rv => ?_⟩
  obtain ⟨M2, _, S2, p2⟩ := q
  cases hp : putFld tab o t M2 with
  | none => rw [hp] at p2; exact p2.elim
  | some M3 =>
    rw [hp] at p2
    obtain ⟨a, C, dx, fsV, rfl, hH, hC, hN, hl, S3, e3⟩ := put_at ht S2 rv (rw'.mono e2) hp
    exact ⟨a, C, dx, fsV, rfl, hH, hC, hN, hl, p2 ρ2 F2 _ σ e3 S3 ((L.mono (e1.trans e2)).mono e3)⟩
theorem mS_augfld {o e : Expr} {f : Str} {pos pos' : Pos} {op : Operator} {tab : List (Nat × Nat)} {mo mv : EM} {g : T → T → Hs → Res T} {r : R2} (ht : FTab X.K tb f tab) (hop : OpR X (inplaceOp op) r) (hf : Op2 tb X.K g r) (ho : PE X o (tM tb X.K W mo)) (hv : PE X e (tM tb X.K W mv)) :
    PS X (.AugAssign (.Attribute o f pos') op e pos) (tSM tb X.K W (mAugFld tab g mo mv)) := by
  refine ps_imp (ps_fldaug (rd := r) ho hv fun pins s σ H x y u v Q I rx ry h => hop pins s σ H x y u v Q I rx ry h) fun D σ H h => ?_
  obtain ⟨ρ, F, M, τ, S, L, p⟩ := h
  refine ⟨ρ, F, M, τ, S, L, (SP1.st p).imp fun o ρ1 F1 H1 e1 q v rv => ?_⟩
  obtain ⟨M1, -, S1, p1⟩ := q
  have L1 := L.mono e1
  cases hrd : rdFld tab o M1 with
  | none => rw [hrd] at p1; exact p1.elim
  | some cjx =>
    obtain ⟨c, j, x⟩ := cjx
    rw [hrd] at p1
    dsimp only at p1
    unfold rdFld at hrd
    split at hrd
    case h_2 => cases hrd
    rename_i i
    split at hrd
    case h_2 => cases hrd
    rename_i c' fs hm
    split at hrd
    case h_2 => cases hrd
    rename_i j' hl
    obtain ⟨h1, cf, h3⟩ := ht c' j' (mem_of_lk hl)
    obtain ⟨a, dx, fsV, rfl, hρ, ha, fr⟩ := ins_at S1 rv hm
    have hj : j' < fs.length := by rw [fr.len]; exact (List.getElem?_eq_some_iff.mp h1).1
    rw [List.getD_eq_getElem?_getD, List.getElem?_eq_getElem hj, show Option.getD (some fs[j']) T.un = fs[j'] from rfl] at hrd
    rcases fr.at_ j' f fs[j'] h1 (List.getElem?_eq_getElem hj) with ⟨z, _⟩ | ⟨w, rw', lk⟩
    · rw [z] at hrd; cases hrd
    · have hx : (c', j', fs[j']) = (c, j, x) := by
        split at hrd
        · cases hrd
        · exact Option.some.inj hrd
      cases hx
      refine ⟨a, _, dx, fsV, w, rfl, ha, cf.cls, h3, lk, ρ1, F1, M1, τ, S1, L1, (SP1.st (σ := σ) p1).imp fun y ρ2 F2 H2 e2 q yv ry => ?_⟩
      obtain ⟨M2, _, S2, p2⟩ := q
      refine hf _ ρ2 F2 M2 H2 _ _ _ w yv S2 (rw'.mono e2) ry ((SP1.st (σ := σ) p2).imp fun z ρ3 F3 H3 e3 q zv rz => ?_)
      obtain ⟨M3, _, S3, p4⟩ := q
      cases hp : putFld [(c, j)] (.ref i) z M3 with
      | none => rw [hp] at p4; exact p4.elim
      | some M4 =>
        rw [hp] at p4
        have hp' := hp
        unfold putFld at hp'
        dsimp only at hp'
        split at hp'
        case h_2 => cases hp'
        rename_i c2 fs2 hm2
        have rv3 := rv.mono (e2.trans e3)
        obtain ⟨a', C', dx', fsV', ea, hH, hC, hN, hl', S4, e4⟩ := put_at (.one h1 cf h3) S3 rv3 rz hp
        cases ea
        obtain ⟨a2, dx2, fsV2, ea2, _, hH2, _⟩ := ins_at S3 rv3 hm2
        cases ea2
        have hc2 : c2 = c := by
          by_cases q : c2 = c
          · exact q
          · have : List.lookup c2 [(c, j)] = none := by
              rw [List.lookup_cons, beq_eq_false_iff_ne.mpr q]
              rfl
            rw [this] at hp'
            cases hp'
        subst hc2
        have hce : (HO.ins C' dx' fsV') = .ins (tb.c c2) dx2 fsV2 := Option.some.inj (hH.symm.trans hH2)
        cases hce
        exact ⟨dx', fsV', hH, hl', p4 ρ3 F3 _ σ e4 S4 ((L1.mono (e2.trans e3)).mono e4)⟩
theorem mS_augvar (i : Nat) {x : Str} {e : Expr} {pos pos' : Pos} {op : Operator} {mv : EM} {g : T → T → Hs → Res T} {r : R2} (hop : OpR X (inplaceOp op) r) (hf : Op2 tb X.K g r) (hv : PE X e (tM tb X.K W mv)) (hN : X.N.Nodup) (hi : X.N[i]? = some x := by rfl)
    (hx : L2.Loc X.env.scope x := by first | exact Or.inl rfl | exact Or.inr rfl) (hfn : X.fn x = true ∨ X.env.scope.names.lookup x = some .local := by first | exact .inl rfl | exact .inr rfl) :
    PS X (.AugAssign (.Name x pos') op e pos) (tSM tb X.K W (mAugVar i g mv)) := by
  refine ps_imp (ps_aug (ti := r) hN hi hx hv (fun pins s σ H x y u v Q I rx ry h => hop pins s σ H x y u v Q I rx ry h) hfn) fun D σ H h => ?_
  obtain ⟨ρ, F, M, τ, S, L, p⟩ := h
  unfold mAugVar mVar at p
  cases e : τ[i]? with
  | none =>
    rw [List.getD_eq_getElem?_getD, e] at p
    exact p.elim
  | some t =>
    rw [List.getD_eq_getElem?_getD, e, show Option.getD (some t) T.un = t from rfl] at p
    rcases L.at_ i t e with rfl | ⟨v, h1, h2⟩
    · exact p.elim
    · rw [okT_of (rep_un h2)] at p
      replace p : SP1 tb X.K W ρ F H D ((mv τ M).st fun y M1 => (g t y M1).st fun z M2 => .nx (τ.set i z) M2) := p
      refine ⟨v, h1, ρ, F, M, τ, S, L, (SP1.st (σ := σ) p).imp fun y ρ2 F2 H2 e2 q yv ry => ?_⟩
      obtain ⟨M2, _, S2, p2⟩ := q
      refine hf _ ρ2 F2 M2 H2 _ _ _ v yv S2 (h2.mono e2) ry ((SP1.st (σ := σ) p2).imp fun z ρ3 F3 H3 e3 q zv rz => ?_)
      obtain ⟨M3, _, S3, p4⟩ := q
      exact p4 ρ3 F3 H3 _ .refl S3 ((L.mono (e2.trans e3)).set rz i)
def fIAdd : T → T → Hs → Res T
  | .int i, .int j, M => .ok (.int (i + j)) M
  | .str s, .str t, M => if s.length + t.length ≤ lineN then .ok (.str (s ++ t)) M else .bad
  | _, _, _ => .bad
abbrev rIAdd : R2 := fun x y H Q => rI0 (fun i j => .int (i + j)) x y H Q ∨ (∃ i j, x = .str i ∧ y = .str j ∧ i.length + j.length ≤ sizeLine ∧ Q (.str (i ++ j)) H)
theorem opr_iadd : OpR X (inplaceOp .Add) rIAdd := iop_add.or iop_add_str
theorem op2_iadd : Op2 tb K fIAdd rIAdd := fun E ρ F M H Q a b x y S ra rb p => by
  unfold fIAdd at p
  split at p
  · cases ra; cases rb
    exact .inl ⟨_, _, rfl, rfl, RP.here S p _ (.int _)⟩
  · split at p
    case isFalse => exact p.elim
    rename_i s t hl
    cases ra; cases rb
    refine .inr ⟨_, _, rfl, rfl, by rw [str_len, str_len, ← lineN_eq]; exact hl, ?_⟩
    rw [str_app]
    exact RP.here S p _ (.str _)
  · exact p.elim

/-! ### o[i] = v -/
def fPut (o i v : T) (M : Hs) : Option Hs := match o with
  | .ref r => match M[r]? with
    | some (.lst ts) => match i with
      | .int k => match ixN ts.length k with
        | some j => some (M.set r (.lst (ts.set j v)))
        | none => none
      | _ => none
    | some (.dct kvs) => if isKey i && decide (kvs.length < lineN) then some (M.set r (.dct (dPut kvs i v))) else none
    | _ => none
  | _ => none
def mSetSub (mo mi mv : EM) : SM := fun τ M => (mv τ M).st fun t M1 => (mo τ M1).st fun o M2 => (mi τ M2).st fun i M3 => Res.putTo (fun M4 => .nx τ M4) (fPut o i t M3)
def rPutU : TSet := fun o i v H Q => rSetL o i v H Q ∨ rSetD o i v H Q
theorem set_all (hu : X.A.units + 64 < cLine) : PSet X rPutU := fun pins s σ H o i v ov iv u Q I ro ri rv h => by
  rcases h with h | h
  · exact set_list pins s σ H o i v ov iv u Q I ro ri rv h
  · exact set_dict (by omega) pins s σ H o i v ov iv u Q I ro ri rv h
theorem fput_at {o i t : T} {vo vi vt : V} {M' : Hs} {Q : Hp → Prop} (S : Sim tb K ρ F M H) (ro : Rep K F ρ o vo) (ri : Rep K F ρ i vi) (rt : Rep K F ρ t vt) (h : fPut o i t M = some M')
    (k : ∀ H', Ext ρ F H ρ F H' → Sim tb K ρ F M' H' → Q H') : rPutU vo vi vt H Q := by
  unfold fPut at h
  split at h
  case h_2 => cases h
  rename_i r
  split at h
  · rename_i ts hm
    split at h
    case h_2 => cases h
    split at h
    case h_2 => cases h
    rename_i k' j hj
    cases h
    cases ro with
    | ref _ a hρ =>
    cases ri
    obtain ⟨vs, hH, rl⟩ := S.ob r _ a hm hρ
    exact .inl ⟨a, vs, _, j, rfl, rfl, hH, by rw [← rl.length]; exact hj, k _ (Ext.put (List.mem_of_getElem? hρ)) (S.put hρ ⟨_, upd_same, rl.set rt j⟩)⟩
  · rename_i kvs hm
    split at h
    case isFalse => cases h
    rename_i hk
    rw [Bool.and_eq_true, decide_eq_true_eq] at hk
    cases h
    cases ro with
    | ref _ a hρ =>
    obtain ⟨q, hq⟩ := isKey_iff.mp hk.1
    have e := key_rep hq ri
    subst e
    obtain ⟨vs, hH, rd⟩ := S.ob r _ a hm hρ
    exact .inr ⟨a, _, rfl, .k hH (by rw [← rd.length, ← lineN_eq]; exact hk.2), k _ (Ext.put (List.mem_of_getElem? hρ)) (S.put hρ ⟨_, upd_same, rd.put hq rt⟩)⟩
  · cases h
theorem mS_sub {o i e : Expr} {pos pos' : Pos} {mo mi mv : EM} (hu : X.A.units + 64 < cLine) (ho : PE X o (tM tb X.K W mo)) (hi : PE X i (tM tb X.K W mi)) (hv : PE X e (tM tb X.K W mv))
    (ha : ∀ v, assign (.Subscript o i pos') X.env v = (do
      let ov ← holding [v] (eval o X.env)
      let iv ← holding [v, ov] (eval i X.env)
      standAt pos'
      holding [v, ov, iv] (setItem ov iv v)
      release [v, ov, iv] []) := by intro _; rfl)
    (hs : swapsWithSole [.Subscript o i pos'] e pos.line X.env = pure false := by rfl) (hw : swappedStores [.Subscript o i pos'] e X.env = pure none := by rfl) (h1 : (assignEach [.Subscript o i pos'] X.env).map (·.2) = [assign (.Subscript o i pos') X.env] := by rfl) :
    PS X (.Assign [.Subscript o i pos'] e pos) (tSM tb X.K W (mSetSub mo mi mv)) := by
  refine ps_imp (ps_asg hv (pg_sub ho hi (set_all hu) ha) hs hw h1) fun D σ H h => ?_
  obtain ⟨ρ, F, M, τ, S, L, p⟩ := h
  refine ⟨ρ, F, M, τ, S, L, (SP1.st p).imp fun t ρ1 F1 H1 e1 q w rt => ?_⟩
  obtain ⟨M1, _, S1, p1⟩ := q
  refine ⟨ρ1, F1, M1, τ, S1, L.mono e1, (SP1.st p1).imp fun o ρ2 F2 H2 e2 q v ro => ?_⟩
  obtain ⟨M2, _, S2, p2⟩ := q
  refine ⟨ρ2, F2, M2, τ, S2, (L.mono e1).mono e2, (SP1.st p2).imp fun i ρ3 F3 H3 e3 q u ri => ?_⟩
  obtain ⟨M3, _, S3, p3⟩ := q
  cases hp : fPut o i t M3 with
  | none => rw [hp] at p3; exact p3.elim
  | some M4 =>
    rw [hp] at p3
    exact fput_at S3 (ro.mono e3) ri (rt.mono (e2.trans e3)) hp fun H4 e4 S4 => p3 ρ3 F3 H4 σ e4 S4 (((L.mono e1).mono (e2.trans e3)).mono e4)

/-! ### slices -/
def cutL {α : Type} (xs : List α) (lo hi : Option Int) : List α := (xs.drop (HT.sIx xs.length 0 lo)).take (HT.sIx xs.length xs.length hi - HT.sIx xs.length 0 lo)
abbrev OM := Mi.Loc → Hs → Res (Option Int)
def mNoP : OM := fun _ M => .ok none M
def mPt (e : EM) : OM := fun τ M => (e τ M).bind fun t M1 => match t with
  | .int i => .ok (some i) M1
  | _ => .bad
def fSl : T → Option Int → Option Int → Hs → Res T
  | .str s, lo, hi, M => if s.length ≤ lineN then .ok (.str (cutL s lo hi)) M else .bad
  | .tup ts, lo, hi, M => .ok (.tup (cutL ts lo hi)) M
  | x, lo, hi, M => match lsOf x M with
    | some ts => .ok (.lst (cutL ts lo hi)) M
    | none => .bad
def mSl (e : EM) (lo hi : OM) : EM := fun τ M => (e τ M).bind fun x M1 => (lo τ M1).bind fun l M2 => (hi τ M2).bind fun h M3 => fSl x l h M3
def tOM (tb : Tb) (K : PySem.W.Frag) (W : WX) (m : OM) : TO := fun σ H Q => ∃ ρ F M τ, Sim tb K ρ F M H ∧ LocR K F ρ τ σ ∧ RP tb K ρ F H (WE1 tb W σ) (fun o _ _ H' => Q o H') (m τ M)
theorem po_imp {e : Option Expr} {t t' : TO} (h : PO X e t) (g : ∀ σ H Q, t' σ H Q → t σ H Q) : PO X e t' := ⟨fun pins s σ H Q I q => h.run pins s σ H Q I (g σ H Q q)⟩
theorem mO_none : PO X none (tOM tb X.K W mNoP) := po_imp po_none fun σ H Q ⟨ρ, F, M, τ, S, L, p⟩ => RP.here S p
theorem mO_some {e : Expr} {m : EM} (h : PE X e (tM tb X.K W m)) : PO X (some e) (tOM tb X.K W (mPt m)) := by
  refine po_imp (po_some h) fun σ H Q h => ?_
  obtain ⟨ρ, F, M, τ, S, L, p⟩ := h
  refine ⟨ρ, F, M, τ, S, L, (RP.bind p).imp fun t ρ1 F1 H1 e1 q v r => ?_⟩
  obtain ⟨M1, _, S1, p1⟩ := q
  cases r with
  | int i => exact ⟨i, rfl, RP.here S1 p1⟩
  | _ => exact p1.elim
theorem cut_rep {ts : List T} {vs : List V} (r : RepL K F ρ ts vs) (lo hi : Option Int) : RepL K F ρ (cutL ts lo hi) (cutV vs lo hi) := by
  unfold cutL cutV
  rw [r.length]
  exact rep_take (rep_drop r _) _
where
  rep_drop {ts : List T} {vs : List V} (r : RepL K F ρ ts vs) : ∀ n : Nat, RepL K F ρ (ts.drop n) (vs.drop n) := fun n => by
    induction n generalizing ts vs with
    | zero => exact r
    | succ n ih =>
      cases r with
      | nil => exact .nil
      | cons t ts v vs h r => exact ih r
  rep_take {ts : List T} {vs : List V} (r : RepL K F ρ ts vs) : ∀ n : Nat, RepL K F ρ (ts.take n) (vs.take n) := fun n => by
    induction n generalizing ts vs with
    | zero => exact .nil
    | succ n ih =>
      cases r with
      | nil => exact .nil
      | cons t ts v vs h r => exact .cons _ _ _ _ h (ih r)
def rSlU (K : PySem.W.Frag) : V → Option Int → Option Int → Hp → VK → Prop := fun x lo hi H Q => rSlL K x lo hi H Q ∨ rSlA K x lo hi H Q ∨ rSlS x lo hi H Q
theorem sl_all : SlR X (rSlU X.K) := sl_list.or (sl_tupA.or sl_str)
theorem cut_whole {α : Type} (xs : List α) (lo hi : Option Int) (h : HT.sIx xs.length 0 lo = 0 ∧ HT.sIx xs.length xs.length hi = xs.length) : cutL xs lo hi = xs := by
  unfold cutL
  rw [h.1, h.2]
  simp
theorem fsl_at {E : Nat → Hp → Prop} {Q : VK} {x : T} {v : V} {lo hi : Option Int} (S : Sim tb K ρ F M H) (r : Rep K F ρ x v) (p : RP tb K ρ F H E (GM K Q) (fSl x lo hi M)) : rSlU K v lo hi H Q := by
  unfold fSl at p
  split at p
  · split at p
    case isFalse => exact p.elim
    rename_i s hl
    cases r
    refine .inr (.inr ⟨_, rfl, by rw [str_len, ← lineN_eq]; exact hl, ?_⟩)
    have e : cutS (⟨s.toArray⟩ : Str) lo hi = ⟨(cutL s lo hi).toArray⟩ := by
      unfold cutS cutL
      rw [str_len]
    rw [e]
    exact RP.here S p _ (.str _)
  · rename_i ts
    cases r with
    | tup _ vs a hF rl =>
    refine .inr (.inl ⟨a, vs, rfl, hd_sqT S.sub hF, fun hw => ?_, fun _ q hq => new_tup S (cut_rep rl lo hi) p q hq⟩)
    rw [← rl.length] at hw
    rw [cut_whole ts lo hi hw] at p
    exact RP.here S p _ (.tup ts vs a hF rl)
  · split at p
    case h_2 => exact p.elim
    rename_i ts hls
    obtain ⟨a, vs, rfl, hH, rl⟩ := ls_at S r hls
    exact .inl ⟨a, vs, rfl, hH, fun q hq => new_lst S (cut_rep rl lo hi) p q hq⟩
theorem mE_sl {e : Expr} {lo hi : Option Expr} {pos p2 : Pos} {m : EM} {ml mh : OM} (he : PE X e (tM tb X.K W m)) (hl : PO X lo (tOM tb X.K W ml)) (hh : PO X hi (tOM tb X.K W mh)) : PE X (.Subscript e (.Slice lo hi none p2) pos) (tM tb X.K W (mSl m ml mh)) := by
  refine pe_imp (pe_slice sl_all he hl hh) fun σ H Q h => ?_
  obtain ⟨ρ, F, M, τ, S, L, p⟩ := h
  refine ⟨ρ, F, M, τ, S, L, (RP.bind p).imp fun x ρ1 F1 H1 e1 q v rx => ?_⟩
  obtain ⟨M1, _, S1, p1⟩ := q
  refine ⟨ρ1, F1, M1, τ, S1, L.mono e1, (RP.bind p1).imp fun l ρ2 F2 H2 e2 q => ?_⟩
  obtain ⟨M2, _, S2, p2⟩ := q
  refine ⟨ρ2, F2, M2, τ, S2, (L.mono e1).mono e2, (RP.bind p2).imp fun h ρ3 F3 H3 e3 q => ?_⟩
  obtain ⟨M3, _, S3, p3⟩ := q
  exact fsl_at S3 (rx.mono (e2.trans e3)) p3
end
end Mi
namespace Mi
open PySem PySem.Spec PyProof.Rows L2

/-! ### dict displays: the new dict is told when its pairs are there -/
abbrev dictO : Obj := { cls := .type "dict", data := .dict #[] }
section
variable {X : Cx}
def tDispP (trs : List (TE × TE)) : TE := fun σ H Q => tPairs trs σ H fun ps H2 => ∃ kvs : List (Key × V), ps = kvs.map (fun kv => (kV kv.1, kv.2)) ∧ kvs.length ≤ 15 ∧ ∀ p, H2 p = none → Q (.ref p) (upd H2 p (.dK (mergeK [] kvs)))
theorem laid_late {pins : List (Addr × Obj)} {σ : L2.St} {H : Hp} {s : Shared} {p : Addr} {ob : HO} {h' : Heap} {t' : Nat} (I : Inv X pins σ H s) (hf : FpOk X pins H p) (hs : Heap.SameBut p s.heap h') (hp : ∃ o, h'.get? p = some o) (new : ObjOk X.prog X.w (upd H p ob) h' p ob) :
    Inv X pins σ (upd H p ob) { s with heap := h', toks := t' } := by
  obtain ⟨f0, f1, f2, f3, f4, f5⟩ := hf
  have sm : ∀ b u, H b = some u → b ≠ p := fun b u e => ne_of_none e f0
  refine I.step (g' := s.gens) (d' := s.drawn) (ch := [p]) (fun b hb => ?_) (fun b o _ _ hc e _ => ?_) (fun b o _ _ hc e _ => ⟨o.slots, ?_⟩) (fun b o hc e n => ?_) (fun b o hc e => ⟨o, ?_⟩) (fun b xs e => ?_) (fun b o u e => ?_) (fun b ps e => ⟨#[], ?_⟩) (fun m hm => ?_) (fun b u e => ?_) I.bare
  · rw [List.mem_singleton] at hb
    subst hb
    exact ⟨f3, f1, f4, f5⟩
  · exact (hs.2 b (fun z => hc (by simp [z]))).trans e
  · exact (hs.2 b (fun z => hc (by simp [z]))).trans e
  · rw [upd_ne (fun z => hc (by simp [z]))]; exact n
  · exact (hs.2 b (fun z => hc (by simp [z]))).trans e
  · rw [upd_ne (sm b _ e)]; exact e
  · rw [upd_ne (sm b _ e)]; exact e
  · rw [upd_ne (sm b _ e), e]; simp
  · obtain ⟨o, es, ep, ho, r⟩ := hm
    exact ⟨o, es, ep, (hs.2 _ (Ne.symm f1)).trans ho, r⟩
  · by_cases hb : b = p
    · subst hb
      rw [upd_same] at e
      cases e
      exact new
    · rw [upd_ne hb] at e
      refine (I.hok b u e).stay (fun c v hc q => (hs.2 c ?_).trans q) (fun c q => by rw [upd_ne (sm c _ q)]; exact q) fun c xs q => by rw [upd_ne (sm c _ q)]; exact q
      rcases hc with z | z
      · rw [z]; exact hb
      · exact sm c _ z
theorem pe_dispP {pos : Pos} {keys : List (Option Expr)} {values : List Expr} {trs : List (TE × TE)} (h : PPs X pos keys values trs) (hall : keys.all (·.isSome) = true) (hl : keys.length = values.length) (h0 : keys ≠ []) (h15 : keys.length ≤ 15) :
    PE X (.Dict keys values pos) (tDispP trs) := by
  refine ⟨fun pins s σ H Q I q => ?_⟩
  have hn : H s.heap.objs.size = none := I.hok.fresh (Nat.le_refl _)
  have hf := I.fpOk (H' := H) (Nat.le_refl _) hn
  have I0 : Inv X pins σ H { s with heap := s.heap.push dictO } := I.kept (t' := s.toks) fun _ _ e => Heap.get?_push_of_some _ e
  have hg : (s.heap.push dictO).get? s.heap.objs.size = some dictO := Heap.get?_push_size _ rfl
  have I1 : Inv X (pins ++ [(s.heap.objs.size, dictO)]) σ H { s with heap := s.heap.push dictO } := I0.pins_of fun z hz => by
    rcases List.mem_append.mp hz with m | m
    · exact I0.pin z (List.mem_append_right _ m)
    · rw [List.mem_singleton] at m
      subst m
      exact ⟨hg, hn, hf.2.1, hf.2.2.1, fun v e => by cases e⟩
  refine wpAny_Dict_walk (knd := mixKind X.prog X.w) hall hl h0 h15 (thn (h.run _ _ σ H _ I1 q) fun ws s2 hh => ?_)
  obtain ⟨ps, H2, I2, rel, kvs, ep, lk, q2⟩ := hh
  subst ep
  obtain ⟨rs, c, rk⟩ := carries_of (P := X.prog) (w := X.w) rel
  obtain ⟨pg, pn, pl, pf, _⟩ := I2.pin (s.heap.objs.size, dictO) (List.mem_append_right _ (List.mem_append_right _ (List.mem_singleton.mpr rfl)))
  have base : ObjOk X.prog X.w (fun _ => none) (s.heap.push dictO) s.heap.objs.size (.dK []) := dk_empty s.heap I.big
  have here : ObjOk X.prog X.w (fun _ => none) s2.heap s.heap.objs.size (.dK []) := base.stay (H' := fun _ => none) (fun b u hb e => by
    rcases hb with z | z
    · rw [z, hg] at e; cases e; rw [z]; exact pg
    · cases z) (fun _ z => by cases z) fun _ _ z => by cases z
  obtain ⟨z, hd, vs0, r0, dd⟩ := here
  cases r0
  refine ⟨rs, c, dd, fun h' dd' hs => ⟨.ref s.heap.objs.size, upd H2 s.heap.objs.size (.dK (mergeK [] kvs)), ?_, rfl, q2 _ pn⟩⟩
  have hz : (mergeK [] kvs).length ≤ sizeLine := by
    have h1 := length_mergeK kvs []
    rw [List.length_nil] at h1
    rw [sizeLine_eq]; omega
  have he : ∃ o, h'.get? s.heap.objs.size = some o := let ⟨o, _, _, e, _⟩ := dd'; ⟨o, e⟩
  exact laid_late (t' := s2.toks + ws.length) I2.unpinned ⟨pn, hf.2⟩ hs he (dk_new hz hd (rk.merge .nil) dd')
end

inductive RepP (K : PySem.W.Frag) (F : Hp) (ρ : List Addr) : List (T × T) → List (V × V) → Prop
  | nil : RepP K F ρ [] []
  | cons (k t : T) (r : List (T × T)) (x v : V) (s : List (V × V)) (a : Rep K F ρ k x) (b : Rep K F ρ t v) (c : RepP K F ρ r s) : RepP K F ρ ((k, t) :: r) ((x, v) :: s)
def mPairs : List (EM × EM) → Mi.Loc → Hs → Res (List (T × T))
  | [], _, M => .ok [] M
  | (k, v) :: r, τ, M => (k τ M).bind fun a M1 => (v τ M1).bind fun b M2 => (mPairs r τ M2).bind fun l M3 => .ok ((a, b) :: l) M3
def okD (kvs : List (T × T)) : Bool := decide (kvs.length ≤ 15) && kvs.all fun p => isKey p.1
def mDct (ps : List (EM × EM)) : EM := fun τ M => (mPairs ps τ M).bind fun kvs M1 => if okD kvs then .ok (.dct (dMerge [] kvs)) M1 else .bad
/-- a dict that may change -/
def mDctR (ps : List (EM × EM)) : EM := fun τ M => (mPairs ps τ M).bind fun kvs M1 => if okD kvs then .ok (.ref M1.length) (M1 ++ [.dct (dMerge [] kvs)]) else .bad
section
variable {X : Cx} {tb : Tb} {W : WX} {σ : L2.St} {H : Hp} {K : PySem.W.Frag} {ρ : List Addr} {F : Hp} {M : Hs}
theorem RepP.mono {ρ' : List Addr} {F' H' : Hp} (e : Ext ρ F H ρ' F' H') : ∀ {kvs : List (T × T)} {vs : List (V × V)}, RepP K F ρ kvs vs → RepP K F' ρ' kvs vs
  | _, _, .nil => .nil
  | _, _, .cons k t r x v s a b c => .cons k t _ x v _ (a.mono e) (b.mono e) (RepP.mono e c)
theorem RepP.keys : ∀ {kvs : List (T × T)} {vs : List (V × V)}, RepP K F ρ kvs vs → (kvs.all fun p => isKey p.1) = true → ∃ ks : List (Key × V), vs = ks.map (fun kv => (kV kv.1, kv.2)) ∧ RepD K F ρ kvs ks
  | _, _, .nil, _ => ⟨[], rfl, .nil⟩
  | _, _, .cons k t r x v s a b c, h => by
    rw [List.all_cons, Bool.and_eq_true] at h
    obtain ⟨q, hq⟩ := isKey_iff.mp h.1
    have e := key_rep hq a
    subst e
    obtain ⟨ks, e1, e2⟩ := RepP.keys c h.2
    subst e1
    exact ⟨(q, v) :: ks, rfl, .cons _ _ _ _ _ _ hq b e2⟩
theorem pairs_of {τ : Mi.Loc} : ∀ (ps : List (EM × EM)) {Q : List (V × V) → Hp → Prop} {ρ : List Addr} {F : Hp} {M : Hs} {H : Hp}, Sim tb K ρ F M H → LocR K F ρ τ σ → RP tb K ρ F H (WE1 tb W σ) (fun kvs ρ' F' H' => ∀ vs, RepP K F' ρ' kvs vs → Q vs H') (mPairs ps τ M) →
    tPairs (ps.map fun p => (tM tb K W p.1, tM tb K W p.2)) σ H Q
  | [], Q, ρ, F, M, H, S, L, p => RP.here S p [] .nil
  | (k, v) :: r, Q, ρ, F, M, H, S, L, p => by
    refine ⟨ρ, F, M, τ, S, L, (RP.bind p).imp fun a ρ1 F1 H1 e1 q x rx => ?_⟩
    obtain ⟨M1, _, S1, p1⟩ := q
    refine ⟨ρ1, F1, M1, τ, S1, L.mono e1, (RP.bind p1).imp fun b ρ2 F2 H2 e2 q y ry => ?_⟩
    obtain ⟨M2, _, S2, p2⟩ := q
    refine pairs_of r S2 ((L.mono e1).mono e2) ((RP.bind p2).imp fun l ρ3 F3 H3 e3 q vs rl => ?_)
    obtain ⟨M3, _, S3, p3⟩ := q
    exact RP.here S3 p3 _ (.cons _ _ _ _ _ _ (rx.mono (e2.trans e3)) (ry.mono e3) rl)
theorem new_dct {E : Nat → Hp → Prop} {Q : VK} {kvs : List (T × T)} {vs : List (Key × V)} (S : Sim tb K ρ F M H) (r : RepD K F ρ kvs vs) (p : RP tb K ρ F H E (GM K Q) (.ok (.dct kvs) M)) (q : Addr) (hq : H q = none) : Q (.ref q) (upd H q (.dK vs)) := by
  obtain ⟨S', e⟩ := S.lay hq (.dK vs)
  exact p ρ _ _ e S' _ (.dct kvs vs q upd_same (r.mono e))
theorem new_dctR {E : Nat → Hp → Prop} {Q : VK} {kvs : List (T × T)} {vs : List (Key × V)} (S : Sim tb K ρ F M H) (r : RepD K F ρ kvs vs) (p : RP tb K ρ F H E (GM K Q) (.ok (.ref M.length) (M ++ [.dct kvs]))) (q : Addr) (hq : H q = none) : Q (.ref q) (upd H q (.dK vs)) := by
  have kp : ∀ a o, H a = some o → upd H q (.dK vs) a = some o := fun a o e => by rw [upd_ne (ne_of_none e hq)]; exact e
  have ex : Ext ρ F H (ρ ++ [q]) F (upd H q (.dK vs)) := .grow hq kp
  obtain ⟨S', e⟩ := S.add (H' := upd H q (.dK vs)) (ob := .dct kvs) hq kp ⟨vs, upd_same, r.mono ex⟩
  exact p _ _ _ e S' _ (.ref _ q (by rw [← S.len, List.getElem?_append_right (Nat.le_refl _), Nat.sub_self]; rfl))
theorem mP_nil {pos : Pos} : PPs X pos [] [] (([] : List (EM × EM)).map fun p => (tM tb X.K W p.1, tM tb X.K W p.2)) := pps_nil
theorem mP_cons {pos : Pos} {k v : Expr} {ks : List (Option Expr)} {vs : List Expr} {mk mv : EM} {r : List (EM × EM)} (hk : PE X k (tM tb X.K W mk)) (hv : PE X v (tM tb X.K W mv)) (hr : PPs X pos ks vs (r.map fun p => (tM tb X.K W p.1, tM tb X.K W p.2))) :
    PPs X pos (some k :: ks) (v :: vs) (((mk, mv) :: r).map fun p => (tM tb X.K W p.1, tM tb X.K W p.2)) := pps_cons hk hv hr
theorem okD_of {kvs : List (T × T)} (h : okD kvs = true) : kvs.length ≤ 15 ∧ (kvs.all fun p => isKey p.1) = true := by
  unfold okD at h
  rw [Bool.and_eq_true, decide_eq_true_eq] at h
  exact h
theorem mE_dct {pos : Pos} {keys : List (Option Expr)} {values : List Expr} {ps : List (EM × EM)} (h : PPs X pos keys values (ps.map fun p => (tM tb X.K W p.1, tM tb X.K W p.2))) (hall : keys.all (·.isSome) = true := by rfl) (hl : keys.length = values.length := by rfl)
    (h0 : keys ≠ [] := by intro z; cases z) (h15 : keys.length ≤ 15 := by decide) : PE X (.Dict keys values pos) (tM tb X.K W (mDct ps)) := by
  refine pe_imp (pe_dispP h hall hl h0 h15) fun σ H Q h => ?_
  obtain ⟨ρ, F, M, τ, S, L, p⟩ := h
  refine pairs_of ps S L ((RP.bind p).imp fun kvs ρ1 F1 H1 e1 q vs rv => ?_)
  obtain ⟨M1, _, S1, p1⟩ := q
  split at p1
  case isFalse => exact p1.elim
  rename_i hk
  obtain ⟨k1, k2⟩ := okD_of hk
  obtain ⟨ks, e, rd⟩ := RepP.keys rv k2
  exact ⟨ks, e, by rw [← rd.length]; exact k1, fun q hq => new_dct S1 (RepD.merge rd .nil) p1 q hq⟩
theorem mE_dctR {pos : Pos} {keys : List (Option Expr)} {values : List Expr} {ps : List (EM × EM)} (h : PPs X pos keys values (ps.map fun p => (tM tb X.K W p.1, tM tb X.K W p.2))) (hall : keys.all (·.isSome) = true := by rfl) (hl : keys.length = values.length := by rfl)
    (h0 : keys ≠ [] := by intro z; cases z) (h15 : keys.length ≤ 15 := by decide) : PE X (.Dict keys values pos) (tM tb X.K W (mDctR ps)) := by
  refine pe_imp (pe_dispP h hall hl h0 h15) fun σ H Q h => ?_
  obtain ⟨ρ, F, M, τ, S, L, p⟩ := h
  refine pairs_of ps S L ((RP.bind p).imp fun kvs ρ1 F1 H1 e1 q vs rv => ?_)
  obtain ⟨M1, _, S1, p1⟩ := q
  split at p1
  case isFalse => exact p1.elim
  rename_i hk
  obtain ⟨k1, k2⟩ := okD_of hk
  obtain ⟨ks, e, rd⟩ := RepP.keys rv k2
  exact ⟨ks, e, by rw [← rd.length]; exact k1, fun q hq => new_dctR S1 (RepD.merge rd .nil) p1 q hq⟩
theorem mE_dct0 {pos : Pos} : PE X (.Dict [] [] pos) (tM tb X.K W (mC (.dct []))) := by
  refine pe_imp pe_dnewK fun σ H Q h => ?_
  obtain ⟨ρ, F, M, τ, S, L, p⟩ := h
  exact fun q hq => new_dct S .nil p q hq
def mDctR0 : EM := fun _ M => .ok (.ref M.length) (M ++ [.dct []])
theorem mE_dctR0 {pos : Pos} : PE X (.Dict [] [] pos) (tM tb X.K W mDctR0) := by
  refine pe_imp pe_dnewK fun σ H Q h => ?_
  obtain ⟨ρ, F, M, τ, S, L, p⟩ := h
  exact fun q hq => new_dctR S .nil p q hq

/-! ### calls of built-ins -/
theorem mE_callB {x : Str} {p pos : Pos} {e : Expr} {es : List Expr} {id : String} {r : List V → Hp → VK → Prop} {f : List T → Hs → Res T} {ma : AM} (hc : CallR X (.builtin id) r) (hf : OpN tb X.K f r) (hm : X.mg x = none) (ha : PA X (e :: es) (tAM tb X.K W ma))
    (hv : bootBuiltins x = some (.builtin id) := by decide +kernel) (hg : Gl X x := by rfl) (hn : x ≠ "__name__" := by decide) (hdb : (x == ("__debug__" : Str)) = false := by decide)
    (he : starEach (e :: es) X.env = (false, eval e X.env) :: starEach es X.env := by rfl) (hpl : (backTo pos (starEach es X.env)).any (·.1) = false := by rfl) : PE X (.Call (.Name x p) (e :: es) [] pos) (tM tb X.K W (mApp f ma)) :=
  pe_imp (pe_callB hc hg hm hv ha hn hdb he hpl) fun _ _ _ h => many hf h
theorem mE_callTy {x : Str} {p pos : Pos} {e : Expr} {es : List Expr} {id : String} {r : List V → Hp → VK → Prop} {f : List T → Hs → Res T} {ma : AM} (hc : CallR X (.type id) r) (hf : OpN tb X.K f r) (hm : X.mg x = none) (ha : PA X (e :: es) (tAM tb X.K W ma))
    (hv : bootBuiltins x = some (.type id) := by decide +kernel) (hg : Gl X x := by rfl) (hn : x ≠ "__name__" := by decide) (hdb : (x == ("__debug__" : Str)) = false := by decide)
    (he : starEach (e :: es) X.env = (false, eval e X.env) :: starEach es X.env := by rfl) (hpl : (backTo pos (starEach es X.env)).any (·.1) = false := by rfl) : PE X (.Call (.Name x p) (e :: es) [] pos) (tM tb X.K W (mApp f ma)) :=
  pe_imp (pe_callTy hc hg hm hv ha hn hdb he hpl) fun _ _ _ h => many hf h
def fAbs : List T → Hs → Res T
  | [.int i], M => .ok (.int (if i < 0 then -i else i)) M
  | _, _ => .bad
theorem opn_abs : OpN tb K fAbs (fun xs H Q => ∃ i, xs = [.int i] ∧ Q (.int (if i < 0 then -i else i)) H) := fun E ρ F M H Q a x S r p => by
  unfold fAbs at p
  split at p
  case h_2 => exact p.elim
  cases r with
  | cons _ _ _ _ r1 r2 =>
  cases r1; cases r2
  exact ⟨_, rfl, RP.here S p _ (.int _)⟩
def fMax2 : List T → Hs → Res T
  | [.int i, .int j], M => .ok (.int (if j > i then j else i)) M
  | _, _ => .bad
def fMin2 : List T → Hs → Res T
  | [.int i, .int j], M => .ok (.int (if j < i then j else i)) M
  | _, _ => .bad
theorem opn_max2 : OpN tb K fMax2 (fun xs H Q => ∃ i j, xs = [.int i, .int j] ∧ Q (.int (if j > i then j else i)) H) := fun E ρ F M H Q a x S r p => by
  unfold fMax2 at p
  split at p
  case h_2 => exact p.elim
  cases r with
  | cons _ _ _ _ r1 r2 =>
  cases r2 with
  | cons _ _ _ _ r2 r3 =>
  cases r1; cases r2; cases r3
  exact ⟨_, _, rfl, RP.here S p _ (.int _)⟩
theorem opn_min2 : OpN tb K fMin2 (fun xs H Q => ∃ i j, xs = [.int i, .int j] ∧ Q (.int (if j < i then j else i)) H) := fun E ρ F M H Q a x S r p => by
  unfold fMin2 at p
  split at p
  case h_2 => exact p.elim
  cases r with
  | cons _ _ _ _ r1 r2 =>
  cases r2 with
  | cons _ _ _ _ r2 r3 =>
  cases r1; cases r2; cases r3
  exact ⟨_, _, rfl, RP.here S p _ (.int _)⟩
def fInt : List T → Hs → Res T
  | [.int i], M => .ok (.int i) M
  | [.bl b], M => .ok (.int (b2 b)) M
  | _, _ => .bad
theorem opn_int : OpN tb K fInt (fun xs H Q => (∃ i, xs = [.int i] ∧ Q (.int i) H) ∨ ∃ k, xs = [.bl k] ∧ Q (.int (if k then 1 else 0)) H) := fun E ρ F M H Q a x S r p => by
  unfold fInt at p
  split at p
  case h_3 => exact p.elim
  · cases r with
    | cons _ _ _ _ r1 r2 =>
    cases r1; cases r2
    exact .inl ⟨_, rfl, RP.here S p _ (.int _)⟩
  · rename_i b
    cases r with
    | cons _ _ _ _ r1 r2 =>
    cases r1; cases r2
    refine .inr ⟨b, rfl, ?_⟩
    have q := RP.here S p _ (.int _)
    cases b <;> exact q
def fLen : List T → Hs → Res T
  | [.str s], M => if s.length ≤ lineN then .ok (.int s.length) M else .bad
  | [.tup ts], M => .ok (.int ts.length) M
  | [x], M => match dcOf x M with
    | some kvs => .ok (.int kvs.length) M
    | none => match lsOf x M with
      | some ts => .ok (.int ts.length) M
      | none => .bad
  | _, _ => .bad
def rLenU (K : PySem.W.Frag) : List V → Hp → VK → Prop := fun xs H Q => (∃ x n, xs = [x] ∧ LenV K x H n ∧ Q (.int n) H) ∨ ∃ a kvs, xs = [.ref a] ∧ Rd H a (.dK kvs) ∧ Q (.int (kvs.length : Nat)) H
theorem cr_len : CallR X (.builtin "len") (rLenU X.K) := call_len.or fun pins s σ H xs us Q I r h => by
  obtain ⟨a, kvs, rfl, hr, q⟩ := h
  rw [Vals.ref1 r]
  exact d_len I hr fun t s' I' => ⟨.int _, H, I', ⟨t, rfl⟩, q⟩
theorem opn_len : OpN tb K fLen (rLenU K) := fun E ρ F M H Q a x S r p => by
  unfold fLen at p
  split at p
  case h_4 => exact p.elim
  · split at p
    case isFalse => exact p.elim
    rename_i s hl
    cases r with
    | cons _ _ _ _ r1 r2 =>
    cases r1; cases r2
    exact .inl ⟨_, s.length, rfl, ⟨by rw [str_len, ← lineN_eq]; exact hl, (str_len s).symm⟩, RP.here S p _ (.int _)⟩
  · rename_i ts
    cases r with
    | cons _ _ _ _ r1 r2 =>
    cases r2
    cases r1 with
    | tup _ vs a hF rl => exact .inl ⟨_, ts.length, rfl, .inr ⟨vs, hd_sqT S.sub hF, rl.length⟩, RP.here S p _ (.int _)⟩
  · cases r with
    | cons _ _ _ _ r1 r2 =>
    cases r2
    split at p
    · rename_i kvs hd
      obtain ⟨a, vs, rfl, hH, rd⟩ := dc_at S r1 hd
      exact .inr ⟨a, vs, rfl, hH, by rw [← rd.length]; exact RP.here S p _ (.int _)⟩
    · split at p
      case h_2 => exact p.elim
      rename_i ts hls
      obtain ⟨a, vs, rfl, hH, rl⟩ := ls_at S r1 hls
      exact .inl ⟨_, ts.length, rfl, .inl ⟨vs, hH, rl.length⟩, RP.here S p _ (.int _)⟩
/-- list(..) of a list, a tuple -/
def fList : List T → Hs → Res T
  | [.tup ts], M => .ok (.lst ts) M
  | [x], M => match lsOf x M with
    | some ts => .ok (.lst ts) M
    | none => .bad
  | _, _ => .bad
theorem opn_list : OpN tb K fList (fun xs H Q => ∃ p ys, xs = [.ref p] ∧ (SqL K H p ys ∨ SqT K H p ys) ∧ ∀ l, H l = none → Q (.ref l) (upd H l (.lst ys))) := fun E ρ F M H Q a x S r p => by
  unfold fList at p
  split at p
  case h_3 => exact p.elim
  · cases r with
    | cons _ _ _ _ r1 r2 =>
    cases r2
    cases r1 with
    | tup _ vs a hF rl => exact ⟨a, vs, rfl, .inr (hd_sqT S.sub hF), fun q hq => new_lst S rl p q hq⟩
  · cases r with
    | cons _ _ _ _ r1 r2 =>
    cases r2
    split at p
    case h_2 => exact p.elim
    rename_i ts hls
    obtain ⟨a, vs, rfl, hH, rl⟩ := ls_at S r1 hls
    exact ⟨a, vs, rfl, .inl hH, fun q hq => new_lst S rl p q hq⟩
def fTuple : List T → Hs → Res T
  | [.tup ts], M => .ok (.tup ts) M
  | [x], M => match lsOf x M with
    | some ts => .ok (.tup ts) M
    | none => .bad
  | _, _ => .bad
theorem opn_tuple : OpN tb K fTuple (fun xs H Q => ∃ p ys, xs = [.ref p] ∧ ((SqL K H p ys ∧ ∀ l, H l = none → Q (.ref l) (upd H l (.tup ys))) ∨ (SqT K H p ys ∧ Q (.ref p) H))) := fun E ρ F M H Q a x S r p => by
  unfold fTuple at p
  split at p
  case h_3 => exact p.elim
  · cases r with
    | cons _ _ _ _ r1 r2 =>
    cases r2
    cases r1 with
    | tup _ vs a hF rl => exact ⟨a, vs, rfl, .inr ⟨hd_sqT S.sub hF, RP.here S p _ (.tup _ vs a hF rl)⟩⟩
  · cases r with
    | cons _ _ _ _ r1 r2 =>
    cases r2
    split at p
    case h_2 => exact p.elim
    rename_i ts hls
    obtain ⟨a, vs, rfl, hH, rl⟩ := ls_at S r1 hls
    exact ⟨a, vs, rfl, .inl ⟨hH, fun q hq => new_tup S rl p q hq⟩⟩
/-- a list of whole numbers, of bools -/
def intsT : List T → Option (List Int)
  | [] => some []
  | .int i :: r => (intsT r).map (i :: ·)
  | _ => none
def bools? : List T → Option (List Bool)
  | [] => some []
  | .bl i :: r => (bools? r).map (i :: ·)
  | _ => none
theorem ints_rep : ∀ {ts : List T} {ns : List Int} {vs : List V}, intsT ts = some ns → RepL K F ρ ts vs → vs = ns.map V.int
  | [], _, _, h, r => by cases h; cases r; rfl
  | t :: ts, ns, vs, h, r => by
    cases t <;> simp only [intsT, reduceCtorEq] at h
    cases e : intsT ts with
    | none => rw [e] at h; cases h
    | some ms =>
      rw [e] at h
      cases h
      cases r with
      | cons _ _ _ _ r1 r2 => cases r1; rw [ints_rep e r2]; rfl
theorem bools_rep : ∀ {ts : List T} {ns : List Bool} {vs : List V}, bools? ts = some ns → RepL K F ρ ts vs → vs = ns.map V.bl
  | [], _, _, h, r => by cases h; cases r; rfl
  | t :: ts, ns, vs, h, r => by
    cases t <;> simp only [bools?, reduceCtorEq] at h
    cases e : bools? ts with
    | none => rw [e] at h; cases h
    | some ms =>
      rw [e] at h
      cases h
      cases r with
      | cons _ _ _ _ r1 r2 => cases r1; rw [bools_rep e r2]; rfl
theorem rep_ints : ∀ (ns : List Int), RepL K F ρ (ns.map T.int) (ns.map V.int)
  | [] => .nil
  | n :: ns => .cons _ _ _ _ (.int n) (rep_ints ns)
def lsI (x : T) (M : Hs) : Option (List Int) := (lsOf x M).bind intsT
theorem lsI_at {x : T} {v : V} {ns : List Int} (S : Sim tb K ρ F M H) (r : Rep K F ρ x v) (h : lsI x M = some ns) : ∃ a, v = .ref a ∧ SqL K H a (ns.map V.int) := by
  unfold lsI at h
  cases e : lsOf x M with
  | none => rw [e] at h; cases h
  | some ts =>
    rw [e] at h
    obtain ⟨a, vs, rfl, hH, rl⟩ := ls_at S r e
    exact ⟨a, rfl, by rw [← ints_rep h rl]; exact hH⟩
def fAll : List T → Hs → Res T
  | [x], M => match (lsOf x M).bind bools? with
    | some bs => .ok (.bl (bs.all id)) M
    | none => .bad
  | _, _ => .bad
def fAny : List T → Hs → Res T
  | [x], M => match (lsOf x M).bind bools? with
    | some bs => .ok (.bl (bs.any id)) M
    | none => .bad
  | _, _ => .bad
theorem lsB_at {x : T} {v : V} {ns : List Bool} (S : Sim tb K ρ F M H) (r : Rep K F ρ x v) (h : (lsOf x M).bind bools? = some ns) : ∃ a, v = .ref a ∧ SqL K H a (ns.map V.bl) := by
  cases e : lsOf x M with
  | none => rw [e] at h; cases h
  | some ts =>
    rw [e] at h
    obtain ⟨a, vs, rfl, hH, rl⟩ := ls_at S r e
    exact ⟨a, rfl, by rw [← bools_rep h rl]; exact hH⟩
theorem opn_all : OpN tb K fAll (rAll K) := fun E ρ F M H Q a x S r p => by
  unfold fAll at p
  split at p
  case h_2 => exact p.elim
  cases r with
  | cons _ _ _ _ r1 r2 =>
  cases r2
  split at p
  case h_2 => exact p.elim
  rename_i bs hb
  obtain ⟨a, rfl, hH⟩ := lsB_at S r1 hb
  exact ⟨a, bs, rfl, hH, RP.here S p _ (.bl _)⟩
theorem opn_any : OpN tb K fAny (rAny K) := fun E ρ F M H Q a x S r p => by
  unfold fAny at p
  split at p
  case h_2 => exact p.elim
  cases r with
  | cons _ _ _ _ r1 r2 =>
  cases r2
  split at p
  case h_2 => exact p.elim
  rename_i bs hb
  obtain ⟨a, rfl, hH⟩ := lsB_at S r1 hb
  exact ⟨a, bs, rfl, hH, RP.here S p _ (.bl _)⟩
def fSum : List T → Hs → Res T
  | [x], M => match lsI x M with
    | some ns => .ok (.int ns.sum) M
    | none => .bad
  | _, _ => .bad
theorem opn_sum : OpN tb K fSum (rSum K) := fun E ρ F M H Q a x S r p => by
  unfold fSum at p
  split at p
  case h_2 => exact p.elim
  cases r with
  | cons _ _ _ _ r1 r2 =>
  cases r2
  split at p
  case h_2 => exact p.elim
  rename_i bs hb
  obtain ⟨a, rfl, hH⟩ := lsI_at S r1 hb
  exact ⟨a, bs, rfl, hH, RP.here S p _ (.int _)⟩
def imax : List Int → Int
  | [] => 0
  | a :: r => r.foldl (fun x y => if y > x then y else x) a
def imin : List Int → Int
  | [] => 0
  | a :: r => r.foldl (fun x y => if y < x then y else x) a
theorem imax_go : ∀ (r : List Int) (a m : Int), (m = a ∨ m ∈ r) → a ≤ m → (∀ y ∈ r, y ≤ m) → r.foldl (fun x y => if y > x then y else x) a = m
  | [], a, m, h, _, _ => by rcases h with h | h; exact h.symm; cases h
  | b :: r, a, m, h, ha, hr => by
    rw [List.foldl_cons]
    have hb := hr b List.mem_cons_self
    refine imax_go r _ m ?_ (by split <;> omega) fun y hy => hr y (List.mem_cons_of_mem _ hy)
    rcases h with h | h
    · subst h
      left
      split <;> omega
    · rcases List.mem_cons.mp h with z | z
      · subst z
        left
        split <;> omega
      · exact .inr z
theorem imin_go : ∀ (r : List Int) (a m : Int), (m = a ∨ m ∈ r) → m ≤ a → (∀ y ∈ r, m ≤ y) → r.foldl (fun x y => if y < x then y else x) a = m
  | [], a, m, h, _, _ => by rcases h with h | h; exact h.symm; cases h
  | b :: r, a, m, h, ha, hr => by
    rw [List.foldl_cons]
    have hb := hr b List.mem_cons_self
    refine imin_go r _ m ?_ (by split <;> omega) fun y hy => hr y (List.mem_cons_of_mem _ hy)
    rcases h with h | h
    · subst h
      left
      split <;> omega
    · rcases List.mem_cons.mp h with z | z
      · subst z
        left
        split <;> omega
      · exact .inr z
theorem imax_is {l : List Int} {m : Int} (h : m ∈ l) (hm : ∀ y ∈ l, y ≤ m) : imax l = m := by
  cases l with
  | nil => cases h
  | cons a r => exact imax_go r a m (List.mem_cons.mp h) (hm a List.mem_cons_self) fun y hy => hm y (List.mem_cons_of_mem _ hy)
theorem imin_is {l : List Int} {m : Int} (h : m ∈ l) (hm : ∀ y ∈ l, m ≤ y) : imin l = m := by
  cases l with
  | nil => cases h
  | cons a r => exact imin_go r a m (List.mem_cons.mp h) (hm a List.mem_cons_self) fun y hy => hm y (List.mem_cons_of_mem _ hy)
def fMaxL : List T → Hs → Res T
  | [x], M => match lsI x M with
    | some (n :: ns) => .ok (.int (imax (n :: ns))) M
    | _ => .bad
  | _, _ => .bad
def fMinL : List T → Hs → Res T
  | [x], M => match lsI x M with
    | some (n :: ns) => .ok (.int (imin (n :: ns))) M
    | _ => .bad
  | _, _ => .bad
theorem opn_maxL : OpN tb K fMaxL (rMax K) := fun E ρ F M H Q a x S r p => by
  unfold fMaxL at p
  split at p
  case h_2 => exact p.elim
  cases r with
  | cons _ _ _ _ r1 r2 =>
  cases r2
  split at p
  case h_2 => exact p.elim
  rename_i n ns hb
  obtain ⟨a, rfl, hH⟩ := lsI_at S r1 hb
  refine ⟨a, _, rfl, hH, Nat.succ_pos _, fun m h1 h2 => ?_⟩
  rw [← imax_is h1 h2]
  exact RP.here S p _ (.int _)
theorem opn_minL : OpN tb K fMinL (rMin K) := fun E ρ F M H Q a x S r p => by
  unfold fMinL at p
  split at p
  case h_2 => exact p.elim
  cases r with
  | cons _ _ _ _ r1 r2 =>
  cases r2
  split at p
  case h_2 => exact p.elim
  rename_i n ns hb
  obtain ⟨a, rfl, hH⟩ := lsI_at S r1 hb
  refine ⟨a, _, rfl, hH, Nat.succ_pos _, fun m h1 h2 => ?_⟩
  rw [← imin_is h1 h2]
  exact RP.here S p _ (.int _)
end
end Mi
namespace Mi
open PySem PySem.Spec PyProof.Rows L2

/-! ### lambdas -/
/-- the function object of a lambda -/
def LamO (f : Addr) (o : Obj) : HO := .ext fun h => h.get? f = some o
theorem among_appN {pos p' : Pos} {c cv : Value} (l : List Value) (h : TriplesOk l) (hc : codeAmong p' (l ++ [rawInt pos.line, rawInt pos.col, c]) = some cv) : codeAmong p' l = some cv ∨ (cv = c ∧ p'.line = pos.line ∧ p'.col = pos.col) := by
  fun_induction TriplesOk l with
  | case1 =>
    simp only [List.nil_append, rawInt, codeAmong] at hc
    split at hc
    · rename_i q
      simp only [Bool.and_eq_true, beq_iff_eq] at q
      exact .inr ⟨(Option.some.inj hc).symm, by omega, by omega⟩
    · cases hc
  | case2 a t b u x rest ih =>
    simp only [List.cons_append, codeAmong] at hc ⊢
    split at hc
    · rename_i q
      rw [if_pos q]
      exact .inl hc
    · rename_i q
      rw [if_neg q]
      exact ih h hc
  | case3 l h1 h2 => exact h.elim
/-- a lambda: its text -/
structure LamD where
  ps : Arguments
  body : Expr
  sc : Scope
def lamObj (X : Cx) (l : LamD) (pm : Value) (c' : Addr) (ctv : Value) : Obj := PySem.W.kla_obj "<lambda>" (X.env.qual ++ "<lambda>") l.ps l.body l.sc (cloFrom X.env.cells l.sc.names []) pm c' ctv
/-- at f stands the lambda l that X made -/
def LamAt (X : Cx) (H : Hp) (f : Addr) (l : LamD) : Prop := ∃ (c' : Addr) (pm ctv : Value), H f = some (LamO f (lamObj X l pm c' ctv)) ∧ H c' = some (LamX.CodeO c' (X.env.qual ++ "<lambda>"))
theorem LamAt.ext {X : Cx} {H H' : Hp} {f : Addr} {l : LamD} (h : LamAt X H f l) (e : LamX.ExtN H H') : LamAt X H' f l := by
  obtain ⟨c', pm, ctv, h1, h2⟩ := h
  exact ⟨c', pm, ctv, e _ _ h1 (fun _ z => by unfold LamO at z; cases z), e _ _ h2 (fun _ z => by unfold LamX.CodeO at z; cases z)⟩
/-- what is asked of the text of a lambda in X -/
structure LamOk (X : Cx) (l : LamD) : Prop where
  L : LamX.LamS X.env.scope l.sc
  def' : defaultsOf l.ps X.env = ([], [])
  bind : ∀ (q : Str) (cl : List (Str × Addr)) (pm cv ctv : Value), bindArgs (PySem.W.kla_fn "<lambda>" q l.ps l.body l.sc cl pm cv ctv) ⟨[], []⟩ = pure []
/-- the tables of X's code object -/
structure TabX (X : Cx) (T : List (Addr × (Nat → Nat → Str))) (c P : Addr) (nm : Nat → Nat → Str) : Prop where
  b : LamX.TabB X.base X.mg c P
  code : X.env.code = .ref c
  m : (P, nm) ∈ T
  u : ∀ p ∈ T, p.1 = P → p.2 = nm
section
variable {X : Cx} {tb : Tb} {W : WX} {pins : List (Addr × Obj)} {σ : L2.St} {H : Hp} {s : Shared}
theorem lam_makeT {T : List (Addr × (Nat → Nat → Str))} {c P : Addr} {nm : Nat → Nat → Str} {l : LamD} {pos : Pos} {E : Value → Shared → Prop} {Q : Value → Shared → Prop} (I : Inv X pins σ H s) (TX : TabX X T c P nm) (lo : LamOk X l) (hnm : nm pos.line pos.col = X.env.qual ++ "<lambda>") (hT : TabsN T H)
    (h : ∀ (f : Addr) (H1 : Hp) (s' : Shared), Inv X pins σ H1 s' → LamX.ExtN H H1 → TabsN T H1 → LamAt X H1 f l → Q (.ref f) s') :
    wpAny (model X.prog X.w) X.A (eval (.Lambda l.ps l.body l.sc pos) X.env) Q E s := by
  obtain ⟨ps, hP, ht, ha⟩ := hT _ TX.m
  refine PySem.W.kla_eval lo.def' ?_
  have hfree := lo.L.has I.ok
  have bP : s.heap.BuiltinsAt X.mg P := TX.b.bm.keeps I.bk
  have hP' : s.heap.get? P = some { cls := .none, data := .fields ps } := I.hok P _ hP
  cases hc : codeAmong pos ps.toList with
  | none =>
    refine PySem.W.kla_makeFunction (mg := X.mg) (c := c) (P := P) (ps := ps) (closure_ok hfree) I.ok.glob (I.mod.glob.keeps I.bk) TX.code (TX.b.code.keeps I.bk) hP' ht hc TX.b.gP bP fun c' ctv h' tk hx hge hlt hrec htb => ?_
    obtain ⟨c2, oc, vs, t, e2, hoc, hd, hv⟩ := hrec
    cases e2
    have nC : H c' = none := I.hok.fresh hge
    have I1 := LamX.inv_table (t' := tk) (more := #[rawInt pos.line, rawInt pos.col, .ref c']) (h' := h') I hP hx htb hge ⟨oc, vs, t, hoc, hd, hv⟩
    have nf := I1.hok.fresh (show h'.objs.size ≤ h'.objs.size from Nat.le_refl _)
    have I2 := I1.laid (a := h'.objs.size) (o := LamO h'.objs.size (lamObj X l ((X.mg "__name__").getD .none) c' ctv)) (h' := h'.push (lamObj X l ((X.mg "__name__").getD .none) c' ctv)) (t' := tk) (fun b u e => Heap.get?_push_of_some _ e) (Nat.le_refl _)
      ⟨Heap.get?_push_size _ rfl, ⟨_, Heap.get?_push_size _ rfl⟩, fun h1 h2 p st => st _ p⟩
    have hE1 : LamX.ExtN H (upd (upd H P (.tbl (ps ++ #[rawInt pos.line, rawInt pos.col, .ref c']))) c' (LamX.CodeO c' (X.env.qual ++ "<lambda>"))) := fun b o e n => by
      rw [upd_ne (ne_of_none e nC), upd_ne (fun z => n ps (Option.some.inj (e.symm.trans (by rw [z]; exact hP))))]
      exact e
    have up : ∀ {H : Hp} {f : Addr} {v : HO}, H f = none → ∀ b o, H b = some o → upd H f v b = some o := fun n b o e => by rw [upd_ne (ne_of_none e n)]; exact e
    have eL : (ps ++ #[rawInt pos.line, rawInt pos.col, .ref c']).toList = ps.toList ++ [rawInt pos.line, rawInt pos.col, .ref c'] := by simp
    have T1 : TabsN T (upd (upd H P (.tbl (ps ++ #[rawInt pos.line, rawInt pos.col, .ref c']))) c' (LamX.CodeO c' (X.env.qual ++ "<lambda>"))) := fun p hp => by
      by_cases hb : p.1 = P
      · rw [TX.u p hp hb, hb]
        refine ⟨_, by rw [upd_ne (ne_of_none hP nC), upd_same], by rw [eL]; exact PySem.TriplesOk_snoc _ _ _ _ ht, fun p' cv hcv => ?_⟩
        rw [eL] at hcv
        rcases among_appN _ ht hcv with z | ⟨z, z1, z2⟩
        · obtain ⟨c0, e1, e2⟩ := ha p' cv z
          exact ⟨c0, e1, hE1 _ _ e2 LamX.codeO_ne⟩
        · refine ⟨c', z, ?_⟩
          rw [z1, z2, hnm]
          exact upd_same
      · obtain ⟨ps', a1, a2, a3⟩ := hT p hp
        refine ⟨ps', by rw [upd_ne (ne_of_none a1 nC), upd_ne hb]; exact a1, a2, fun p' cv hcv => ?_⟩
        obtain ⟨c0, e1, e2⟩ := a3 p' cv hcv
        exact ⟨c0, e1, hE1 _ _ e2 LamX.codeO_ne⟩
    refine h h'.objs.size _ _ I2 (hE1.trans (LamX.ExtN.of (up nf))) (T1.ext (up nf)) ⟨c', _, ctv, upd_same, up nf _ _ upd_same⟩
  | some cv =>
    obtain ⟨c', e, hco⟩ := ha pos cv hc
    subst e
    refine PySem.W.kla_makeFunctionHit (mg := X.mg) (c := c) (P := P) (ps := ps) (closure_ok hfree) I.ok.glob (I.mod.glob.keeps I.bk) TX.code (TX.b.code.keeps I.bk) hP' ht hc bP fun ctv h' tk hx hsz => ?_
    have I1 : Inv X pins σ H { s with heap := h', toks := tk } := I.kept fun b o e => hx b o e
    have nf : H h'.objs.size = none := I1.hok.fresh (Nat.le_refl _)
    have I2 := I1.laid (a := h'.objs.size) (o := LamO h'.objs.size (lamObj X l ((X.mg "__name__").getD .none) c' ctv)) (h' := h'.push (lamObj X l ((X.mg "__name__").getD .none) c' ctv)) (t' := tk) (fun b u e => Heap.get?_push_of_some _ e) (Nat.le_refl _)
      ⟨Heap.get?_push_size _ rfl, ⟨_, Heap.get?_push_size _ rfl⟩, fun h1 h2 p st => st _ p⟩
    have up : ∀ {H : Hp} {f : Addr} {v : HO}, H f = none → ∀ b o, H b = some o → upd H f v b = some o := fun n b o e => by rw [upd_ne (ne_of_none e n)]; exact e
    have hco : H c' = some (LamX.CodeO c' (nm pos.line pos.col)) := hco
    rw [hnm] at hco
    exact h h'.objs.size _ _ I2 (LamX.ExtN.of (up nf)) (hT.ext (up nf)) ⟨c', _, ctv, upd_same, up nf _ _ hco⟩
/-- the lambda as a value -/
def tLamV (X : Cx) (T : List (Addr × (Nat → Nat → Str))) (l : LamD) : TE := fun σ H Q => TabsN T H ∧ ∀ f H1, LamX.ExtN H H1 → TabsN T H1 → LamAt X H1 f l → Q (.ref f) H1
theorem pe_lamv {T : List (Addr × (Nat → Nat → Str))} {c P : Addr} {nm : Nat → Nat → Str} {ps : Arguments} {body : Expr} {sc : Scope} {pos : Pos} (TX : TabX X T c P nm) (lo : LamOk X ⟨ps, body, sc⟩) (hnm : nm pos.line pos.col = X.env.qual ++ "<lambda>" := by rfl) : PE X (.Lambda ps body sc pos) (tLamV X T ⟨ps, body, sc⟩) :=
  ⟨fun pins s σ H Q I h => lam_makeT (l := ⟨ps, body, sc⟩) I TX lo hnm h.1 fun f H1 s' I1 e t a => ⟨.ref f, H1, I1, rfl, h.2 f H1 e t a⟩⟩
/-- x(), in the def that got the lambda -/
theorem pe_actT {CXg : CXT} {Eg : XK} {Ng : List Str} {qg : Str} {sg : Scope} {g f c' : Addr} {cdg pm ctv : Value} {l : LamD} {k i : Nat} {a : Str} {pn : List (Addr × Obj)} {xe : Value → Shared → Prop} {W : WX} {E : XK} {t : TE} {p1 p2 : Pos}
    (I : Inv X pins σ H s) (lo : LamOk X l)
    (tk : Takes ((cxOf CXg X.prog X.w X.K X.mg X.base Ng qg sg g cdg X.A X.stack s H Eg).tr pn xe) W) (hW : ∀ cls d σ' H', E cls d H' → W cls d σ' H') (hr : Room (k + 1) (X.A.deeper (envOfC qg sg s.heap.objs.size g cdg)))
    (hbody : ∀ (A : Around) (outer : List Env) (s : Shared) (H : Hp), Room k (A.deeper (LamX.lamEnv X l.sc s.heap.objs.size f c')) → PE (LamX.lamCx X A outer s H E l.sc f c') l.body t)
    (hN : Ng[i]? = some a) (hv : Vis sg a) (hd : (a == ("__debug__" : Str)) = false) (hcd : (a == ("__classdict__" : Str)) = false) :
    PE ((cxOf CXg X.prog X.w X.K X.mg X.base Ng qg sg g cdg X.A X.stack s H Eg).tr pn xe) (.Call (.Name a p1) [] [] p2)
      (fun σZ HZ Q => σZ[i]? = some (some (.ref f)) ∧ HZ c' = some (LamX.CodeO c' (X.env.qual ++ "<lambda>")) ∧ HZ f = some (LamO f (lamObj X l pm c' ctv)) ∧ t σ HZ Q) := by
  refine ⟨fun pinsZ sZ σZ HZ Q IZ h => ?_⟩
  obtain ⟨hs, hc, hf, ht⟩ := h
  refine wpAny_Call_Name_kw (thn ((pe_var (pos := p1) (i := i) hN hv hd hcd).run pinsZ sZ σZ HZ (fun v H1 => v = .ref f ∧ H1 = HZ) IZ ⟨.ref f, hs, rfl, rfl⟩) fun u s1 ⟨v, H1, I1, r1, q1⟩ => ?_)
  obtain ⟨ev, eH⟩ := q1
  subst ev
  rw [eH] at I1
  obtain rfl : u = Value.ref f := r1
  have of1 : s1.heap.get? f = some (PySem.W.kla_obj "<lambda>" (X.env.qual ++ "<lambda>") l.ps l.body l.sc (cloFrom X.env.cells l.sc.names []) pm c' ctv) := (I1.hok f _ hf).1
  refine PySem.W.callWith_F0 ⟨_, _, _, _, of1⟩ ?_
  have un : Un (frs X.stack) [] H HZ s.heap s1.heap := I1.base
  obtain ⟨⟨oc, vs, t', hoc, hdc, hvc⟩, _, _⟩ := I1.hok c' _ hc
  have rc : codeAny (model X.prog X.w) (X.A.deeper (envOfC qg sg s.heap.objs.size g cdg)) (.call (.ref f) ⟨[], []⟩) (CR (L2.CX X.prog X.w) (envOfC qg sg s.heap.objs.size g cdg :: X.stack) X.prog X.w HZ s1 Q E) s1 := by
    refine PySem.W.kla_callFunE hr.depth of1 rfl lo.L.co lo.L.gen rfl ⟨c', oc, vs, t', rfl, hoc, hdc, hvc⟩ ?_
    rw [lo.bind]
    refine wpAny_pure (wpAny_newFunctionEnv (fun y hy => (lo.L.own y hy).2) (fun y hy => absurd hy (by simp)) (fun h₁ hns hsb => ⟨I1.nolimit.fresh _ hsb, ?_⟩) lo.L.kind)
    show codeAny _ _ (.expr l.body (LamX.lamEnv X l.sc s1.heap.objs.size f c')) _ _
    have kp : ∀ b o, s1.heap.get? b = some o → h₁.get? b = some o := fun b o e => hsb.extBut b o (Nat.ne_of_lt (Heap.lt_size e)) (Heap.get?_push_of_some _ e)
    have J := LamX.lam_start2 (f := f) (c' := c') (E := E) (tk := s1.toks + ([] : List (Str × Value)).length) I lo.L I1.env0 hr.hd un hns kp
    refine PySem.W.kla_codeExpr (wpAny_mono ((hbody _ _ s1 HZ (hr.deeper _)).run [] _ _ HZ Q J ht) (fun v s' hq => ?_) fun e s' hq => hq)
    obtain ⟨w', H', J', rv, q⟩ := hq
    exact ⟨w', H', J'.os, J'.bare, J'.base, J'.hok, rv, q⟩
  have hx : Passes (L2.CX X.prog X.w) ((cxOf CXg X.prog X.w X.K X.mg X.base Ng qg sg g cdg X.A X.stack s H Eg).tr pn xe) E := passes_call tk hW
  refine wpAny_call (codeAny_mono rc fun r s' hq => ?_)
  cases r with
  | error e => exact hx pinsZ σZ HZ s1 e s' I1 hq
  | ok fl =>
    cases fl with
    | ret u => exact I1.after hq
    | next => exact False.elim hq
    | brk => exact False.elim hq
    | cont => exact False.elim hq
end

/-! ### told: a lambda handed to the def that calls it and answers the name of an error -/
def mTold (cs : List Nat) (ret : List Nat) (m : EM) : EM := fun τ M => match m τ M with
  | .ok t M1 => .ok t M1
  | .ex c M1 => if cs.contains c then .ok (.str ret) M1 else .bad
  | .bad => .bad
/-- what is known of that def -/
def ToldD (K : PySem.W.Frag) (mg : Str → Option Value) (tb : Tb) (x : Str) (cs : List Nat) (ret : List Nat) : Prop :=
  ∃ (a e : Str) (g CS : Addr) (j : Nat) (p1 p2 p3 p4 p5 p6 p7 p8 : Pos) (pg : Arguments) (sg : Scope) (dV kV doc pm cdv ct oc : Value) (an od : Option Addr) (osl : Array (Option Value)) (Ng : List Str),
    mg x = some (.ref g) ∧ PySem.W.keepIn K (.ref g) = true ∧
    K.lookup g = some ⟨oc, od, .func (PySem.W.fnOf x x pg [.Try [.Return (some (.Call (.Name a p1) [] [] p2)) p3] [.ExceptHandler (some (.Name e p4)) none [.Return (some (.Constant (.str ⟨ret.toArray⟩) j p5)) p6] p7] [] [] p8] sg dV kV doc pm an cdv ct), osl⟩ ∧
    PySem.W.codeIn K cdv x = true ∧
    L2.Binds K (PySem.W.fnOf x x pg [.Try [.Return (some (.Call (.Name a p1) [] [] p2)) p3] [.ExceptHandler (some (.Name e p4)) none [.Return (some (.Constant (.str ⟨ret.toArray⟩) j p5)) p6] p7] [] [] p8] sg dV kV doc pm an cdv ct) [a] [] ∧
    FnScope Ng [a] sg ∧ Ng[0]? = some a ∧ Vis sg a ∧ sg.names.lookup e = some .globalImplicit ∧ mg e = some (.ref CS) ∧ (e == ("__debug__" : Str)) = false ∧ (∀ f : Addr, (L2.start Ng [V.ref f])[0]? = some (some (V.ref f))) ∧
    (∀ c ∈ cs, PySem.W.exmOne K (.ref (tb.c c)) (.ref CS) = some true) ∧ (a == ("__debug__" : Str)) = false ∧ (a == ("__classdict__" : Str)) = false
section
variable {X : Cx} {tb : Tb} {W : WX}
/-- the body of a lambda that X makes, read -/
def LamB (X : Cx) (tb : Tb) (k : Nat) (l : LamD) (m : EM) : Prop := ∀ (A : Around) (outer : List Env) (s : Shared) (H : Hp) (E : XK) (f c' : Addr), Room k (A.deeper (LamX.lamEnv X l.sc s.heap.objs.size f c')) →
  PE (LamX.lamCx X A outer s H E l.sc f c') l.body (tM tb X.K (fun cls d _ H => E cls d H) m)
theorem told_call {x : Str} {cs ret : List Nat} {k : Nat} (d : ToldD X.K X.mg tb x cs ret) (hr : Room (k + 2) X.A) : ∃ g, X.mg x = some (.ref g) ∧ PySem.W.keepIn X.K (.ref g) = true ∧
    ∀ {pins : List (Addr × Obj)} {σ : L2.St} {H : Hp} {s : Shared} {f : Addr} {l : LamD} {m : EM} {Q : VK} {EE : Nat → Hp → Prop} {ρ : List Addr} {F : Hp} {M : Hs} {τ : Mi.Loc}, Inv X pins σ H s → LamOk X l → LamB X tb k l m → LamAt X H f l → Sim tb X.K ρ F M H → LocR X.K F ρ τ σ →
      RP tb X.K ρ F H EE (GM X.K Q) (mTold cs ret m τ M) → codeAny (model X.prog X.w) X.A (.call (.ref g) ⟨[.ref f], []⟩) (CR C8.CX0 X.stack X.prog X.w H s Q C8.E0) s := by
  obtain ⟨a, e, g, CS, j, p1, p2, p3, p4, p5, p6, p7, p8, pg, sg, dV, kV, doc, pm, cdv, ct, oc, an, od, osl, Ng, d1, d2, d3, d4, d5, d6, d7, d8, d9, d10, d11, d12, d13, d14, d15⟩ := d
  refine ⟨g, d1, d2, fun {pins σ H s f l m Q EE ρ F M τ} I lo hb ha S Lc p => ?_⟩
  obtain ⟨c', pm', ctv, ha1, ha2⟩ := ha
  have hG := LamX.told_gives (X := X) (a := a) (x := x) (g := g) (cdg := cdv) (q := X.env.qual ++ "<lambda>") (ret := ⟨ret.toArray⟩) (j := j) (p1 := p1) (p2 := p2) (p3 := p3) (p4 := p4) (p5 := p5) (p6 := p6) (p7 := p7) (p8 := p8) d9 d10 d11 d12
  refine LamX.run_ofS (N := Ng) (ps := [a]) (us := [.ref f]) (vs := [.ref f]) d3 d4 d6 hr I.env0 (d5 s [.ref f] I.kIn rfl) (.cons rfl .nil) rfl fun hr' => ?_
  obtain ⟨t', ht', hq'⟩ := hG f c' s H Q (fun E H' Q' => H' f = some (LamO f (lamObj X l pm' c' ctv)) ∧ tM tb X.K (fun cls d _ H => E cls d H) m σ H' Q')
    (fun W pn xe E p1 p2 tk hW => pe_imp (pe_actT (i := 0) (l := l) (f := f) (c' := c') (pm := pm') (ctv := ctv) I lo tk hW hr' (fun A outer s H hr2 => hb A outer s H E f c' hr2) d7 d8 d14 d15) fun σZ HZ QZ ⟨h1, h2, h3, h4⟩ => ⟨h1, h2, h3, h4⟩) ha2 (by
      refine ⟨ha1, ρ, F, M, τ, S, Lc, ?_⟩
      unfold mTold at p
      cases em : m τ M with
      | ok t M1 => rw [em] at p; exact p
      | bad => rw [em] at p; exact p
      | ex c M1 =>
        rw [em] at p
        dsimp only at p
        split at p
        case isFalse => exact p.elim
        rename_i hc
        intro ρ2 F2 H2 e2 S2
        exact ⟨true, d13 c (List.contains_iff_mem.mp hc), fun _ => p ρ2 F2 H2 e2 S2 _ (.str ret), fun z => by cases z⟩)
  exact ⟨t', ht'.nox, hq'⟩
theorem mE_told {x : Str} {cs ret : List Nat} {c P : Addr} {nm : Nat → Nat → Str} {k : Nat} {params : Arguments} {body : Expr} {scope : Scope} {m : EM} {p lpos pos : Pos} (d : ToldD X.K X.mg tb x cs ret) (TX : TabX X tb.T c P nm) (hr : Room (k + 2) X.A) (lo : LamOk X ⟨params, body, scope⟩)
    (hbody : LamB X tb k ⟨params, body, scope⟩ m) (hg : Gl X x := by rfl) (hnm : nm lpos.line lpos.col = X.env.qual ++ "<lambda>" := by rfl) (hdb : (x == ("__debug__" : Str)) = false := by decide) :
    PE X (.Call (.Name x p) [.Lambda params body scope lpos] [] pos) (tM tb X.K W (mTold cs ret m)) := by
  refine ⟨fun pins s σ H Q I h => ?_⟩
  obtain ⟨ρ, F, M, τ, S, Lc, q⟩ := h
  obtain ⟨g, d1, d2, dc⟩ := told_call (k := k) d hr
  refine wpAny_Call_Name_kw (ld_glob I hg d1 ?_ hdb)
  refine PySem.W.callWith_K (h₀ := X.base) I.ok.mod.kin d2 ?_ (by rfl) (by rfl)
  show wpAny _ _ (spliced ((false, eval (.Lambda params body scope lpos) X.env) :: backTo pos (starEach [] X.env))) _ _ s
  refine Calls.spliced_cons (lam_makeT (l := ⟨params, body, scope⟩) I TX lo hnm S.tab fun f H1 s' I1 eN T1 ha => ?_)
  refine Calls.spliced_nil ⟨I1.kIn, ?_⟩
  obtain ⟨S1, e1⟩ := S.grow eN T1
  refine wpAny_call (codeAny_mono (dc I1 lo hbody ha S1 (Lc.mono e1) (q.mono e1)) fun r s2 hq => ?_)
  cases r with
  | error e => exact (show False from hq).elim
  | ok fl =>
    cases fl with
    | ret u => exact I1.after hq
    | next => exact False.elim hq
    | brk => exact False.elim hq
    | cont => exact False.elim hq
end
end Mi
namespace Mi
open PySem PySem.Spec PyProof.Rows L2

/-! ### list comprehensions -/
def mYes : TM := fun _ M => .ok true M
def wipeT (τ : Mi.Loc) : List Nat → Mi.Loc
  | [] => τ
  | v :: vs => (wipeT τ vs).set v .un
def lcT (g : TgP) (c : TM) (e : EM) (τ : Mi.Loc) (t : T) (k : Hs → Res (List T)) : Hs → Res (List T) := fun M => match g t τ with
  | none => .bad
  | some τ1 => (c τ1 M).bind fun b M1 => if b then (e τ1 M1).bind fun v M2 => (k M2).bind fun r M3 => .ok (v :: r) M3 else k M1
def lcL (g : TgP) (c : TM) (e : EM) (τ : Mi.Loc) : List T → Hs → Res (List T)
  | [], M => .ok [] M
  | t :: ts, M => lcT g c e τ t (lcL g c e τ ts) M
def lcF (g : TgP) (c : TM) (e : EM) (τ : Mi.Loc) (nx : Nat → Hs → Option (Option T)) : Nat → Nat → Hs → Res (List T)
  | 0, _, _ => .bad
  | n + 1, i, M => match nx i M with
    | none => .bad
    | some none => .ok [] M
    | some (some t) => lcT g c e τ t (lcF g c e τ nx n (i + 1)) M
def lcS (g : TgP) (c : TM) (e : EM) (τ : Mi.Loc) : Src → Hs → Res (List T)
  | .l ts, M => lcL g c e τ ts M
  | .f nx, M => lcF g c e τ nx 1000000 0 M
/-- for what may not raise -/
def lcK {α : Type} (k : List T → Hs → Res α) : Res (List T) → Res α
  | .ok ts M => if ts.length ≤ lineN then k ts M else .bad
  | _ => .bad
def mLC (it : IM) (ws : List Nat) (g : TgP) (c : TM) (e : EM) : EM := fun τ M => (it τ M).bind fun src M1 => lcK (fun ts M2 => .ok (.lst ts) M2) (lcS g c e (wipeT τ ws) src M1)
def mLCR (it : IM) (ws : List Nat) (g : TgP) (c : TM) (e : EM) : EM := fun τ M => (it τ M).bind fun src M1 => lcK (fun ts M2 => .ok (.ref M2.length) (M2 ++ [.lst ts])) (lcS g c e (wipeT τ ws) src M1)

theorem wipe_wipe {σ : L2.St} {ws : List Nat} : ∀ {vs : List Nat}, (∀ v ∈ vs, v ∈ ws) → wipe (wipe σ vs) ws = wipe σ ws
  | [], _ => rfl
  | v :: vs, h => by
    show wipe ((wipe σ vs).set v none) ws = _
    rw [wipe_set (h v List.mem_cons_self), wipe_wipe fun u hu => h u (List.mem_cons_of_mem _ hu)]
abbrev W0 : WX := fun _ _ _ _ => False
section
variable {X : Cx} {tb : Tb} {W : WX} {σ : L2.St} {H H' : Hp} {K : PySem.W.Frag} {ρ ρ' : List Addr} {F F' : Hp} {M : Hs} {τ : Mi.Loc}
theorem LocR.un (L : LocR K F ρ τ σ) (i : Nat) : LocR K F ρ (τ.set i .un) (σ.set i none) := by
  refine ⟨by simp [L.len], fun j u h => ?_⟩
  by_cases hj : i = j
  · subst hj
    have hl : i < τ.length := by simpa using (List.getElem?_eq_some_iff.mp h).1
    rw [List.getElem?_set_self hl] at h
    exact .inl (Option.some.inj h).symm
  · rw [List.getElem?_set_ne hj] at h
    rw [List.getElem?_set_ne hj]
    exact L.at_ j u h
theorem LocR.wipe (L : LocR K F ρ τ σ) : ∀ ws, LocR K F ρ (wipeT τ ws) (L2.wipe σ ws)
  | [] => L
  | v :: vs => (LocR.wipe L vs).un v
/-- a thing that the walk keeps for itself changes -/
theorem Ext.late {D : Addr} {o : HO} (e : Ext ρ F H ρ' F' H') (h : H D = none) (ho : NT o) : Ext ρ F H ρ' F' (upd H' D o) :=
  ⟨e.r, e.n, e.f, fun a u q k m => by rw [upd_ne (ne_of_none q h)]; exact e.h a u q k m, fun a u q k => by rw [upd_ne (ne_of_none q h)]; exact e.t a u q k, e.g⟩
theorem Sim.late {D : Addr} {o : HO} {acc : List V} (S : Sim tb K ρ F M H) (hF : F D = none) (hr : D ∉ ρ) (hH : H D = none ∨ H D = some (.lst acc)) : Sim tb K ρ F M (upd H D o) := by
  refine ⟨fun a u e => (S.sub a u e).keep fun z h => ?_, S.len, S.nd, S.fr, fun i ob a h1 h2 => ?_, S.nt, fun p hp => ?_⟩
  · rw [upd_ne (ne_of_none e hF)]; exact h
  · refine (S.ob i ob a h1 h2).mono (Ext.refl (H := H)) (upd_ne fun z => hr ?_)
    rw [← z]
    exact List.mem_of_getElem? h2
  · obtain ⟨ps, h1, h2, h3⟩ := S.tab p hp
    refine ⟨ps, ?_, h2, fun pos cv hc => ?_⟩
    · rw [upd_ne fun z => ?_]
      · exact h1
      · rw [z] at h1; rcases hH with q | q <;> rw [q] at h1 <;> cases h1
    · obtain ⟨c, e1, e2⟩ := h3 pos cv hc
      refine ⟨c, e1, ?_⟩
      rw [upd_ne fun z => ?_]
      · exact e2
      · rw [z] at e2; rcases hH with q | q <;> rw [q] at e2
        · cases e2
        · unfold LamX.CodeO at e2; cases e2
theorem Sim.none_of (S : Sim tb K ρ F M H) {p : Addr} (hp : H p = none) : F p = none ∧ p ∉ ρ := by
  constructor
  · cases e : F p with
    | none => rfl
    | some u =>
      obtain ⟨z, q⟩ := (S.sub _ _ e).there
      rw [q] at hp; cases hp
  · intro m
    obtain ⟨o, e⟩ := S.mem m
    rw [hp] at e; cases e
/-- what is kept for oneself stays so -/
theorem Ext.keepD {D : Addr} {o : HO} (e : Ext ρ F H ρ' F' H') (k : NT o) (h : H D = some o) (hF : F D = none) (hr : D ∉ ρ) : H' D = some o ∧ F' D = none ∧ D ∉ ρ' := by
  refine ⟨e.h D o h k hr, ?_, fun m => ?_⟩
  · cases q : F' D with
    | none => rfl
    | some u =>
      rcases e.g D u q with z | z
      · rw [hF] at z; cases z
      · exact (z o h k).elim
  · rcases e.n D m with z | z
    · exact hr z
    · exact z o h k
/-- the state of the walk: acc, what stands in the new list -/
structure LcA (tb : Tb) (K : PySem.W.Frag) (ρ : List Addr) (F H : Hp) (D : Addr) (ρ1 : List Addr) (F1 : Hp) (M1 : Hs) (H1 : Hp) (accT : List T) : Prop where
  e : Ext ρ F H ρ1 F1 H1
  S : Sim tb K ρ1 F1 M1 H1
  f : F1 D = none
  r : D ∉ ρ1
  a : ∃ accV, H1 D = some (.lst accV) ∧ RepL K F1 ρ1 accT accV
theorem LcA.step {D : Addr} {ρ1 ρ2 : List Addr} {F1 F2 : Hp} {M1 M2 : Hs} {H1 H2 : Hp} {accT : List T} (A : LcA tb K ρ F H D ρ1 F1 M1 H1 accT) (e : Ext ρ1 F1 H1 ρ2 F2 H2) (S : Sim tb K ρ2 F2 M2 H2) : LcA tb K ρ F H D ρ2 F2 M2 H2 accT := by
  obtain ⟨accV, h1, h2⟩ := A.a
  obtain ⟨k1, k2, k3⟩ := e.keepD (fun _ z => by cases z) h1 A.f A.r
  exact ⟨A.e.trans e, S, k2, k3, accV, k1, h2.mono e⟩
theorem LcA.push {D : Addr} {ρ1 : List Addr} {F1 : Hp} {M1 : Hs} {H1 : Hp} {accT : List T} (hD : H D = none) (A : LcA tb K ρ F H D ρ1 F1 M1 H1 accT) {t : T} {v : V} (r : Rep K F1 ρ1 t v) :
    ∃ acc, H1 D = some (.lst acc) ∧ acc.length = accT.length ∧ LcA tb K ρ F H D ρ1 F1 M1 (upd H1 D (.lst (acc ++ [v]))) (accT ++ [t]) := by
  obtain ⟨accV, h1, h2⟩ := A.a
  exact ⟨accV, h1, h2.length.symm, A.e.late hD (fun _ z => by cases z), A.S.late A.f A.r (.inr h1), A.f, A.r, _, upd_same, h2.append (.cons _ _ _ _ r .nil)⟩
theorem lc_turn {ws : List Nat} {g : TgP} {c : TM} {e : EM} {D : Addr} {ρ1 : List Addr} {F1 F2 : Hp} {M1 Mend : Hs} {H1 H2 : Hp} {accT r : List T} {t : T} {x : V} {k : Hs → Res (List T)} {N : Hp → Prop} (hD : H D = none) (L : LocR K F ρ τ σ) (A : LcA tb K ρ F H D ρ1 F1 M1 H1 accT)
    (e2 : Ext ρ1 F1 H1 ρ1 F2 H2) (S2 : Sim tb K ρ1 F2 M1 H2) (rx : Rep K F2 ρ1 t x) (p : lcT g c e (wipeT τ ws) t k M1 = .ok r Mend) (hl : accT.length + r.length ≤ lineN)
    (fin : ∀ ρ3 F3 M3 H3 accT' r', LcA tb K ρ F H D ρ3 F3 M3 H3 accT' → k M3 = .ok r' Mend → accT' ++ r' = accT ++ r → N H3) :
    tGP K ws g x (wipe σ ws) H2 fun σ2 H2 => wipe σ2 ws = wipe σ ws ∧ tTM tb K W0 c σ2 H2 fun b H3 => if b = true then tM tb K W0 e σ2 H3 fun y H4 => ∃ acc, H4 D = some (.lst acc) ∧ acc.length < sizeLine ∧ N (upd H4 D (.lst (acc ++ [y]))) else N H3 := by
  have A2 := A.step e2 S2
  unfold lcT at p
  cases eg : g t (wipeT τ ws) with
  | none => rw [eg] at p; cases p
  | some τ1 =>
  rw [eg] at p
  dsimp only at p
  refine ⟨ρ1, F2, wipeT τ ws, τ1, t, S2.sub, ((L.wipe ws).mono A2.e), rx, eg, fun σ2 L2' hw => ⟨hw.trans (wipe_wipe fun _ h => h), ρ1, F2, M1, τ1, S2, L2', ?_⟩⟩
  cases ec : c τ1 M1 with
  | bad => rw [ec] at p; cases p
  | ex _ _ => rw [ec] at p; cases p
  | ok b M2 =>
  rw [ec] at p
  simp only [Res.bind] at p
  intro ρ3 F3 H3 e3 S3
  have A3 := A2.step e3 S3
  cases b with
  | false => exact fin ρ3 F3 M2 H3 accT r A3 p rfl
  | true =>
    rw [if_pos rfl] at p
    dsimp only
    rw [if_pos rfl]
    cases ee : e τ1 M2 with
    | bad => rw [ee] at p; cases p
    | ex _ _ => rw [ee] at p; cases p
    | ok v M3 =>
    rw [ee] at p
    simp only [Res.bind] at p
    refine ⟨ρ3, F3, M2, τ1, S3, L2'.mono e3, ?_⟩
    rw [ee]
    intro ρ4 F4 H4 e4 S4 y ry
    have A4 := A3.step e4 S4
    cases ek : k M3 with
    | bad => rw [ek] at p; cases p
    | ex _ _ => rw [ek] at p; cases p
    | ok r' M4 =>
    rw [ek] at p
    cases p
    obtain ⟨acc, h1, h2, A5⟩ := A4.push hD ry
    refine ⟨acc, h1, ?_, fin _ _ _ _ _ r' A5 ek (by simp)⟩
    rw [← lineN_eq, h2]
    rw [List.length_cons] at hl
    omega
theorem lc_loop {ws : List Nat} {g : TgP} {c : TM} {e : EM} {J : It} {src : Src} {D : Addr} {all : List T} {Mend : Hs} {Qd : Hp → Prop} (S : Sim tb K ρ F M H) (L : LocR K F ρ τ σ) (hJ : Its tb K J ρ F H src) (hD : H D = none) (p : lcS g c e (wipeT τ ws) src M = .ok all Mend) (hl : all.length ≤ lineN)
    (fin : ∀ ρ' F' H', LcA tb K ρ F H D ρ' F' Mend H' all → Qd H') :
    ∃ Wv : Nat → Nat → Hp → Prop, (∃ m, Wv 0 m (upd H D (.lst []))) ∧ ∀ i m H, Wv i m H → (J.stop i H ∧ Qd H) ∨ (J.go i H ∧ ∃ Nx : Hp → Prop, (∀ H', Nx H' → ∃ m', m' < m ∧ Wv (i + 1) m' H') ∧ ∀ x H', J.yld i H x H' →
      tGP K ws g x (wipe σ ws) H' fun σ2 H2 => wipe σ2 ws = wipe σ ws ∧ tTM tb K W0 c σ2 H2 fun b H3 => if b = true then tM tb K W0 e σ2 H3 fun y H4 => ∃ acc, H4 D = some (.lst acc) ∧ acc.length < sizeLine ∧ Nx (upd H4 D (.lst (acc ++ [y]))) else Nx H3) := by
  obtain ⟨hF, hr⟩ := S.none_of hD
  have A0 : LcA tb K ρ F H D ρ F M (upd H D (.lst [])) [] := ⟨(Ext.refl).late hD (fun _ z => by cases z), S.late (acc := []) hF hr (.inl hD), hF, hr, [], upd_same, .nil⟩
  cases src with
  | l ts =>
    refine ⟨fun i m H' => ∃ ρ1 F1 M1 accT r, LcA tb K ρ F H D ρ1 F1 M1 H' accT ∧ m + i = ts.length ∧ lcL g c e (wipeT τ ws) (ts.drop i) M1 = .ok r Mend ∧ accT ++ r = all, ⟨ts.length, ρ, F, M, [], all, A0, rfl, by rw [List.drop_zero]; exact p, rfl⟩, ?_⟩
    rintro i m H1 ⟨ρ1, F1, M1, accT, r, A, hm, p1, ha⟩
    obtain ⟨h1, h2⟩ := hJ i ρ1 F1 M1 H1 A.e A.S
    by_cases hi : i < ts.length
    · rw [List.drop_eq_getElem_cons hi] at p1
      obtain ⟨go, yl⟩ := h1 _ (List.getElem?_eq_getElem hi)
      refine .inr ⟨go, fun H' => ∃ ρ1 F1 M1 accT r, LcA tb K ρ F H D ρ1 F1 M1 H' accT ∧ (m - 1) + (i + 1) = ts.length ∧ lcL g c e (wipeT τ ws) (ts.drop (i + 1)) M1 = .ok r Mend ∧ accT ++ r = all, fun H' q => ⟨m - 1, by omega, q⟩, fun x H' y => ?_⟩
      obtain ⟨F2, e2, S2, r2⟩ := yl x H' y
      refine lc_turn (k := lcL g c e (wipeT τ ws) (ts.drop (i + 1))) hD L A e2 S2 r2 p1 (by rw [← List.length_append, ha]; exact hl) fun ρ3 F3 M3 H3 accT' r' A3 k3 a3 => ⟨ρ3, F3, M3, accT', r', A3, by omega, k3, a3.trans ha⟩
    · have hi' : i = ts.length := by omega
      rw [List.drop_eq_nil_of_le (by omega)] at p1
      cases p1
      rw [List.append_nil] at ha
      subst ha
      exact .inl ⟨h2 hi', fin _ _ _ A⟩
  | f nx =>
    refine ⟨fun i m H' => ∃ ρ1 F1 M1 accT r, LcA tb K ρ F H D ρ1 F1 M1 H' accT ∧ lcF g c e (wipeT τ ws) nx m i M1 = .ok r Mend ∧ accT ++ r = all, ⟨1000000, ρ, F, M, [], all, A0, p, rfl⟩, ?_⟩
    rintro i m H1 ⟨ρ1, F1, M1, accT, r, A, p1, ha⟩
    obtain ⟨h1, h2⟩ := hJ i ρ1 F1 M1 H1 A.e A.S
    cases m with
    | zero => cases p1
    | succ m =>
      unfold lcF at p1
      cases en : nx i M1 with
      | none => rw [en] at p1; cases p1
      | some o =>
        rw [en] at p1
        cases o with
        | none =>
          cases p1
          rw [List.append_nil] at ha
          subst ha
          exact .inl ⟨h2 en, fin _ _ _ A⟩
        | some t =>
          obtain ⟨go, yl⟩ := h1 _ en
          refine .inr ⟨go, fun H' => ∃ ρ1 F1 M1 accT r, LcA tb K ρ F H D ρ1 F1 M1 H' accT ∧ lcF g c e (wipeT τ ws) nx m (i + 1) M1 = .ok r Mend ∧ accT ++ r = all, fun H' q => ⟨m, Nat.lt_succ_self m, q⟩, fun x H' y => ?_⟩
          obtain ⟨F2, e2, S2, r2⟩ := yl x H' y
          exact lc_turn (k := lcF g c e (wipeT τ ws) nx m (i + 1)) hD L A e2 S2 r2 p1 (by rw [← List.length_append, ha]; exact hl) fun ρ3 F3 M3 H3 accT' r' A3 k3 a3 => ⟨ρ3, F3, M3, accT', r', A3, k3, a3.trans ha⟩
/-- the list is then known as fixed -/
theorem LcA.fix {D : Addr} {ρ1 : List Addr} {F1 : Hp} {M1 : Hs} {H1 : Hp} {all : List T} (hD : H D = none) (A : LcA tb K ρ F H D ρ1 F1 M1 H1 all) : ∃ F2, Ext ρ F H ρ1 F2 H1 ∧ Sim tb K ρ1 F2 M1 H1 ∧ Rep K F2 ρ1 (.lst all) (.ref D) := by
  obtain ⟨accV, h1, h2⟩ := A.a
  have f0 := A.f
  have fk : ∀ a o, F1 a = some o → upd F1 D (.lst accV) a = some o := fun a o e => by rw [upd_ne (ne_of_none e f0)]; exact e
  have ex : Ext ρ1 F1 H ρ1 (upd F1 D (.lst accV)) H := ⟨⟨[], (List.append_nil _).symm⟩, fun _ h => .inl h, fk, fun _ _ h _ _ => h, fun a o h k => ⟨o, h, k⟩, fun a o e => by
    by_cases q : a = D
    · subst q; exact .inr fun o z => by rw [hD] at z; cases z
    · rw [upd_ne q] at e; exact .inl e⟩
  refine ⟨upd F1 D (.lst accV), ⟨A.e.r, A.e.n, fun a o e => fk a o (A.e.f a o e), A.e.h, A.e.t, fun a o e => ?_⟩, ⟨fun a o e => ?_, A.S.len, A.S.nd, fun a ha => ?_, fun i ob a q1 q2 => (A.S.ob i ob a q1 q2).mono ex rfl, fun a o e => ?_, A.S.tab⟩, .lst all accV D upd_same (h2.mono ex)⟩
  · by_cases q : a = D
    · subst q; exact .inr fun o z => by rw [hD] at z; cases z
    · rw [upd_ne q] at e; exact A.e.g a o e
  · by_cases q : a = D
    · subst q; rw [upd_same] at e; cases e; exact .inl h1
    · rw [upd_ne q] at e; exact A.S.sub a o e
  · rw [upd_ne fun z => A.r (by rw [← z]; exact ha)]; exact A.S.fr a ha
  · by_cases q : a = D
    · subst q; rw [upd_same] at e; cases e; exact fun _ z => by cases z
    · rw [upd_ne q] at e; exact A.S.nt a o e
theorem LcA.var {D : Addr} {ρ1 : List Addr} {F1 : Hp} {M1 : Hs} {H1 : Hp} {all : List T} (hD : H D = none) (A : LcA tb K ρ F H D ρ1 F1 M1 H1 all) :
    Ext ρ F H (ρ1 ++ [D]) F1 H1 ∧ Sim tb K (ρ1 ++ [D]) F1 (M1 ++ [.lst all]) H1 ∧ Rep K F1 (ρ1 ++ [D]) (.ref M1.length) (.ref D) := by
  obtain ⟨accV, h1, h2⟩ := A.a
  have ex : Ext ρ1 F1 H (ρ1 ++ [D]) F1 H := Ext.grow hD fun _ _ h => h
  have S := A.S
  refine ⟨⟨?_, fun a m => ?_, A.e.f, A.e.h, A.e.t, A.e.g⟩, ⟨S.sub, by simp [S.len], ?_, fun a ha => ?_, fun i o a q1 q2 => ?_, S.nt, S.tab⟩, .ref _ _ (by rw [← S.len, List.getElem?_append_right (Nat.le_refl _), Nat.sub_self]; rfl)⟩
  · obtain ⟨l, hl⟩ := A.e.r
    exact ⟨l ++ [D], by rw [hl, List.append_assoc]⟩
  · rcases List.mem_append.mp m with m | m
    · exact A.e.n a m
    · rw [List.mem_singleton] at m
      subst m
      exact .inr fun o z => by rw [hD] at z; cases z
  · rw [List.nodup_append]
    refine ⟨S.nd, by simp, fun a ha b hb e => ?_⟩
    rw [List.mem_singleton] at hb
    subst hb; subst e
    exact A.r ha
  · rcases List.mem_append.mp ha with q | q
    · exact S.fr a q
    · rw [List.mem_singleton] at q; subst q; exact A.f
  · by_cases hi : i < M1.length
    · rw [List.getElem?_append_left hi] at q1
      rw [List.getElem?_append_left (by rw [S.len]; exact hi)] at q2
      exact (S.ob i o a q1 q2).mono ex rfl
    · have e1 : i = M1.length := by
        have := (List.getElem?_eq_some_iff.mp q1).1
        rw [List.length_append, List.length_singleton] at this
        omega
      subst e1
      rw [List.getElem?_append_right (Nat.le_refl _), Nat.sub_self] at q1
      rw [List.getElem?_append_right (by rw [S.len]; exact Nat.le_refl _), S.len, Nat.sub_self] at q2
      simp only [List.getElem?_cons_zero, Option.some.injEq] at q1 q2
      subst q1; subst q2
      exact ⟨accV, h1, h2.mono ex⟩
theorem lc_of {it : IM} {ws : List Nat} {g : TgP} {c : TM} {e : EM} {Q : VK} (h : tM tb K W (mLC it ws g c e) σ H Q) : tLc (tI tb K W it) (tGP K ws g) (tTM tb K W0 c) (tM tb K W0 e) ws σ H Q := by
  obtain ⟨ρ, F, M, τ, S, L, p⟩ := h
  refine ⟨ρ, F, M, τ, S, L, (RP.bind p).imp fun src ρ1 F1 H1 e1 q J hJ D hD => ?_⟩
  obtain ⟨M1, _, S1, p1⟩ := q
  cases el : lcS g c e (wipeT τ ws) src M1 with
  | bad => rw [el] at p1; exact p1.elim
  | ex _ _ => rw [el] at p1; exact p1.elim
  | ok ts M2 =>
  rw [el] at p1
  simp only [lcK] at p1
  split at p1
  case isFalse => exact p1.elim
  rename_i hl
  refine lc_loop S1 (L.mono e1) hJ hD el hl fun ρ' F' H' A => ?_
  obtain ⟨F2, e2, S2, r2⟩ := A.fix hD
  exact p1 ρ' F2 H' e2 S2 _ r2
theorem lc_ofR {it : IM} {ws : List Nat} {g : TgP} {c : TM} {e : EM} {Q : VK} (h : tM tb K W (mLCR it ws g c e) σ H Q) : tLc (tI tb K W it) (tGP K ws g) (tTM tb K W0 c) (tM tb K W0 e) ws σ H Q := by
  obtain ⟨ρ, F, M, τ, S, L, p⟩ := h
  refine ⟨ρ, F, M, τ, S, L, (RP.bind p).imp fun src ρ1 F1 H1 e1 q J hJ D hD => ?_⟩
  obtain ⟨M1, _, S1, p1⟩ := q
  cases el : lcS g c e (wipeT τ ws) src M1 with
  | bad => rw [el] at p1; exact p1.elim
  | ex _ _ => rw [el] at p1; exact p1.elim
  | ok ts M2 =>
  rw [el] at p1
  simp only [lcK] at p1
  split at p1
  case isFalse => exact p1.elim
  rename_i hl
  refine lc_loop S1 (L.mono e1) hJ hD el hl fun ρ' F' H' A => ?_
  obtain ⟨e2, S2, r2⟩ := A.var hD
  exact p1 _ _ H' e2 S2 _ r2
theorem mT_yes : PTs X [] (tTM tb X.K W mYes) := ⟨fun pins s σ H Q I ⟨ρ, F, M, τ, S, L, p⟩ => pts_nil.run pins s σ H Q I (RP.here S p)⟩
theorem mE_lc {own : List (Str × Nat)} {elt tg iter : Expr} {ifs : List Expr} {scope : Scope} {pos : Pos} {it : IM} {g : TgP} {c : TM} {e : EM} (hN : X.N.Nodup) (hi : PI X tg iter (tI tb X.K W it)) (ok : BlkOk X.N X.env.scope scope own)
    (hg : ∀ (s : Shared) (H : Hp) (C : Addr) (cl : List (Str × Addr)) (fp : List Addr), PG (X.blk s H scope (compEnvC scope cl C X.env) fp) tg (tGP X.K (own.map (·.2)) g))
    (ht : ∀ (s : Shared) (H : Hp) (C : Addr) (cl : List (Str × Addr)) (fp : List Addr), PTs (X.blk s H scope (compEnvC scope cl C X.env) fp) ifs (tTM tb X.K W0 c))
    (he : ∀ (s : Shared) (H : Hp) (C : Addr) (cl : List (Str × Addr)) (fp : List Addr), PE (X.blk s H scope (compEnvC scope cl C X.env) fp) elt (tM tb X.K W0 e)) (hc : X.calm = true := by rfl) (hs : ∀ x, foldedSetIterable iter X.env x = pure x := by intro _; rfl) :
    PE X (.ListComp elt [⟨tg, iter, ifs, 0⟩] scope pos) (tM tb X.K W (mLC it (own.map (·.2)) g c e)) := pe_imp (pe_lc hc hN hi ok hg ht he hs) fun _ _ _ h => lc_of h
theorem mE_lcR {own : List (Str × Nat)} {elt tg iter : Expr} {ifs : List Expr} {scope : Scope} {pos : Pos} {it : IM} {g : TgP} {c : TM} {e : EM} (hN : X.N.Nodup) (hi : PI X tg iter (tI tb X.K W it)) (ok : BlkOk X.N X.env.scope scope own)
    (hg : ∀ (s : Shared) (H : Hp) (C : Addr) (cl : List (Str × Addr)) (fp : List Addr), PG (X.blk s H scope (compEnvC scope cl C X.env) fp) tg (tGP X.K (own.map (·.2)) g))
    (ht : ∀ (s : Shared) (H : Hp) (C : Addr) (cl : List (Str × Addr)) (fp : List Addr), PTs (X.blk s H scope (compEnvC scope cl C X.env) fp) ifs (tTM tb X.K W0 c))
    (he : ∀ (s : Shared) (H : Hp) (C : Addr) (cl : List (Str × Addr)) (fp : List Addr), PE (X.blk s H scope (compEnvC scope cl C X.env) fp) elt (tM tb X.K W0 e)) (hc : X.calm = true := by rfl) (hs : ∀ x, foldedSetIterable iter X.env x = pure x := by intro _; rfl) :
    PE X (.ListComp elt [⟨tg, iter, ifs, 0⟩] scope pos) (tM tb X.K W (mLCR it (own.map (·.2)) g c e)) := pe_imp (pe_lc hc hN hi ok hg ht he hs) fun _ _ _ h => lc_ofR h
/-- name = [..] on one line -/
theorem mS_lc (i : Nat) {own : List (Str × Nat)} {y : Str} {py : Pos} {elt tg iter : Expr} {ifs : List Expr} {scope : Scope} {pos spos : Pos} {it : IM} {g : TgP} {c : TM} {e : EM} (R : Bool) (hN : X.N.Nodup) (hi : PI X tg iter (tI tb X.K W it)) (ok : BlkOk X.N X.env.scope scope own)
    (hg : ∀ (s : Shared) (H : Hp) (C : Addr) (cl : List (Str × Addr)) (fp : List Addr), PG (X.blk s H scope (compEnvC scope cl C X.env) fp) tg (tGP X.K (own.map (·.2)) g))
    (ht : ∀ (s : Shared) (H : Hp) (C : Addr) (cl : List (Str × Addr)) (fp : List Addr), PTs (X.blk s H scope (compEnvC scope cl C X.env) fp) ifs (tTM tb X.K W0 c))
    (he : ∀ (s : Shared) (H : Hp) (C : Addr) (cl : List (Str × Addr)) (fp : List Addr), PE (X.blk s H scope (compEnvC scope cl C X.env) fp) elt (tM tb X.K W0 e))
    (hsw : swapsWith (.ListComp elt [⟨tg, iter, ifs, 0⟩] scope pos) (some (.Name y py)) spos.line X.env = pure true) (hyl : X.env.scope.names.lookup y = some .local := by rfl) (hy : X.N[i]? = some y := by rfl) (hc : X.calm = true := by rfl) (hs : ∀ x, foldedSetIterable iter X.env x = pure x := by intro _; rfl) :
    PS X (.Assign [.Name y py] (.ListComp elt [⟨tg, iter, ifs, 0⟩] scope pos) spos) (tSM tb X.K W (mSet i (if R then mLCR it (own.map (·.2)) g c e else mLC it (own.map (·.2)) g c e))) := by
  refine ps_imp (ps_setLc hc hN hy hyl hsw hi ok hg ht he hs) fun D σ H h => ?_
  have h2 : ∀ m : EM, tSM tb X.K W (mSet i m) D σ H → tM tb X.K W m σ H fun x H1 => gName i x σ H1 D.nx := fun m h => by
    obtain ⟨ρ, F, M, τ, S, L, p⟩ := h
    refine ⟨ρ, F, M, τ, S, L, (SP1.st p).imp fun x ρ1 F1 H1 e1 q v r => ?_⟩
    obtain ⟨M1, _, S1, p1⟩ := q
    exact p1 ρ1 F1 H1 _ .refl S1 ((L.mono e1).set r i)
  cases R with
  | true => exact lc_ofR (h2 _ h)
  | false => exact lc_of (h2 _ h)
end
end Mi
namespace Mi
open PySem PySem.Spec PyProof.Rows L2

/-! ### a list of lambdas, each told -/
section
variable {X : Cx}
/-- a list comprehension whose test never holds: the tests may lean on the state in which the block began -/
def tLcN (wi : TI) (g : TG) (tt : TT) (vs : List Nat) : TE := fun σ H Q => wi σ H fun J H1 => ∀ D, H1 D = none → ∃ W : Nat → Nat → Hp → Prop, (∃ m, W 0 m (upd H1 D (.lst []))) ∧ ∀ i m H, W i m H →
  (J.stop i H ∧ Q (.ref D) H) ∨ (J.go i H ∧ ∃ Nx : Hp → Prop, (∀ H', Nx H' → ∃ m', m' < m ∧ W (i + 1) m' H') ∧ ∀ x H', J.yld i H x H' → g x (wipe σ vs) H' fun σ2 H2 => wipe σ2 vs = wipe σ vs ∧ tt σ2 H2 fun b H3 => b = false ∧ Nx H3)
theorem lc_none {pins : List (Addr × Obj)} {s : Shared} {σ : L2.St} {H : Hp} {Q : VK} {elt tg iter : Expr} {ifs : List Expr} {scope : Scope} {own : List (Str × Nat)} {pos : Pos} {wi : TI} {g : TG} {tt : TT}
    (hc : X.calm = true) (hN : X.N.Nodup) (I : Inv X pins σ H s) (hi : PI X tg iter wi) (ok : BlkOk X.N X.env.scope scope own)
    (hg : ∀ (s : Shared) (H : Hp) (C : Addr) (cl : List (Str × Addr)) (fp : List Addr), PG (X.blk s H scope (compEnvC scope cl C X.env) fp) tg g)
    (ht : ∀ (s : Shared) (H : Hp) (C : Addr) (cl : List (Str × Addr)) (fp : List Addr), (∀ p' σ' H' s', Inv (X.blk s H scope (compEnvC scope cl C X.env) fp) p' σ' H' s' → Inv X pins σ H' s') → PTs (X.blk s H scope (compEnvC scope cl C X.env) fp) ifs tt)
    (hs : ∀ x, foldedSetIterable iter X.env x = pure x) (h : tLcN wi g tt (own.map (·.2)) σ H Q) :
    wpAny (model X.prog X.w) X.A (eval (.ListComp elt [⟨tg, iter, ifs, 0⟩] scope pos) X.env) (EP X pins σ Q) X.xe s := by
  rw [eval_ListComp]
  have hfree : ∀ y ∈ scope.names, y.2 = .free → ∃ c, X.env.cells.lookup y.1 = some c := fun y hy e => (ok.free y hy e).elim (fun k => I.ok.has _ (.inl k)) fun k => I.ok.has _ (.inr k)
  refine wpAny_comprehension_free (use := none) rfl hs (closure_ok hfree) ok.kind (fun y hy e => by rw [ok.uniq y hy, e]) (thn (hi.run pins s σ H _ I h) fun xv s1 hx => thn hx fun itv s2 h2 => ?_)
  obtain ⟨it, fp, tn, J, H2, e, I2, T, st2, f2, q⟩ := h2
  subst e
  refine wpAny_newObj_type (newEnv_comp ?_) (by show 0 ≤ sizeLine; decide)
  have hDn : H2 s2.heap.objs.size = none := I2.hok.fresh (Nat.le_refl _)
  obtain ⟨Wv, ⟨m0, w0⟩, turn⟩ := q _ hDn
  generalize hs3 : ({ s2 with heap := s2.heap.push { cls := .type "list", data := .seq ([] : List Value).toArray } } : Shared) = s3
  have h3 : s3.heap = s2.heap.push { cls := .type "list", data := .seq ([] : List Value).toArray } := by rw [← hs3]
  have I3 : Inv X pins σ (upd H2 s2.heap.objs.size (.lst [])) s3 := by
    rw [← hs3]
    exact I2.laid (t' := s2.toks) (fun b o e => Heap.get?_push_of_some _ e) (Nat.le_refl _) ⟨Nat.zero_le _, [], 0, .nil, Heap.get?_push_size _ rfl⟩
  have f3 : ∀ b ∈ fp, FpOk X pins (upd H2 s2.heap.objs.size (.lst [])) b ∧ b < s3.heap.objs.size := fun b hb => by
    obtain ⟨o, e, _⟩ := T.obj _ _ st2 b hb
    have hlt := Heap.lt_size e
    refine ⟨⟨?_, (f2 b hb).2⟩, by rw [h3, Heap.size_push]; exact Nat.lt_succ_of_lt hlt⟩
    rw [upd_ne (Nat.ne_of_lt hlt)]
    exact (f2 b hb).1
  have st3 : tn 0 s3.heap := T.keep _ _ _ st2 fun b _ o e => by rw [h3]; exact Heap.get?_push_of_some _ e
  have I4 := block_start I3 ok hN f3
  have back : ∀ p' σ' H' s', Inv (X.blk s3 (upd H2 s2.heap.objs.size (.lst [])) scope (compEnvC scope (cellsFrom (s3.heap.objs.size + 1) scope.names (cloFrom X.env.cells scope.names [])) s3.heap.objs.size X.env) fp) p' σ' H' s' → Inv X pins σ H' s' :=
    fun p' σ' H' s' J => I3.call' (ch := fp) J.os J.base J.hok J.bare fun b hb => ⟨(f3 b hb).1.2.2.2.1, (f3 b hb).1.2.1, (f3 b hb).1.2.2.2.2.1, (f3 b hb).1.2.2.2.2.2⟩
  have pg := hg s3 (upd H2 s2.heap.objs.size (.lst [])) s3.heap.objs.size (cellsFrom (s3.heap.objs.size + 1) scope.names (cloFrom X.env.cells scope.names [])) fp
  have pt := ht s3 (upd H2 s2.heap.objs.size (.lst [])) s3.heap.objs.size (cellsFrom (s3.heap.objs.size + 1) scope.names (cloFrom X.env.cells scope.names [])) fp back
  show codeAny _ _ (.compStart (.ListComp elt [⟨tg, iter, ifs, 0⟩] scope pos) 0 (.ref it) (.ref s2.heap.objs.size) (compEnvC scope (cellsFrom (s3.heap.objs.size + 1) scope.names (cloFrom X.env.cells scope.names [])) s3.heap.objs.size X.env)) (compPost (model X.prog X.w) X.A X.xe none (EP X pins σ Q) (.ref s2.heap.objs.size) s3.heap.objs.size) { s3 with heap := pushCells (s3.heap.push { cls := .type "dict", data := .dict #[] }) scope.names }
  have nfp : ∀ b ∈ fp, (upd H2 s2.heap.objs.size (.lst [])) b = none := fun b hb => (f3 b hb).1.1
  generalize hce : compEnvC scope (cellsFrom (s3.heap.objs.size + 1) scope.names (cloFrom X.env.cells scope.names [])) s3.heap.objs.size X.env = ce at I4 pg pt back ⊢
  have cL : ce.locals = s3.heap.objs.size := by subst hce; rfl
  generalize s2.heap.objs.size = D at *
  generalize upd H2 D (.lst []) = H3 at *
  generalize hs4 : ({ s3 with heap := pushCells (s3.heap.push { cls := .type "dict", data := .dict #[] }) scope.names } : Shared) = s4 at I4 ⊢
  have st4 : tn 0 s4.heap := T.keep _ _ _ st3 fun b _ o e => by rw [← hs4]; exact pushCells_keeps _ _ _ _ (Heap.get?_push_of_some _ e)
  have stat : ∀ {σ' : L2.St} {H' : Hp} {s' : Shared}, Inv (X.blk s3 H3 scope ce fp) [] σ' H' s' → (∀ b ∈ fp, H' b = none) → ∀ b ∈ fp, FpOk (X.blk s3 H3 scope ce fp) [] H' b := fun {σ' H' s'} I' hn b hb =>
    ⟨hn b hb, (I'.ok.exf b hb).1, I'.ok.exfs b hb, .inl hb, fun x c e => (I'.ok.exf b hb).2 x c e, fun p hp => absurd (show p ∈ ([] : List (Addr × Obj)) ++ [] from hp) (by simp)⟩
  have loop : codeAny (model X.prog X.w) X.A (.compLoop (.ListComp elt [⟨tg, iter, ifs, 0⟩] scope pos) 0 (.ref it) (.ref D) ce) (compPost (model X.prog X.w) X.A X.xe none (EP X pins σ Q) (.ref D) s3.heap.objs.size) s4 := by
    refine compLoop_any (fun n s' => ∃ i H', Inv (X.blk s3 H3 scope ce fp) [] (wipe σ (own.map (·.2))) H' s' ∧ tn i s'.heap ∧ (∀ b ∈ fp, H' b = none) ∧ Wv i n H') ?_ m0 ⟨0, H3, I4, st4, nfp, w0⟩
    rintro n s5 ⟨i, H5, I5, st5, n5, w5⟩
    rcases turn i n H5 w5 with ⟨stop, qq⟩ | ⟨go, Nx, hNx, step⟩
    · refine thnF (T.done (X.blk s3 H3 scope ce fp) rfl rfl rfl hc i [] s5 _ H5 (fun _ _ => False) I5 (stat I5 n5) st5 stop) fun r s6 ⟨hr, I6⟩ => ?_
      subst hr
      have I7 := back _ _ _ _ I6
      have nC : H5 s3.heap.objs.size = none := by rw [← cL]; exact I6.free
      obtain ⟨m, hn, _⟩ := I6.loc
      have hn : s6.heap.Ns ce.locals m := hn
      rw [cL] at hn
      obtain ⟨f0, f1, f2', f3', f4, f5⟩ := I3.fpOk (H' := H5) (Nat.le_refl _) nC
      exact ⟨m, hn, fun h'' sb => ⟨.ref D, H5, I7.turned (t' := s6.toks) (fun b o hb e => (sb.2 b hb).trans e) f0 f1 f3' f4 f5, rfl, qq⟩⟩
    · refine thnF (T.item (X.blk s3 H3 scope ce fp) rfl rfl rfl hc i [] s5 _ H5 (fun _ _ => False) I5 (stat I5 n5) st5 go) fun r s6 ⟨u, hr, h6⟩ => ?_
      subst hr
      refine thnF h6 fun _ s7 ⟨x, H7, I7, r7, y7, st7, n7⟩ => ?_
      refine thnF (pg.run _ s7 _ H7 x u _ (I7.pinned (stat I7 n7) (T.obj _ _ st7)) r7 (step x H7 y7)) fun _ s8 ⟨σ8, H8, I8, hw8, q8⟩ => ?_
      refine thnF (pt.run _ s8 σ8 H8 _ I8 q8) fun b s9 ⟨H9, I9, eb, nx⟩ => ?_
      subst eb
      simp only [Bool.false_eq_true, if_false]
      obtain ⟨m', hm, w'⟩ := hNx H9 nx
      have pin' : ∀ b ∈ fp, ∀ o, s7.heap.get? b = some o → s9.heap.get? b = some o ∧ H9 b = none := fun b hb o e =>
        let z := I9.pin (b, o) (List.mem_append_right _ (List.mem_append_right _ (mem_pinsAt hb e)))
        ⟨z.1, z.2.1⟩
      have hl : (wipe σ (own.map (·.2))).length = σ8.length := by rw [← hw8, wipe_length]
      refine ⟨m', hm, i + 1, H9, (I9.unpinned (pins := [])).weak hl (fun j v e => ?_), T.keep _ _ _ st7 fun b hb o e => (pin' b hb o e).1, fun b hb => ?_, w'⟩
      · rw [← hw8] at e
        exact (wipe_some e).1
      · obtain ⟨o, e, _⟩ := T.obj _ _ st7 b hb
        exact (pin' b hb o e).2
  exact codeAny_compStart_list loop (T.self X.A 0 _ _ _ st4 loop)
end

inductive LamBs (X : Cx) (tb : Tb) (k : Nat) : List LamD → List EM → Prop
  | nil : LamBs X tb k [] []
  | cons (l : LamD) (m : EM) (ls : List LamD) (ms : List EM) (a : LamOk X l) (b : LamB X tb k l m) (r : LamBs X tb k ls ms) : LamBs X tb k (l :: ls) (m :: ms)
inductive LamAts (X : Cx) (H : Hp) : List Addr → List LamD → Prop
  | nil : LamAts X H [] []
  | cons (f : Addr) (l : LamD) (fs : List Addr) (ls : List LamD) (a : LamAt X H f l) (r : LamAts X H fs ls) : LamAts X H (f :: fs) (l :: ls)
theorem LamBs.append {X : Cx} {tb : Tb} {k : Nat} : ∀ {ls : List LamD} {ms : List EM} {ls' : List LamD} {ms' : List EM}, LamBs X tb k ls ms → LamBs X tb k ls' ms' → LamBs X tb k (ls ++ ls') (ms ++ ms')
  | _, _, _, _, .nil, b => b
  | _, _, _, _, .cons l m ls ms a b r, q => .cons l m _ _ a b (LamBs.append r q)
theorem LamAts.append {X : Cx} {H : Hp} : ∀ {fs : List Addr} {ls : List LamD} {fs' : List Addr} {ls' : List LamD}, LamAts X H fs ls → LamAts X H fs' ls' → LamAts X H (fs ++ fs') (ls ++ ls')
  | _, _, _, _, .nil, b => b
  | _, _, _, _, .cons f l fs ls a r, q => .cons f l _ _ a (LamAts.append r q)
theorem LamAts.ext {X : Cx} {H H' : Hp} (e : LamX.ExtN H H') : ∀ {fs : List Addr} {ls : List LamD}, LamAts X H fs ls → LamAts X H' fs ls
  | _, _, .nil => .nil
  | _, _, .cons f l fs ls a r => .cons f l fs ls (a.ext e) (LamAts.ext e r)
theorem LamAts.length {X : Cx} {H : Hp} : ∀ {fs : List Addr} {ls : List LamD}, LamAts X H fs ls → fs.length = ls.length
  | _, _, .nil => rfl
  | _, _, .cons f l fs ls a r => congrArg (· + 1) (LamAts.length r)
section
variable {X : Cx} {tb : Tb} {K : PySem.W.Frag} {ρ ρ' : List Addr} {F F' H H' : Hp} {M : Hs}
theorem LamAt.mono {f : Addr} {l : LamD} (S : Sim tb K ρ F M H) (e : Ext ρ F H ρ' F' H') (h : LamAt X H f l) : LamAt X H' f l := by
  obtain ⟨c', pm, ctv, h1, h2⟩ := h
  have out : ∀ {a : Addr} {φ : Heap → Prop}, H a = some (.ext φ) → a ∉ ρ := fun {a φ} q m => by
    obtain ⟨o, e1, _, e2⟩ := S.kind m
    rw [q] at e1
    cases e1
    exact e2 _ rfl
  exact ⟨c', pm, ctv, e.h _ _ h1 (fun _ z => by unfold LamO at z; cases z) (out h1), e.h _ _ h2 (fun _ z => by unfold LamX.CodeO at z; cases z) (out h2)⟩
theorem LamAts.mono (S : Sim tb K ρ F M H) (e : Ext ρ F H ρ' F' H') : ∀ {fs : List Addr} {ls : List LamD}, LamAts X H fs ls → LamAts X H' fs ls
  | _, _, .nil => .nil
  | _, _, .cons f l fs ls a r => .cons f l fs ls (a.mono S e) (LamAts.mono S e r)
/-- the arguments of a display of lambdas -/
def tLamL (X : Cx) (T : List (Addr × (Nat → Nat → Str))) (ls : List LamD) : TA := fun σ H Q => TabsN T H ∧ ∀ fs H1, LamX.ExtN H H1 → TabsN T H1 → LamAts X H1 fs ls → Q (fs.map V.ref) H1
theorem pa_lnil {T : List (Addr × (Nat → Nat → Str))} : PA X [] (tLamL X T []) := pa_imp pa_nil fun σ H Q h => h.2 [] H (LamX.ExtN.refl H) h.1 .nil
theorem pa_lcons {T : List (Addr × (Nat → Nat → Str))} {e : Expr} {es : List Expr} {l : LamD} {ls : List LamD} (ha : PE X e (tLamV X T l)) (hb : PA X es (tLamL X T ls)) (hs : starEach (e :: es) X.env = (false, eval e X.env) :: starEach es X.env := by rfl) : PA X (e :: es) (tLamL X T (l :: ls)) := by
  refine pa_imp (pa_cons ha hb hs) fun σ H Q h => ?_
  refine ⟨h.1, fun f H1 e1 t1 a1 => ⟨t1, fun fs H2 e2 t2 a2 => ?_⟩⟩
  exact h.2 (f :: fs) H2 (e1.trans e2) t2 (.cons _ _ _ _ (a1.ext e2) a2)

/-- slot i holds a list of lambdas -/
def BadI (X : Cx) (ρ : List Addr) (i : Nat) (σ : L2.St) (H : Hp) (ls : List LamD) : Prop := ∃ B fs, σ[i]? = some (some (.ref B)) ∧ H B = some (.lst (fs.map V.ref)) ∧ B ∉ ρ ∧ LamAts X H fs ls
theorem BadI.mono {i : Nat} {σ : L2.St} {ls : List LamD} (S : Sim tb K ρ F M H) (e : Ext ρ F H ρ' F' H') (h : BadI X ρ i σ H ls) : BadI X ρ' i σ H' ls := by
  obtain ⟨B, fs, h1, h2, h3, h4⟩ := h
  refine ⟨B, fs, h1, e.h _ _ h2 (fun _ z => by cases z) h3, fun m => ?_, h4.mono S e⟩
  rcases e.n B m with z | z
  · exact h3 z
  · exact z _ h2 fun _ z => by cases z
def tSB (X : Cx) (tb : Tb) (W : WX) (i : Nat) (ls : List LamD) (m : SM) : TS := fun D σ H => ∃ ρ F M τ, Sim tb X.K ρ F M H ∧ LocR X.K F ρ τ σ ∧ BadI X ρ i σ H ls ∧ SP1 tb X.K W ρ F H D (m τ M)
def tMB (X : Cx) (tb : Tb) (W : WX) (i : Nat) (ls : List LamD) (m : EM) : TE := fun σ H Q => ∃ ρ F M τ, Sim tb X.K ρ F M H ∧ LocR X.K F ρ τ σ ∧ BadI X ρ i σ H ls ∧ RP tb X.K ρ F H (WE1 tb W σ) (fun t ρ' F' H' => ∀ v, Rep X.K F' ρ' t v → Q v H') (m τ M)
def tTB (X : Cx) (tb : Tb) (W : WX) (i : Nat) (ls : List LamD) (m : TM) : TT := fun σ H Q => ∃ ρ F M τ, Sim tb X.K ρ F M H ∧ LocR X.K F ρ τ σ ∧ BadI X ρ i σ H ls ∧ RP tb X.K ρ F H (WE1 tb W σ) (fun b _ _ H' => Q b H') (m τ M)
def mUn (i : Nat) (m : SM) : SM := fun τ M => if i < τ.length then m (τ.set i .un) M else .bad
theorem LocR.setUn {τ : Mi.Loc} {σ : L2.St} (L : LocR K F ρ τ σ) (i : Nat) (v : Option V) : LocR K F ρ (τ.set i .un) (σ.set i v) := by
  refine ⟨by simp [L.len], fun j u h => ?_⟩
  by_cases hj : i = j
  · subst hj
    have hl : i < τ.length := by simpa using (List.getElem?_eq_some_iff.mp h).1
    rw [List.getElem?_set_self hl] at h
    exact .inl (Option.some.inj h).symm
  · rw [List.getElem?_set_ne hj] at h
    rw [List.getElem?_set_ne hj]
    exact L.at_ j u h
theorem Sim.own_new {p : Addr} {o : HO} (S : Sim tb K ρ F M H) (hp : H p = none) (ho : NT o) : Sim tb K ρ F M (upd H p o) ∧ Ext ρ F H ρ F (upd H p o) := by
  obtain ⟨hF, hr⟩ := S.none_of hp
  exact ⟨S.late (acc := []) hF hr (.inl hp), (Ext.refl).late hp ho⟩
variable {W : WX}
/-- bad = [lambda ..] -/
theorem mS_bad0 (i : Nat) {x : Str} {es : List Expr} {p0 : Pos} {pos pos' : Pos} {rest : List Stmt} {ls : List LamD} {m : SM} (ha : PA X es (tLamL X tb.T ls)) (hb : PSs X rest (tSB X tb W i ls m)) (hN : X.N.Nodup) (hls : ls.length ≤ lineN := by decide) (hi : X.N[i]? = some x := by rfl) (hx : L2.Loc X.env.scope x := by first | exact Or.inl rfl | exact Or.inr rfl)
    (hs : swapsWith (.List es p0) (some (.Name x pos')) pos.line X.env = pure false := by rfl) (hf : X.fn x = true ∨ X.env.scope.names.lookup x = some .local := by first | exact .inl rfl | exact .inr rfl) :
    PSs X (.Assign [.Name x pos'] (.List es p0) pos :: rest) (tSM tb X.K W (mUn i m)) := by
  refine pss_imp (pss_cons (ps_set hN hi hx (pe_lst ha) hs hf) hb) fun D σ H h => ?_
  obtain ⟨ρ, F, M, τ, S, L, p⟩ := h
  unfold mUn at p
  split at p
  case isFalse => exact p.elim
  rename_i hl
  rw [L.len] at hl
  refine ⟨S.tab, fun fs H1 e1 t1 a1 => ⟨by rw [List.length_map, a1.length, ← lineN_eq]; exact hls, fun q hq => ?_⟩⟩
  obtain ⟨S1, x1⟩ := S.grow e1 t1
  obtain ⟨S2, x2⟩ := S1.own_new (o := .lst (fs.map V.ref)) hq fun _ z => by cases z
  have x3 := x1.trans x2
  exact ⟨ρ, F, M, τ.set i .un, S2, (L.mono x3).setUn i _, ⟨q, fs, List.getElem?_set_self hl, upd_same, (S1.none_of hq).2, a1.mono S1 x2⟩, p.mono x3⟩
/-- bad = bad + [lambda ..] -/
theorem mS_bad1 (i : Nat) {x : Str} {es : List Expr} {p0 p1 p2 : Pos} {pos pos' : Pos} {rest : List Stmt} {ls ls' : List LamD} {m : SM} (ha : PA X es (tLamL X tb.T ls')) (hb : PSs X rest (tSB X tb W i (ls ++ ls') m)) (hN : X.N.Nodup) (hls : ls'.length ≤ 1000 := by decide) (hls2 : ls.length ≤ 1000 := by decide) (hi : X.N[i]? = some x := by rfl) (hx : L2.Loc X.env.scope x := by first | exact Or.inl rfl | exact Or.inr rfl)
    (hs : swapsWith (.BinOp (.Name x p1) .Add (.List es p0) p2) (some (.Name x pos')) pos.line X.env = pure false := by rfl) (hf : X.fn x = true ∨ X.env.scope.names.lookup x = some .local := by first | exact .inl rfl | exact .inr rfl)
    (hd : (x == ("__debug__" : Str)) = false := by decide) (hcd : (x == ("__classdict__" : Str)) = false := by decide) :
    PSs X (.Assign [.Name x pos'] (.BinOp (.Name x p1) .Add (.List es p0) p2) pos :: rest) (tSB X tb W i ls (mUn i m)) := by
  refine pss_imp (pss_cons (ps_set hN hi hx (pe_op op_cat (pe_var hi (hx.elim .inl fun k => .inr (.inl k)) hd hcd) (pe_lst ha)) hs hf) hb) fun D σ H h => ?_
  obtain ⟨ρ, F, M, τ, S, L, B, p⟩ := h
  obtain ⟨b, fs0, b1, b2, b3, b4⟩ := B
  unfold mUn at p
  split at p
  case isFalse => exact p.elim
  rename_i hl
  rw [L.len] at hl
  have lz : (2000 : Nat) ≤ sizeLine := by rw [← lineN_eq]; decide
  refine ⟨.ref b, b1, S.tab, fun fs H1 e1 t1 a1 => ⟨by rw [List.length_map, a1.length]; omega, fun q hq => ?_⟩⟩
  obtain ⟨S1, x1⟩ := S.grow e1 t1
  obtain ⟨S2, x2⟩ := S1.own_new (o := .lst (fs.map V.ref)) hq fun _ z => by cases z
  have hb1 : H1 b = some (.lst (fs0.map V.ref)) := e1 _ _ b2 fun _ z => by cases z
  have nq : b ≠ q := ne_of_none hb1 hq
  refine ⟨b, q, _, _, rfl, rfl, by rw [upd_ne nq]; exact hb1, upd_same, by rw [List.length_map, List.length_map, a1.length, b4.length]; omega, fun r hr => ?_⟩
  obtain ⟨S3, x3⟩ := S2.own_new (o := .lst (fs0.map V.ref ++ fs.map V.ref)) hr fun _ z => by cases z
  have x4 := (x1.trans x2).trans x3
  refine ⟨ρ, F, M, τ.set i .un, S3, (L.mono x4).setUn i _, ⟨r, fs0 ++ fs, List.getElem?_set_self hl, by rw [List.map_append]; exact upd_same, (S2.none_of hr).2, ?_⟩, p.mono x4⟩
  exact ((b4.mono S x4)).append (a1.mono S1 (x2.trans x3))
/-- x(f) within the block, f a lambda that X made -/
theorem pe_toldF {x fN : Str} {cs ret : List Nat} {k j : Nat} {pins : List (Addr × Obj)} {σ : L2.St} {s3 : Shared} {H3 : Hp} {scope : Scope} {ce : Env} {fp : List Addr} {p pf pos : Pos} (d : ToldD X.K X.mg tb x cs ret) (hr : Room (k + 2) X.A)
    (hback : ∀ p' σ' H' s', Inv (X.blk s3 H3 scope ce fp) p' σ' H' s' → Inv X pins σ H' s') (hN : X.N[j]? = some fN) (hv : Vis ce.scope fN) (hg : Gl (X.blk s3 H3 scope ce fp) x) (hdb : (x == ("__debug__" : Str)) = false) (hd : (fN == ("__debug__" : Str)) = false) (hcd : (fN == ("__classdict__" : Str)) = false) :
    PE (X.blk s3 H3 scope ce fp) (.Call (.Name x p) [.Name fN pf] [] pos) (fun σY HY Q => ∃ f l m ρ F M τ, σY[j]? = some (some (.ref f)) ∧ LamOk X l ∧ LamB X tb k l m ∧ LamAt X HY f l ∧ Sim tb X.K ρ F M HY ∧ LocR X.K F ρ τ σ ∧ RP tb X.K ρ F HY (fun _ _ => False) (GM X.K Q) (mTold cs ret m τ M)) := by
  refine ⟨fun pinsY s σY HY Q I h => ?_⟩
  obtain ⟨f, l, m, ρ, F, M, τ, h1, lo, hb, ha, S, Lc, q⟩ := h
  obtain ⟨g, d1, d2, dc⟩ := told_call (k := k) d hr
  refine wpAny_Call_Name_kw (ld_glob I hg d1 ?_ hdb)
  refine PySem.W.callWith_K (h₀ := X.base) I.ok.mod.kin d2 ?_ (by rfl) (by rfl)
  show wpAny _ _ (spliced ((false, eval (.Name fN pf) ce) :: backTo pos (starEach [] ce))) _ _ s
  refine Calls.spliced_cons (thn ((pe_var (X := X.blk s3 H3 scope ce fp) (pos := pf) hN hv hd hcd).run pinsY s σY HY (fun v H1 => v = .ref f ∧ H1 = HY) I ⟨.ref f, h1, rfl, rfl⟩) fun u s1 ⟨v, H1, I1, r1, q1⟩ => ?_)
  obtain ⟨ev, eH⟩ := q1
  subst ev
  rw [eH] at I1
  obtain rfl : u = Value.ref f := r1
  refine Calls.spliced_nil ⟨I1.kIn, ?_⟩
  refine wpAny_call (codeAny_mono (dc (hback _ _ _ _ I1) lo hb ha S Lc q) fun r s2 hq => ?_)
  cases r with
  | error e => exact (show False from hq).elim
  | ok fl =>
    cases fl with
    | ret u => exact I1.after hq
    | next => exact False.elim hq
    | brk => exact False.elim hq
    | cont => exact False.elim hq
def runBad (cs : List Nat) : List EM → Mi.Loc → Hs → Res T
  | [], _, M => .ok (.lst []) M
  | m :: ms, τ, M => match m τ M with
    | .ex c M1 => if cs.contains c then runBad cs ms τ M1 else .bad
    | _ => .bad
theorem runBad_res (cs : List Nat) : ∀ (ms : List EM) (τ : Mi.Loc) (M : Hs), runBad cs ms τ M = .bad ∨ ∃ M', runBad cs ms τ M = .ok (.lst []) M'
  | [], _, M => .inr ⟨M, rfl⟩
  | m :: ms, τ, M => by
    unfold runBad
    cases m τ M with
    | ok _ _ => exact .inl rfl
    | bad => exact .inl rfl
    | ex c M1 =>
      dsimp only
      split
      · exact runBad_res cs ms τ M1
      · exact .inl rfl
theorem LamBs.drop {k : Nat} : ∀ {ls : List LamD} {ms : List EM} {fs : List Addr} (n : Nat), LamBs X tb k ls ms → LamAts X H fs ls → n < fs.length → ∃ l m f, fs[n]? = some f ∧ ms[n]? = some m ∧ LamOk X l ∧ LamB X tb k l m ∧ LamAt X H f l
  | _, _, _, n, .nil, .nil, h => by cases h
  | _, _, _, 0, .cons l m _ _ a b _, .cons f _ _ _ c _, _ => ⟨l, m, f, rfl, rfl, a, b, c⟩
  | _, _, _, n + 1, .cons l m _ _ a b r, .cons f _ _ _ c r2, h => by
    obtain ⟨l, m, f, h1, h2, h3⟩ := LamBs.drop n r r2 (by simpa using h)
    exact ⟨l, m, f, by simpa using h1, by simpa using h2, h3⟩
theorem LamBs.length {k : Nat} : ∀ {ls : List LamD} {ms : List EM}, LamBs X tb k ls ms → ls.length = ms.length
  | _, _, .nil => rfl
  | _, _, .cons l m ls ms a b r => congrArg (· + 1) (LamBs.length r)
/-- [.. for f in bad if x(f) != ret]: none is left -/
theorem mE_bad (i j : Nat) {x fN bN : Str} {cs ret : List Nat} {k j0 : Nat} {ls : List LamD} {ms : List EM} {elt : Expr} {scope : Scope} {p1 p2 px p3 p4 p5 p6 pos : Pos} (d : ToldD X.K X.mg tb x cs ret) (hr : Room (k + 2) X.A) (hb : LamBs X tb k ls ms) (hN : X.N.Nodup) (ok : BlkOk X.N X.env.scope scope [(fN, j)]) (hu : X.A.units + 64 < cLine)
    (hj : X.N[j]? = some fN := by rfl) (hi : X.N[i]? = some bN := by rfl) (hvb : Vis X.env.scope bN := by first | exact Or.inl rfl | exact Or.inr (Or.inl rfl) | exact Or.inr (Or.inr rfl))
    (hx : ∀ (C : Addr) (cl : List (Str × Addr)), (compEnvC scope cl C X.env).scope.names.lookup fN = some .local := by intro _ _; rfl) (hg : ∀ (s : Shared) (H : Hp) (C : Addr) (cl : List (Str × Addr)) (fp : List Addr), Gl (X.blk s H scope (compEnvC scope cl C X.env) fp) x := by intro _ _ _ _ _; rfl)
    (hc : X.calm = true := by rfl) (hs : ∀ x, foldedSetIterable (.Name bN p2) X.env x = pure x := by intro _; rfl) (hdb : (x == ("__debug__" : Str)) = false := by decide) (hd : (fN == ("__debug__" : Str)) = false := by decide) (hcd : (fN == ("__classdict__" : Str)) = false := by decide)
    (hd2 : (bN == ("__debug__" : Str)) = false := by decide) (hcd2 : (bN == ("__classdict__" : Str)) = false := by decide) :
    PE X (.ListComp elt [⟨.Name fN p1, .Name bN p2, [.Compare (.Call (.Name x px) [.Name fN p3] [] p4) [.NotEq] [.Constant (.str ⟨ret.toArray⟩) j0 p5] p6], 0⟩] scope pos) (tMB X tb W i ls (runBad cs ms)) := by
  have hop : ∀ (s : Shared) (H : Hp) (C : Addr) (cl : List (Str × Addr)) (fp : List Addr), OpR (X.blk s H scope (compEnvC scope cl C X.env) fp) (compareOp .NotEq) (rEqP X.K true) := fun s H C cl fp => opr_neP (X := X.blk s H scope (compEnvC scope cl C X.env) fp) hu
  refine ⟨fun pins s σ H Q I h => ?_⟩
  refine lc_none hc hN I (pi_list (pe_var hi hvb hd2 hcd2)) ok (fun s H C cl fp => pg_name hN hj (.inl (hx C cl)) (.inr (hx C cl)))
    (fun s H C cl fp back => pts_one (pt_cmpR (hop s H C cl fp) (pe_toldF d hr back hj (.inl (hx C cl)) (hg s H C cl fp) hdb hd hcd) pe_str (nomark _))) hs ?_
  obtain ⟨ρ, F, M, τ, S, L, ⟨B, fs, b1, b2, b3, b4⟩, p⟩ := h
  obtain ⟨Mend, hM⟩ : ∃ M', runBad cs ms τ M = .ok (.lst []) M' := by
    rcases runBad_res cs ms τ M with e | e
    · rw [e] at p; exact p.elim
    · exact e
  rw [hM] at p
  refine ⟨.ref B, b1, B, rfl, ⟨_, .inl (.inl b2)⟩, fun D hD => ?_⟩
  obtain ⟨hF, hρ⟩ := S.none_of hD
  have A0 : LcA tb X.K ρ F H D ρ F M (upd H D (.lst [])) [] := ⟨(Ext.refl).late hD (fun _ z => by cases z), S.late (acc := []) hF hρ (.inl hD), hF, hρ, [], upd_same, .nil⟩
  have hlen : fs.length = ms.length := b4.length.trans hb.length
  refine ⟨fun n m H' => ∃ ρ1 F1 M1, LcA tb X.K ρ F H D ρ1 F1 M1 H' [] ∧ m + n = ms.length ∧ runBad cs (ms.drop n) τ M1 = .ok (.lst []) Mend, ⟨ms.length, ρ, F, M, A0, rfl, by rw [List.drop_zero]; exact hM⟩, ?_⟩
  rintro n m H1 ⟨ρ1, F1, M1, A, hm, h1⟩
  have hB : H1 B = some (.lst (fs.map V.ref)) := A.e.h _ _ b2 (fun _ z => by cases z) b3
  by_cases hn : n < ms.length
  · obtain ⟨l, mm, f, q1, q2, lo, lb, la⟩ := LamBs.drop n hb (b4.mono S A.e) (by rw [hlen]; exact hn)
    refine .inr ⟨⟨_, .ref f, .inl (.inl hB), by rw [List.getElem?_map, q1]; rfl⟩, fun H' => ∃ ρ1 F1 M1, LcA tb X.K ρ F H D ρ1 F1 M1 H' [] ∧ (m - 1) + (n + 1) = ms.length ∧ runBad cs (ms.drop (n + 1)) τ M1 = .ok (.lst []) Mend, fun H' q => ⟨m - 1, by omega, q⟩, fun v H' y => ?_⟩
    obtain ⟨rfl, y2⟩ := y
    have hv := y2 _ (.inl (.inl hB))
    rw [List.getElem?_map, q1] at hv
    cases hv
    have e0 : ms[n] = mm := by
      have := List.getElem?_eq_getElem hn
      rw [q2] at this
      exact (Option.some.inj this).symm
    rw [List.drop_eq_getElem_cons hn, e0] at h1
    have hjl : j < σ.length := by
      rw [I.len]
      exact (List.getElem?_eq_some_iff.mp hj).1
    refine ⟨?_, ⟨f, l, mm, ρ1, F1, M1, τ, ?_, lo, lb, la, A.S, L.mono A.e, ?_⟩⟩
    · show wipe ((wipe σ [j]).set j _) [j] = _
      rw [wipe_set (by simp), wipe_wipe fun _ h => h]
      rfl
    · show ((wipe σ [j]).set j _)[j]? = _
      rw [List.getElem?_set_self (by rw [wipe_length]; exact hjl)]
    · unfold runBad at h1
      unfold mTold
      cases em : mm τ M1 with
      | ok _ _ => rw [em] at h1; cases h1
      | bad => rw [em] at h1; cases h1
      | ex c M2 =>
        rw [em] at h1
        dsimp only at h1 ⊢
        split at h1
        case isFalse => cases h1
        rename_i hcc
        rw [if_pos hcc]
        intro ρ2 F2 H2 e2 S2 v rv
        cases rv
        refine ⟨.str _, .str _, .str _, .str _, rfl, rfl, by simp [PyData.depth], false, ?_, rfl, ρ2, F2, M2, A.step e2 S2, by omega, h1⟩
        simp [PyData.eqv]
  · have hn' : n = ms.length := by omega
    rw [List.drop_eq_nil_of_le (by omega)] at h1
    cases h1
    obtain ⟨F2, e2, S2, r2⟩ := A.fix hD
    exact .inl ⟨⟨_, .inl (.inl hB), by rw [List.length_map, hlen]; omega⟩, p ρ1 F2 H1 e2 S2 _ r2⟩
end
end Mi
namespace Mi
open PySem PySem.Spec PyProof.Rows L2

section
variable {X : Cx} {tb : Tb} {W : WX} {σ : L2.St} {H : Hp} {K : PySem.W.Frag} {ρ : List Addr} {F : Hp} {M : Hs}
/-! ### the test of the lambdas -/
theorem mT_bad {i : Nat} {ls : List LamD} {m : EM} {a : Expr} {pos lp : Pos} (hu : X.A.units + 64 < cLine) (h : PE X a (tMB X tb W i ls m)) : PT X (.Compare a [.NotEq] [.List [] lp] pos) (tTB X tb W i ls (mBool (mOp2 (fEqP true) m (mC (.lst []))))) := by
  refine pt_imp (pt_cmpR (opr_neP hu) h (pe_lst pa_nil) (nomark _)) fun σ H Q q => ?_
  obtain ⟨ρ, F, M, τ, S, L, B, p⟩ := q
  have p' := RP.bind p
  refine ⟨ρ, F, M, τ, S, L, B, (RP.bind p').imp fun a ρ1 F1 H1 e1 ⟨M1, e2, S1, p1⟩ v r1 => ⟨Nat.zero_le _, fun q hq => ?_⟩⟩
  have p2 : RP tb X.K ρ1 F1 H1 (WE1 tb W σ) _ (fEqP true a (.lst []) M1) := p1
  obtain ⟨S3, x3⟩ := S1.lay hq (.lst [])
  refine op2_eqP (WE1 tb W σ) ρ1 (upd F1 q (.lst [])) M1 (upd H1 q (.lst [])) _ a (.lst []) v (.ref q) S3 (r1.mono x3) (.lst [] [] q upd_same .nil) ?_
  have p3 := p2.mono x3
  refine p3.imp fun b ρ2 F2 H2 x4 ⟨M3, _, S4, p4⟩ w rw' => ?_
  cases rw' with
  | bl k => exact ⟨k, rfl, RP.here S4 p4⟩
  | _ => exact p4.elim
theorem mT_badOr {i : Nat} {ls : List LamD} {a b : Expr} {rest : List Expr} {pos : Pos} {ma mb : TM} (ha : PT X a (tTB X tb W i ls ma)) (hb : PW X (.BoolOp .Or (b :: rest) pos) (tTM tb X.K W mb)) : PW X (.BoolOp .Or (a :: b :: rest) pos) (tTB X tb W i ls (mOr ma mb)) := by
  refine pw_imp (pw_or ha hb) fun σ H Q h => ?_
  obtain ⟨ρ, F, M, τ, S, L, B, p⟩ := h
  refine ⟨ρ, F, M, τ, S, L, B, (RP.bind p).imp fun x ρ1 F1 H1 e1 q => ?_⟩
  obtain ⟨M1, _, S1, p1⟩ := q
  cases x with
  | true => exact RP.here S1 p1
  | false => exact ⟨ρ1, F1, M1, τ, S1, L.mono e1, p1⟩
theorem mS_badIf {i : Nat} {ls : List LamD} {c : Expr} {a b rest : List Stmt} {pos : Pos} {mc : TM} {ma mb mr : SM} (hc : PT X c (tTB X tb W i ls mc)) (ha : PSs X a (tSM tb X.K W ma)) (hb : PSs X b (tSM tb X.K W mb)) (hr : PSs X rest (tSM tb X.K W mr)) :
    PSs X (.If c a b pos :: rest) (tSB X tb W i ls (mSeq (mIf mc ma mb) mr)) := by
  refine pss_imp (pss_cons (ps_if hc ha hb) hr) fun D σ H h => ?_
  obtain ⟨ρ, F, M, τ, S, L, B, p⟩ := h
  have p2 : SP1 tb X.K W ρ F H { D with nx := fun σ' H' => tSM tb X.K W mr D σ' H' } (mIf mc ma mb τ M) := by
    unfold mSeq at p
    cases e : mIf mc ma mb τ M with
    | nx τ' M' => rw [e] at p; exact fun ρ1 F1 H1 σ1 e1 S1 L1 => ⟨ρ1, F1, M', τ', S1, L1, p.mono e1⟩
    | rt t M' => rw [e] at p; exact p
    | bk τ' M' => rw [e] at p; exact p
    | ct τ' M' => rw [e] at p; exact p
    | ex c M' => rw [e] at p; exact p
    | bad => rw [e] at p; exact p
  refine ⟨ρ, F, M, τ, S, L, B, (SP1.st p2).imp fun x ρ1 F1 H1 e1 q => ?_⟩
  obtain ⟨M1, _, S1, p1⟩ := q
  cases x with
  | true => exact ⟨ρ1, F1, M1, τ, S1, L.mono e1, p1⟩
  | false => exact ⟨ρ1, F1, M1, τ, S1, L.mono e1, p1⟩

/-! ### tuples of names -/
def stL : List (Nat) → List T → Mi.Loc → Option Mi.Loc
  | [], [], τ => some τ
  | i :: is, t :: ts, τ => stL is ts (τ.set i t)
  | _, _, _ => none
def mPar (is : List Nat) (a : AM) : SM := fun τ M => (a τ M).st fun ts M1 => match stL is ts τ with
  | some τ' => .nx τ' M1
  | none => .bad
theorem mS_par2 (i j : Nat) {x y : Str} {a b : Expr} {ma : AM} {px py pt pos pt2 : Pos} {kt k2 : Nat} (ha : PA X [a, b] (tAM tb X.K W ma)) (hN : X.N.Nodup) (hi : X.N[i]? = some x := by rfl) (hj : X.N[j]? = some y := by rfl) (hij : i ≠ j := by decide)
    (hx : X.env.scope.names.lookup x = some .local := by rfl) (hy : X.env.scope.names.lookup y = some .local := by rfl) (hc : X.calm = true := by rfl) (hw : swappedStores [.Tuple [.Name x px, .Name y py] kt pt] (.Tuple [a, b] k2 pt2) X.env = pure (some [x, y]) := by rfl)
    (hs : swapsWithSole [.Tuple [.Name x px, .Name y py] kt pt] (.Tuple [a, b] k2 pt2) pos.line X.env = pure false := by rfl) : PS X (.Assign [.Tuple [.Name x px, .Name y py] kt pt] (.Tuple [a, b] k2 pt2) pos) (tSM tb X.K W (mPar [i, j] ma)) := by
  refine ps_imp (ps_par hc hN hi hj hij hx hy ha hw hs) fun D σ H h => ?_
  obtain ⟨ρ, F, M, τ, S, L, p⟩ := h
  refine ⟨ρ, F, M, τ, S, L, (SP1.st p).imp fun ts ρ1 F1 H1 e1 q vs r => ?_⟩
  obtain ⟨M1, _, S1, p1⟩ := q
  cases r with
  | nil => exact p1.elim
  | cons t ts v vs r1 r2 =>
  cases r2 with
  | nil => exact p1.elim
  | cons t2 ts v2 vs r2 r3 =>
  cases r3 with
  | cons => exact p1.elim
  | nil => exact ⟨v, v2, rfl, p1 ρ1 F1 H1 _ .refl S1 (((L.mono e1).set r1 i).set r2 j)⟩
theorem mS_par3 (i j l : Nat) {x y z : Str} {a b c : Expr} {ma : AM} {px py pz pt pos pt2 : Pos} {kt k2 : Nat} (ha : PA X [a, b, c] (tAM tb X.K W ma)) (hN : X.N.Nodup) (hi : X.N[i]? = some x := by rfl) (hj : X.N[j]? = some y := by rfl) (hl : X.N[l]? = some z := by rfl) (hij : i ≠ j := by decide) (hil : i ≠ l := by decide) (hjl : j ≠ l := by decide)
    (hx : X.env.scope.names.lookup x = some .local := by rfl) (hy : X.env.scope.names.lookup y = some .local := by rfl) (hz : X.env.scope.names.lookup z = some .local := by rfl) (hc : X.calm = true := by rfl) (hw : swappedStores [.Tuple [.Name x px, .Name y py, .Name z pz] kt pt] (.Tuple [a, b, c] k2 pt2) X.env = pure (some [x, y, z]) := by rfl)
    (hs : swapsWithSole [.Tuple [.Name x px, .Name y py, .Name z pz] kt pt] (.Tuple [a, b, c] k2 pt2) pos.line X.env = pure false := by rfl) : PS X (.Assign [.Tuple [.Name x px, .Name y py, .Name z pz] kt pt] (.Tuple [a, b, c] k2 pt2) pos) (tSM tb X.K W (mPar [i, j, l] ma)) := by
  refine ps_imp (ps_par3 hc hN hi hj hl hij hil hjl hx hy hz ha hw hs) fun D σ H h => ?_
  obtain ⟨ρ, F, M, τ, S, L, p⟩ := h
  refine ⟨ρ, F, M, τ, S, L, (SP1.st p).imp fun ts ρ1 F1 H1 e1 q vs r => ?_⟩
  obtain ⟨M1, _, S1, p1⟩ := q
  cases r with
  | nil => exact p1.elim
  | cons t ts v vs r1 r2 =>
  cases r2 with
  | nil => exact p1.elim
  | cons t2 ts v2 vs r2 r3 =>
  cases r3 with
  | nil => exact p1.elim
  | cons t3 ts v3 vs r3 r4 =>
  cases r4 with
  | cons => exact p1.elim
  | nil => exact ⟨v, v2, v3, rfl, p1 ρ1 F1 H1 _ .refl S1 ((((L.mono e1).set r1 i).set r2 j).set r3 l)⟩
/-- any target -/
def mAsg (g : TgP) (e : EM) : SM := fun τ M => (e τ M).st fun t M1 => match g t τ with
  | some τ' => .nx τ' M1
  | none => .bad
theorem mS_asg {ws : List Nat} {tg e : Expr} {pos : Pos} {g : TgP} {m : EM} (he : PE X e (tM tb X.K W m)) (hg : PG X tg (tGP X.K ws g)) (hs : swapsWithSole [tg] e pos.line X.env = pure false := by rfl) (hw : swappedStores [tg] e X.env = pure none := by rfl)
    (h1 : (assignEach [tg] X.env).map (·.2) = [assign tg X.env] := by rfl) : PS X (.Assign [tg] e pos) (tSM tb X.K W (mAsg g m)) := by
  refine ps_imp (ps_asg he hg hs hw h1) fun D σ H h => ?_
  obtain ⟨ρ, F, M, τ, S, L, p⟩ := h
  refine ⟨ρ, F, M, τ, S, L, (SP1.st p).imp fun x ρ1 F1 H1 e1 q v r => ?_⟩
  obtain ⟨M1, _, S1, p1⟩ := q
  cases eg : g x τ with
  | none => rw [eg] at p1; exact p1.elim
  | some τ' =>
    rw [eg] at p1
    exact ⟨ρ1, F1, τ, τ', x, S1.sub, L.mono e1, r, eg, fun σ' L' _ => p1 ρ1 F1 H1 σ' .refl S1 L'⟩

/-! ### chains -/
def mChain (f g : T → T → Hs → Res T) (a b c : EM) : EM := fun τ M => (a τ M).bind fun x M1 => (b τ M1).bind fun y M2 => (f x y M2).bind fun z M3 => match z with
  | .bl true => (c τ M3).bind fun w M4 => g y w M4
  | .bl false => .ok (.bl false) M3
  | _ => .bad
theorem chain_of {r r' : R2} {f g : T → T → Hs → Res T} {ma mb mc : EM} {Q : VK} (hf : Op2 tb K f r) (hg : Op2 tb K g r') (h : tM tb K W (mChain f g ma mb mc) σ H Q) : tChain r r' (tM tb K W ma) (tM tb K W mb) (tM tb K W mc) σ H Q := by
  obtain ⟨ρ, F, M, τ, S, L, p⟩ := h
  refine ⟨ρ, F, M, τ, S, L, (RP.bind p).imp fun a ρ1 F1 H1 e1 ⟨M1, _, S1, p1⟩ v r1 => ?_⟩
  refine ⟨ρ1, F1, M1, τ, S1, L.mono e1, (RP.bind p1).imp fun b ρ2 F2 H2 e2 ⟨M2, _, S2, p2⟩ w r2 => ?_⟩
  refine hf (WE1 tb W σ) ρ2 F2 M2 H2 _ a b v w S2 (r1.mono e2) r2 ((RP.bind p2).imp fun z ρ3 F3 H3 e3 ⟨M3, _, S3, p3⟩ u r3 => ?_)
  cases r3 with
  | bl k =>
    refine ⟨k, rfl, ?_⟩
    cases k with
    | false => exact RP.here S3 p3 _ (.bl false)
    | true =>
      rw [if_pos rfl]
      refine ⟨ρ3, F3, M3, τ, S3, (L.mono e1).mono (e2.trans e3), (RP.bind p3).imp fun c ρ4 F4 H4 e4 ⟨M4, _, S4, p4⟩ x r4 => ?_⟩
      exact hg (WE1 tb W σ) ρ4 F4 M4 H4 Q b c w x S4 (r2.mono (e3.trans e4)) r4 p4
  | _ => exact p3.elim
theorem mE_chain {op op' : CmpOp} {a b c : Expr} {pos : Pos} {r r' : R2} {f g : T → T → Hs → Res T} {ma mb mc : EM} (ho : OpR X (compareOp op) r) (ho' : OpR X (compareOp op') r') (hf : Op2 tb X.K f r) (hg : Op2 tb X.K g r') (ha : PE X a (tM tb X.K W ma)) (hb : PE X b (tM tb X.K W mb)) (hc : PE X c (tM tb X.K W mc))
    (hm : lastMarks [op, op'] [b, c] = false := by with_unfolding_all rfl) : PE X (.Compare a [op, op'] [b, c] pos) (tM tb X.K W (mChain f g ma mb mc)) := pe_imp (pe_chain ho ho' ha hb hc hm) fun _ _ _ h => chain_of hf hg h
theorem mT_chain {op op' : CmpOp} {a b c : Expr} {pos : Pos} {r r' : R2} {f g : T → T → Hs → Res T} {ma mb mc : EM} (ho : OpR X (compareOp op) r) (ho' : OpR X (compareOp op') r') (hf : Op2 tb X.K f r) (hg : Op2 tb X.K g r') (ha : PE X a (tM tb X.K W ma)) (hb : PE X b (tM tb X.K W mb)) (hc : PE X c (tM tb X.K W mc))
    (hm : lastMarks [op, op'] [b, c] = false := by with_unfolding_all rfl) : PT X (.Compare a [op, op'] [b, c] pos) (tTM tb X.K W (mBool (mChain f g ma mb mc))) := pt_imp (pt_chain ho ho' ha hb hc hm) fun _ _ _ h => chain_of hf hg (bools h)

/-! ### truth -/
def tru (t : T) (M : Hs) : Option Bool := match t with
  | .non => some false
  | .bl b => some b
  | .int i => some (i != 0)
  | .str s => if s.length ≤ lineN then some (!s.isEmpty) else none
  | .tup ts => some (!ts.isEmpty)
  | .fix ts => some (!ts.isEmpty)
  | .lst ts => some (!ts.isEmpty)
  | .ref r => match M[r]? with
    | some (.lst ts) => some (!ts.isEmpty)
    | some (.dct kvs) => some (!kvs.isEmpty)
    | _ => none
  | _ => none
def mTru (a : EM) : TM := fun τ M => (a τ M).bind fun t M1 => match tru t M1 with
  | some b => .ok b M1
  | none => .bad
theorem RepL.empty : ∀ {ts : List T} {vs : List V}, RepL K F ρ ts vs → ts.isEmpty = vs.isEmpty
  | _, _, .nil => rfl
  | _, _, .cons _ _ _ _ _ _ => rfl
theorem RepD.empty : ∀ {ts : List (T × T)} {vs : List (Key × V)}, RepD K F ρ ts vs → ts.isEmpty = vs.isEmpty
  | _, _, .nil => rfl
  | _, _, .cons _ _ _ _ _ _ _ _ _ => rfl
theorem tru_at {t : T} {v : V} {b : Bool} (S : Sim tb K ρ F M H) (r : Rep K F ρ t v) (h : tru t M = some b) : TruV K v H b := by
  cases r with
  | non => cases h; rfl
  | bl c => cases h; rfl
  | int i => cases h; rfl
  | str s =>
    simp only [tru] at h
    split at h
    case isFalse => cases h
    rename_i hl
    cases h
    refine ⟨by rw [str_len, ← lineN_eq]; exact hl, ?_⟩
    rw [str_len]
    cases s with
    | nil => rfl
    | cons a s =>
      simp only [List.isEmpty_cons, Bool.not_false, List.length_cons]
      symm
      rw [bne_iff_ne]
      omega
  | tup ts vs a hq rl => cases h; exact .inr (.inl ⟨vs, hd_sqT S.sub hq, by rw [rl.empty]⟩)
  | fix ts vs a hq rl => cases h; exact .inl ⟨vs, hd_sqL S.sub hq, by rw [rl.empty]⟩
  | lst ts vs a hq rl => cases h; exact .inl ⟨vs, .inl (.inl (hd_lst S.sub hq)), by rw [rl.empty]⟩
  | dct => cases h
  | ref i a hi =>
    simp only [tru] at h
    split at h
    · rename_i ts hm
      cases h
      obtain ⟨vs, hH, rl⟩ := S.ob i _ a hm hi
      exact .inl ⟨vs, .inl (.inl hH), by rw [rl.empty]⟩
    · rename_i ts hm
      cases h
      obtain ⟨vs, hH, rl⟩ := S.ob i _ a hm hi
      exact .inr (.inr ⟨vs, hH, by rw [rl.empty]⟩)
    · cases h
theorem mT_truth {a : Expr} {m : EM} (h : PE X a (tM tb X.K W m)) (he : ∀ whole, isTrue a X.env whole = (do let v ← whole; standAt a.pos; holding [v] (truthy v)) := by intro _; rfl) : PT X a (tTM tb X.K W (mTru m)) := by
  refine pt_imp (pt_truth h he) fun σ H Q q => ?_
  obtain ⟨ρ, F, M, τ, S, L, p⟩ := q
  refine ⟨ρ, F, M, τ, S, L, (RP.bind p).imp fun t ρ1 F1 H1 e1 ⟨M1, _, S1, p1⟩ v r1 => ?_⟩
  cases et : tru t M1 with
  | none => rw [et] at p1; exact p1.elim
  | some b =>
    rw [et] at p1
    exact ⟨b, tru_at S1 r1 et, RP.here S1 p1⟩
/-- a or b, a and b as values -/
def mOrV (a b : EM) : EM := fun τ M => (a τ M).bind fun t M1 => match tru t M1 with
  | some true => .ok t M1
  | some false => b τ M1
  | none => .bad
def mAndV (a b : EM) : EM := fun τ M => (a τ M).bind fun t M1 => match tru t M1 with
  | some true => b τ M1
  | some false => .ok t M1
  | none => .bad
theorem mE_orV {a b : Expr} {rest : List Expr} {pos : Pos} {ma mb : EM} (ha : PE X a (tM tb X.K W ma)) (hb : PE X (.BoolOp .Or (b :: rest) pos) (tM tb X.K W mb)) : PE X (.BoolOp .Or (a :: b :: rest) pos) (tM tb X.K W (mOrV ma mb)) := by
  refine ⟨fun pins s σ H Q I h => ?_⟩
  have h2 : tM tb X.K W ma σ H fun x H1 => ∃ k, TruV X.K x H1 k ∧ ((k = true → Q x H1) ∧ (k = false → tM tb X.K W mb σ H1 Q)) := by
    obtain ⟨ρ, F, M, τ, S, L, p⟩ := h
    refine ⟨ρ, F, M, τ, S, L, (RP.bind p).imp fun t ρ1 F1 H1 e1 ⟨M1, _, S1, p1⟩ v r1 => ?_⟩
    cases et : tru t M1 with
    | none => rw [et] at p1; exact p1.elim
    | some b =>
      rw [et] at p1
      refine ⟨b, tru_at S1 r1 et, fun e => ?_, fun e => ?_⟩
      · subst e; exact RP.here S1 p1 v r1
      · subst e; exact ⟨ρ1, F1, M1, τ, S1, L.mono e1, p1⟩
  refine BoolOp_or (thn (ha.run pins s σ H _ I h2) fun v s1 ⟨x, H1, I1, r1, k, tk, q1, q2⟩ => ?_)
  refine thn (tru_ok pins s1 σ H1 x v (fun b H2 => b = k ∧ H2 = H1) I1 r1 ⟨k, tk, rfl, rfl⟩) fun b s2 ⟨H2, I2, e1, e2⟩ => ?_
  subst e1; subst e2
  cases b with
  | true => exact ⟨x, H2, I2, r1, q1 rfl⟩
  | false => exact hb.run pins s2 σ H2 Q I2 (q2 rfl)
theorem mE_andV {a b : Expr} {rest : List Expr} {pos : Pos} {ma mb : EM} (ha : PE X a (tM tb X.K W ma)) (hb : PE X (.BoolOp .And (b :: rest) pos) (tM tb X.K W mb)) : PE X (.BoolOp .And (a :: b :: rest) pos) (tM tb X.K W (mAndV ma mb)) := by
  refine ⟨fun pins s σ H Q I h => ?_⟩
  have h2 : tM tb X.K W ma σ H fun x H1 => ∃ k, TruV X.K x H1 k ∧ ((k = false → Q x H1) ∧ (k = true → tM tb X.K W mb σ H1 Q)) := by
    obtain ⟨ρ, F, M, τ, S, L, p⟩ := h
    refine ⟨ρ, F, M, τ, S, L, (RP.bind p).imp fun t ρ1 F1 H1 e1 ⟨M1, _, S1, p1⟩ v r1 => ?_⟩
    cases et : tru t M1 with
    | none => rw [et] at p1; exact p1.elim
    | some b =>
      rw [et] at p1
      refine ⟨b, tru_at S1 r1 et, fun e => ?_, fun e => ?_⟩
      · subst e; exact RP.here S1 p1 v r1
      · subst e; exact ⟨ρ1, F1, M1, τ, S1, L.mono e1, p1⟩
  refine BoolOp_and (thn (ha.run pins s σ H _ I h2) fun v s1 ⟨x, H1, I1, r1, k, tk, q1, q2⟩ => ?_)
  refine thn (tru_ok pins s1 σ H1 x v (fun b H2 => b = k ∧ H2 = H1) I1 r1 ⟨k, tk, rfl, rfl⟩) fun b s2 ⟨H2, I2, e1, e2⟩ => ?_
  subst e1; subst e2
  cases b with
  | false => exact ⟨x, H2, I2, r1, q1 rfl⟩
  | true => exact hb.run pins s2 σ H2 Q I2 (q2 rfl)
theorem mE_one {op : BoolOp} {a : Expr} {pos : Pos} {m : EM} (h : PE X a (tM tb X.K W m)) : PE X (.BoolOp op [a] pos) (tM tb X.K W m) := pe_one h

/-! ### sorted, of ints -/
def insI (a : Int) : List Int → List Int
  | [] => [a]
  | b :: r => if a ≤ b then a :: b :: r else b :: insI a r
def sortI : List Int → List Int
  | [] => []
  | a :: r => insI a (sortI r)
theorem insI_perm (a : Int) : ∀ l, (insI a l).Perm (a :: l)
  | [] => .refl _
  | b :: r => by
    unfold insI
    split
    · exact .refl _
    · exact ((insI_perm a r).cons b).trans (.swap a b r)
theorem sortI_perm : ∀ l, (sortI l).Perm l
  | [] => .refl _
  | a :: r => (insI_perm a _).trans ((sortI_perm r).cons a)
theorem insI_srt (a : Int) : ∀ l : List Int, l.Pairwise (· ≤ ·) → (insI a l).Pairwise (· ≤ ·)
  | [], _ => by simp [insI]
  | b :: r, h => by
    unfold insI
    split
    · rename_i hab
      refine List.Pairwise.cons (fun c hc => ?_) h
      rcases List.mem_cons.mp hc with z | z
      · omega
      · have := (List.pairwise_cons.mp h).1 c z
        omega
    · refine List.Pairwise.cons (fun c hc => ?_) (insI_srt a r (List.pairwise_cons.mp h).2)
      rcases List.mem_cons.mp ((insI_perm a r).mem_iff.mp hc) with z | z
      · omega
      · exact (List.pairwise_cons.mp h).1 c z
theorem sortI_srt : ∀ l, (sortI l).Pairwise (· ≤ ·)
  | [] => .nil
  | a :: r => insI_srt a _ (sortI_srt r)
def fSortedI : List T → Hs → Res T
  | [x], M => match lsI x M with
    | some ns => .ok (.lst ((sortI ns).map T.int)) M
    | none => .bad
  | _, _ => .bad
theorem intsL (l : List Int) : RepL K F ρ (l.map T.int) (l.map V.int) := by
  induction l with
  | nil => exact .nil
  | cons a l ih => exact .cons _ _ _ _ (.int a) ih
theorem opn_sortedI : OpN tb K fSortedI (rSortedI K) := fun E ρ F M H Q a x S r p => by
  unfold fSortedI at p
  split at p
  case h_2 => exact p.elim
  cases r with
  | cons _ _ _ _ r1 r2 =>
  cases r2
  split at p
  case h_2 => exact p.elim
  rename_i bs hb
  obtain ⟨a, rfl, hH⟩ := lsI_at S r1 hb
  refine ⟨a, bs, rfl, hH, fun ns' q h1 h2 hq => ?_⟩
  have e : ns' = sortI bs := List.Perm.eq_of_pairwise (fun a b _ _ h1 h2 => by omega) h2 (sortI_srt bs) (h1.trans (sortI_perm bs).symm)
  subst e
  exact new_lst S (intsL _) p q hq

/-! ### methods of built-in types -/
def mBm (ok : T → Hs → Bool) (f : T → List T → Hs → Res T) (mo : EM) (ma : AM) : EM := fun τ M => (mo τ M).bind fun x M1 => if ok x M1 then (ma τ M1).bind fun xs M2 => f x xs M2 else .bad
def OpM (tb : Tb) (K : PySem.W.Frag) (f : T → List T → Hs → Res T) (r : V → List V → Hp → VK → Prop) : Prop :=
  ∀ (E : Nat → Hp → Prop) (ρ : List Addr) (F : Hp) (M : Hs) (H : Hp) (Q : VK) (t : T) (v : V) (a : List T) (x : List V), Sim tb K ρ F M H → Rep K F ρ t v → RepL K F ρ a x → RP tb K ρ F H E (GM K Q) (f t a M) → r v x H Q
def TyM (tb : Tb) (K : PySem.W.Frag) (ok : T → Hs → Bool) (TN : String) : Prop := ∀ (ρ : List Addr) (F : Hp) (M : Hs) (H : Hp) (t : T) (v : V), Sim tb K ρ F M H → Rep K F ρ t v → ok t M = true → tyV K TN v H
theorem bm_of {TN : String} {ok : T → Hs → Bool} {f : T → List T → Hs → Res T} {r : V → List V → Hp → VK → Prop} {mo : EM} {ma : AM} {Q : VK} (ht : TyM tb K ok TN) (hf : OpM tb K f r) (h : tM tb K W (mBm ok f mo ma) σ H Q) : tBM K TN r (tM tb K W mo) (tAM tb K W ma) σ H Q := by
  obtain ⟨ρ, F, M, τ, S, L, p⟩ := h
  refine ⟨ρ, F, M, τ, S, L, (RP.bind p).imp fun t ρ1 F1 H1 e1 ⟨M1, _, S1, p1⟩ v r1 => ?_⟩
  split at p1
  case isFalse => exact p1.elim
  rename_i hk
  exact ⟨ht _ _ _ _ _ _ S1 r1 hk, ρ1, F1, M1, τ, S1, L.mono e1, (RP.bind p1).imp fun a ρ2 F2 H2 e2 ⟨M2, _, S2, p2⟩ vs r2 => hf _ ρ2 F2 M2 H2 Q t v a vs S2 (r1.mono e2) r2 p2⟩
theorem mE_bm {o e : Expr} {es : List Expr} {name : Str} {apos cpos : Pos} {TN id : String} {r : V → List V → Hp → VK → Prop} {ok : T → Hs → Bool} {f : T → List T → Hs → Res T} {mo : EM} {ma : AM} (pa : PlainAttrs TN) (slot : Slot TN name id) (hty : typeOf (.builtin id) = pure (.type "method_descriptor"))
    (hm : MtR X id r) (ht : TyM tb X.K ok TN) (hf : OpM tb X.K f r) (ho : PE X o (tM tb X.K W mo)) (ha : PA X (e :: es) (tAM tb X.K W ma))
    (hbase : attributeBase o name X.env (eval o X.env) = eval o X.env := by rfl)
    (hfew : ((backTo cpos (starEach (e :: es) X.env)).all (fun x => !x.1) && (backToKw cpos (keywordEach [] X.env)).all (fun x => x.1.isSome)
      && decide ((e :: es).length + ([] : List Keyword).length + (if ([] : List Keyword).isEmpty then 0 else 1) < 30)) = true := by rfl)
    (hline : (apos.endLine == cpos.line) = true := by rfl) (hs : starEach (e :: es) X.env = (false, eval e X.env) :: starEach es X.env := by rfl) (hplain : (backTo cpos (starEach es X.env)).any (·.1) = false := by rfl) :
    PE X (.Call (.Attribute o name apos) (e :: es) [] cpos) (tM tb X.K W (mBm ok f mo ma)) := pe_imp (pe_bm pa slot hty hm ho ha hbase hfew hline hs hplain) fun _ _ _ h => bm_of ht hf h

/-! d.update(d2) -/
def rUpd : V → List V → Hp → VK → Prop := fun x xs H Q => ∃ a b kvs more, x = .ref a ∧ xs = [.ref b] ∧ a ≠ b ∧ H a = some (.dK kvs) ∧ Rd H b (.dK more) ∧ kvs.length + more.length ≤ sizeLine ∧ Q .non (upd H a (.dK (mergeK kvs more)))
theorem mt_update : MtR X "dict.update" rUpd := fun pins s σ H x xs v us Q I rx rs h => by
  obtain ⟨a, b, kvs, more, rfl, rfl, hab, ha, hb, hz, q⟩ := h
  cases rx
  obtain ⟨u, rfl, ru⟩ := rs.one
  cases ru
  obtain ⟨z1, n1, vs1, k1, d1⟩ := dk_of I.hok ha
  obtain ⟨z2, n2, vs2, k2, d2⟩ := dk_rd I.hok hb
  refine call_meetsIn PySem.F.slot_dict_update d1.typeIs PySem.F.entry_dict_update (PySem.F.args_dict_update_2 _ _) (meets_dict_update (mixKind X.prog X.w) a b hab n2) ⟨vs1, vs2, d1, d2, by rw [← k1.length, ← k2.length]; exact hz, fun h' e1 e2 sb => ?_⟩
  have he : ∃ o, h'.get? a = some o := let ⟨o, _, _, e, _⟩ := e1; ⟨o, e⟩
  have hl : (mergeK kvs more).length ≤ sizeLine := Nat.le_trans (length_mergeK more kvs) hz
  exact ⟨.non, _, d_write (t' := s.toks) I (by rw [ha]; trivial) sb he (dk_new hl n1 (k2.merge k1) e1), rfl, q⟩
def isDR (t : T) (M : Hs) : Bool := match t with
  | .ref r => match M[r]? with
    | some (.dct _) => true
    | _ => false
  | _ => false
theorem ty_dict : TyM tb K isDR "dict" := fun ρ F M H t v S r h => by
  unfold isDR at h
  split at h
  case h_2 => cases h
  rename_i i
  split at h
  case h_2 => cases h
  rename_i kvs hm
  cases r with
  | ref _ a hi =>
    obtain ⟨vs, hH, rd⟩ := S.ob i _ a hm hi
    exact .inr (.inr (.inl ⟨rfl, .inl ⟨vs, hH⟩⟩))
def isRef (r : Nat) : T → Bool
  | .ref j => decide (r = j)
  | _ => false
def fUpd : T → List T → Hs → Res T := fun t xs M => match t, xs with
  | .ref r, [y] => match M[r]?, dcOf y M with
    | some (.dct kvs), some more => if isRef r y || decide (1000 < kvs.length + more.length) then .bad else .ok .non (M.set r (.dct (dMerge kvs more)))
    | _, _ => .bad
  | _, _ => .bad
theorem opm_upd : OpM tb K fUpd rUpd := fun E ρ F M H Q t v xs vs S r rs p => by
  unfold fUpd at p
  split at p
  case h_2 => exact p.elim
  rename_i i y
  split at p
  case h_2 => exact p.elim
  rename_i kvs more hm hy
  split at p
  case isTrue => exact p.elim
  rename_i hk
  simp only [Bool.or_eq_true, decide_eq_true_eq, not_or] at hk
  cases rs with
  | cons _ _ w _ ry rn =>
  cases rn
  cases r with
  | ref _ a hi =>
  obtain ⟨ws, hH, rd⟩ := S.ob i _ a hm hi
  obtain ⟨b, ms, rfl, hR, rm⟩ := dc_at S ry hy
  have lz : (1000 : Nat) ≤ sizeLine := by rw [← lineN_eq]; decide
  have ne : a ≠ b := fun e => by
    subst e
    cases ry with
    | ref j _ hj =>
      obtain ⟨q1, e1⟩ := List.getElem?_eq_some_iff.mp hi
      obtain ⟨q2, e2⟩ := List.getElem?_eq_some_iff.mp hj
      exact hk.1 (decide_eq_true ((List.getElem_inj S.nd).mp (e1.trans e2.symm)))
    | dct _ _ _ hF _ => rw [S.fr _ (List.mem_of_getElem? hi)] at hF; cases hF
    | lst _ _ _ hF _ => cases hy
    | tup _ _ _ hF _ => cases hy
    | fix _ _ _ hF _ => cases hy
  refine ⟨a, b, ws, ms, rfl, rfl, ne, hH, hR, by rw [← rd.length, ← rm.length]; omega, ?_⟩
  have e2 : Ext ρ F H ρ F (upd H a (.dK (mergeK ws ms))) := Ext.put (List.mem_of_getElem? hi)
  refine p ρ F _ e2 (S.put hi ⟨_, upd_same, ?_⟩) _ .non
  exact (RepD.merge rm rd)
/-! the place of a text in a fixed tuple -/
def fstIx : List (List Nat) → List Nat → Option Nat
  | [], _ => none
  | y :: ys, z => if y = z then some 0 else (fstIx ys z).map (· + 1)
theorem fstIx_is : ∀ {ys : List (List Nat)} {z : List Nat} {j : Nat}, fstIx ys z = some j → ys[j]? = some z ∧ ∀ m, m < j → ys[m]? ≠ some z
  | [], _, _, h => by cases h
  | y :: ys, z, j, h => by
    unfold fstIx at h
    split at h
    · rename_i e
      cases h
      exact ⟨by simp [e], fun m hm => by omega⟩
    · rename_i e
      cases q : fstIx ys z with
      | none => rw [q] at h; cases h
      | some k =>
        rw [q] at h
        cases h
        obtain ⟨h1, h2⟩ := fstIx_is q
        refine ⟨by simpa using h1, fun m hm => ?_⟩
        cases m with
        | zero => simpa using e
        | succ m =>
          have hm : m + 1 < k + 1 := hm
          simpa using h2 m (by omega)
def fTix (ss : List (List Nat)) : T → Hs → Res T := fun x M => match x with
  | .str z => match fstIx ss z with
    | some j => .ok (.int (j : Nat)) M
    | none => .bad
  | _ => .bad
/-- G.index(x), G a global tuple of texts -/
theorem mE_tupIx {G : Str} {a : Addr} {e : Expr} {apos cpos pg : Pos} {m : EM} {ss : List (List Nat)} (hm : X.mg G = some (.ref a)) (hk : ∃ o, X.K.lookup a = some o ∧ o.cls = .type "tuple" ∧ o.dict = none) (hq : ∀ H : Hp, SqT X.K H a (ss.map fun s => V.str ⟨s.toArray⟩)) (he : PE X e (tM tb X.K W m))
    (hg : Gl X G := by rfl) (hdb : (G == ("__debug__" : Str)) = false := by decide)
    (hbase : attributeBase (.Name G pg) "index" X.env (eval (.Name G pg) X.env) = eval (.Name G pg) X.env := by rfl)
    (hfew : ((backTo cpos (starEach [e] X.env)).all (fun x => !x.1) && (backToKw cpos (keywordEach [] X.env)).all (fun x => x.1.isSome)
      && decide ([e].length + ([] : List Keyword).length + (if ([] : List Keyword).isEmpty then 0 else 1) < 30)) = true := by rfl)
    (hline : (apos.endLine == cpos.line) = true := by rfl) (hs : starEach [e] X.env = (false, eval e X.env) :: starEach [] X.env := by rfl) (hplain : (backTo cpos (starEach [] X.env)).any (·.1) = false := by rfl) :
    PE X (.Call (.Attribute (.Name G pg) "index" apos) [e] [] cpos) (tM tb X.K W (mOp1 (fTix ss) m)) := by
  refine pe_imp (pe_bm PySem.F.plainAttrs_tuple PySem.F.slot_tuple_index PySem.F.type_tuple_index mt_tup_index (pe_glob (v := .ref a) hg hm rfl hdb) (pa_cons he pa_nil hs) hbase hfew hline hs hplain) fun σ H Q h => ?_
  refine ⟨.inr (.inl ⟨rfl, hk⟩), ?_⟩
  obtain ⟨ρ, F, M, τ, S, L, p⟩ := h
  refine ⟨ρ, F, M, τ, S, L, (RP.bind p).imp fun t ρ1 F1 H1 e1 ⟨M1, _, S1, p1⟩ v r1 => ?_⟩
  cases t with
  | str z =>
    cases hj : fstIx ss z with
    | none => simp only [fTix, hj] at p1; exact p1.elim
    | some j =>
    simp only [fTix, hj] at p1
    cases r1
    obtain ⟨h1, h2⟩ := fstIx_is hj
    refine ⟨a, ss.map fun s => ⟨s.toArray⟩, ⟨z.toArray⟩, j, rfl, rfl, by rw [List.map_map]; exact hq H1, by rw [List.getElem?_map, h1]; rfl, fun k hk e => ?_, RP.here S1 p1 _ (.int _)⟩
    rw [List.getElem?_map] at e
    cases q : ss[k]? with
    | none => rw [q] at e; cases e
    | some y =>
      rw [q] at e
      have : y = z := by
        have e' := Option.some.inj e
        have := congrArg (fun s : Str => s.cps.toList) e'
        simpa using this
      exact h2 k hk (by rw [q, this])
  | _ => exact p1.elim
end
end Mi
namespace Mi
open PySem PySem.Spec PyProof.Rows L2

/-- a def whose code object stands at c -/
structure FunC (K : PySem.W.Frag) (x qual : Str) (st : Stmt) (f : Addr) (fd : FuncData) (c : Addr) : Prop where
  ex : ∃ (oc : Value) (od : Option Addr) (kV doc pm : Value) (an : Option Addr) (ct : Value) (osl : Array (Option Value)),
    fd = PySem.W.fnOf x qual (defArgs st) (defBody st) (defScope st) .none kV doc pm an (.ref c) ct ∧ K.lookup f = some ⟨oc, od, .func fd, osl⟩ ∧ PySem.W.codeIn K (.ref c) qual = true
  kp : PySem.W.keepIn K (.ref f) = true
section
variable {P : Program} {w : World} {K : PySem.W.Frag} {mg : Str → Option Value} {base : Heap} {tb : Tb}
theorem FunC.fn {x qual : Str} {st : Stmt} {f c : Addr} {fd : FuncData} (F : FunC K x qual st f fd c) : Fun K x qual st f fd := by
  obtain ⟨⟨oc, od, kV, doc, pm, an, ct, osl, e, lk, hcd⟩, kp⟩ := F
  exact ⟨⟨oc, od, kV, doc, pm, an, _, ct, osl, e, lk, hcd⟩, kp⟩
theorem funC_mk {x qual : Str} {st : Stmt} {f c : Addr} {oc : Value} {od an : Option Addr} {osl : Array (Option Value)} {kV doc pm cdv ct : Value} (l : K.lookup f = some ⟨oc, od, .func (PySem.W.fnOf x qual (defArgs st) (defBody st) (defScope st) .none kV doc pm an cdv ct), osl⟩)
    (c' : PySem.W.codeIn K cdv qual = true) (k : PySem.W.keepIn K (.ref f) = true) (e : cdv = .ref c) : FunC K x qual st f (PySem.W.fnOf x qual (defArgs st) (defBody st) (defScope st) .none kV doc pm an cdv ct) c := by
  subst e
  exact ⟨⟨oc, od, kV, doc, pm, an, ct, osl, rfl, l, c'⟩, k⟩
theorem fn_okC {x qual : Str} {st : Stmt} {f c : Addr} {fd : FuncData} {N ps : List Str} {k n : Nat} {b : SM} (Fu : FunC K x qual st f fd c) (S : FnScope N ps (defScope st)) (hn : n = N.length)
    (hb : ∀ (A : Around) (outer : List Env) (s : Shared) (H : Hp) (E : XK), Room k (A.deeper (envOfC qual (defScope st) s.heap.objs.size f (.ref c))) →
      PSs (cxOf (L2.CX P w) P w K mg base N qual (defScope st) f (.ref c) A outer s H E) (defBody st) (tSM tb K (fun cls d _ H' => E cls d H') b)) :
    FnOk P w K mg base (L2.CX P w) (k + 1) f fd ps (spM tb K ps.length (mBody n b)) := by
  obtain ⟨oc, od, kV, doc, pm, an, ct, osl, rfl, lk, hcd⟩ := Fu.ex
  refine fn_of lk hcd S (fun vs H Q E h => ?_) (fun A outer s H vs Q E hr h => ⟨_, hb A outer s H E hr, ?_⟩)
  · obtain ⟨ρ, F, M, ts, _, r, e, _⟩ := h
    rw [← r.length, e]
  · obtain ⟨ρ, F, M, ts, Sm, r, e, p⟩ := h
    refine ⟨ρ, F, M, _, Sm, loc_start r, ?_⟩
    unfold mBody at p
    rw [hn] at p
    cases hres : b (ts ++ List.replicate (N.length - ts.length) .un) M with
    | nx τ' M' => rw [hres] at p; exact fun ρ' F' H' σ' ex S' _ => p ρ' F' H' ex S' _ .non
    | rt t M' => rw [hres] at p; exact fun ρ' F' H' v ex S' rv => p ρ' F' H' ex S' v rv
    | ex c M' => rw [hres] at p; exact fun ρ' F' H' σ' ex S' => p ρ' F' H' ex S'
    | bk τ' M' => rw [hres] at p; exact p.elim
    | ct τ' M' => rw [hres] at p; exact p.elim
    | bad => rw [hres] at p; exact p.elim
theorem fn_bad {x qual : Str} {st : Stmt} {f : Addr} {fd : FuncData} {N ps : List Str} {k n : Nat} (Fu : Fun K x qual st f fd) (S : FnScope N ps (defScope st)) (b : Binds K fd ps []) (hn : n = ps.length := by rfl) : CallOk P w K mg base tb (k + 1) f n (fun _ _ => .bad) :=
  CallOk.of (Fu.okX (sp := spM tb K n fun _ _ => .bad) S (fun vs H Q E h => by obtain ⟨ρ, F, M, ts, _, r, e, p⟩ := h; exact p.elim) (fun cdv A outer s H vs Q E hr h => by obtain ⟨ρ, F, M, ts, _, r, e, p⟩ := h; exact p.elim)) b hn
end

/-! ### the end -/
/-- what is known of the law's promise, from the mirror's answer -/
theorem law_sp {tb : Tb} {K : PySem.W.Frag} {g : FnM} {H : Hp} {a : Addr} {ns : List Int} (hT : TabsN tb.T H) (hS : SqL K H a (ns.map V.int)) (h : ∃ M, g [.fix (ns.map T.int)] [] = .ok (.bl true) M) :
    spM tb K 1 g [.ref a] H (fun v _ => v = .bl true) fun _ _ _ => False := by
  obtain ⟨M, e⟩ := h
  have hF : SqL K (fun b => if b = a then (match H a with | some (.tbl _) => none | o => o) else none) a (ns.map V.int) := by
    rcases hS with (h | ⟨o, h⟩) | h
    · exact .inl (.inl (by simp [h]))
    · exact .inl (.inr ⟨o, by simp [h]⟩)
    · exact .inr h
  refine ⟨[], _, [], [.fix (ns.map T.int)], ⟨fun b o q => ?_, rfl, List.nodup_nil, fun _ h => (by cases h), fun i ob a h1 h2 => by simp at h1, fun b o q => ?_, hT⟩, .cons _ _ _ _ (.fix _ _ a hF (intsL _)) .nil, rfl, ?_⟩
  · by_cases z : b = a
    · subst z
      simp only [if_true] at q
      split at q
      · cases q
      · exact .inl q
    · simp [z] at q
  · by_cases z : b = a
    · subst z
      simp only [if_true] at q
      split at q
      · cases q
      · rename_i o' hne
        intro ps hz
        subst hz
        exact hne ps q
    · simp [z] at q
  · rw [e]
    intro ρ' F' H' _ _ v r
    cases r
    rfl
/-- an error of the class at S is one that «except CS» names -/
theorem exm_sub {K : PySem.W.Frag} {S CS : Addr} (h1 : PySem.W.subIn K (.ref CS) (.type "BaseException") = some true) (h2 : PySem.W.isClsIn K CS = true) (h3 : PySem.W.typeIn K (.ref CS) = some (.type "type")) (h4 : PySem.W.subIn K (.ref S) (.ref CS) = some true) :
    PySem.W.exmOne K (.ref S) (.ref CS) = some true := by
  have e1 : (PySem.W.subIn K (.ref CS) (.type "BaseException") == some true) = true := by rw [h1] <;> rfl
  have e2 : ((PySem.W.clsIn K CS).isSome && PySem.W.typeIn K (.ref CS) == some (.type "type")) = true := by
    have h2' : (PySem.W.clsIn K CS).isSome = true := h2
    rw [h2', h3] <;> rfl
  show (if (PySem.W.subIn K (.ref CS) (.type "BaseException") == some true) = true then (if ((PySem.W.clsIn K CS).isSome && PySem.W.typeIn K (.ref CS) == some (.type "type")) = true then PySem.W.subIn K (.ref S) (.ref CS) else none) else none) = some true
  rw [if_pos e1, if_pos e2]
  exact h4
theorem told_mk {K : PySem.W.Frag} {mg : Str → Option Value} {tb : Tb} {x a e : Str} {cs ret : List Nat} {st : Stmt} {g CS : Addr} {j : Nat} {p1 p2 p3 p4 p5 p6 p7 p8 : Pos} {oc : Value} {od an : Option Addr} {osl : Array (Option Value)} {kV doc pm cdv ct : Value} {Ng : List Str}
    (hm : mg x = some (.ref g)) (k : PySem.W.keepIn K (.ref g) = true) (l : K.lookup g = some ⟨oc, od, .func (PySem.W.fnOf x x (defArgs st) (defBody st) (defScope st) .none kV doc pm an cdv ct), osl⟩) (c : PySem.W.codeIn K cdv x = true)
    (hb : defBody st = [.Try [.Return (some (.Call (.Name a p1) [] [] p2)) p3] [.ExceptHandler (some (.Name e p4)) none [.Return (some (.Constant (.str ⟨ret.toArray⟩) j p5)) p6] p7] [] [] p8])
    (bd : L2.Binds K (PySem.W.fnOf x x (defArgs st) (defBody st) (defScope st) .none kV doc pm an cdv ct) [a] []) (sc : FnScope Ng [a] (defScope st)) (h0 : Ng = [a]) (hv : (defScope st).names.lookup a = some .local) (he : (defScope st).names.lookup e = some .globalImplicit) (hme : mg e = some (.ref CS))
    (hde : (e == ("__debug__" : Str)) = false) (ex : ∀ c ∈ cs, PySem.W.exmOne K (.ref (tb.c c)) (.ref CS) = some true) (h1 : (a == ("__debug__" : Str)) = false) (h2 : (a == ("__classdict__" : Str)) = false) : ToldD K mg tb x cs ret := by
  subst h0
  rw [hb] at l bd
  exact ⟨a, e, g, CS, j, p1, p2, p3, p4, p5, p6, p7, p8, defArgs st, defScope st, .none, kV, doc, pm, cdv, ct, oc, an, od, osl, [a], hm, k, l, c, bd, sc, rfl, .inl hv, he, hme, hde, fun _ => rfl, ex, h1, h2⟩
end Mi
namespace Mi
open PySem PySem.Spec PyProof.Rows
/-! ### for the plain laws -/
theorem teq_ss (a b : List Nat) : teq (.str a) (.str b) = decide (a = b) := rfl
theorem teq_ii (a b : Int) : teq (.int a) (.int b) = decide (a = b) := rfl
theorem teq_bb (a b : Bool) : teq (.bl a) (.bl b) = decide (a = b) := rfl
theorem teq_nn : teq .non .non = true := rfl
theorem teq_sn (a : List Nat) : teq (.str a) .non = false := rfl
theorem teq_ns (a : List Nat) : teq .non (.str a) = false := rfl
theorem teq_in (a : Int) : teq (.int a) .non = false := rfl
theorem teq_ni (a : Int) : teq .non (.int a) = false := rfl
theorem teq_bn (a : Bool) : teq (.bl a) .non = false := rfl
theorem teq_nb (a : Bool) : teq .non (.bl a) = false := rfl
theorem teq_si (a : List Nat) (b : Int) : teq (.str a) (.int b) = false := rfl
theorem teq_is (a : List Nat) (b : Int) : teq (.int b) (.str a) = false := rfl
theorem teq_sb (a : List Nat) (b : Bool) : teq (.str a) (.bl b) = false := rfl
theorem teq_bs (a : List Nat) (b : Bool) : teq (.bl b) (.str a) = false := rfl
theorem teq_ll (a b : List T) : teq (.lst a) (.lst b) = teqL a b := rfl
theorem teq_tt (a b : List T) : teq (.tup a) (.tup b) = teqL a b := rfl
theorem teq_ln (a : List T) : teq (.lst a) .non = false := rfl
theorem teq_tn (a : List T) : teq (.tup a) .non = false := rfl
theorem teqL_nn : teqL [] [] = true := rfl
theorem teqL_cc (a b : T) (x y : List T) : teqL (a :: x) (b :: y) = (teq a b && teqL x y) := rfl
theorem teqL_nc (a : T) (x : List T) : teqL [] (a :: x) = false := rfl
theorem teqL_cn (a : T) (x : List T) : teqL (a :: x) [] = false := rfl
theorem get_set {M : Hs} {i : Nat} {x y : Ob} (h : M[i]? = some x) : (M.set i y)[i]? = some y := by
  have := (List.getElem?_eq_some_iff.mp h).1
  rw [List.getElem?_set_self this]
theorem set_same {M : Hs} {i : Nat} {x : Ob} (h : M[i]? = some x) : M.set i x = M := by
  obtain ⟨h1, h2⟩ := List.getElem?_eq_some_iff.mp h
  rw [← h2, List.set_getElem_self]
end Mi
namespace Mi
open PySem PySem.Spec PyProof.Rows L2
/-! ### the text by places -/
def top (i : Nat) : Stmt := PySem.Challenge.pw_liftstack_k03_doors_that_move.main.body.getD i (.Pass ⟨0, 0, 0, 0⟩)
abbrev st14 : Stmt := top 9
abbrev st16 : Stmt := top 11
abbrev st0 : Stmt := inClass (top 5) 0
abbrev st3 : Stmt := inClass (top 5) 3
abbrev st2 : Stmt := inClass (top 5) 2
abbrev st1 : Stmt := inClass (top 5) 1
abbrev st5 : Stmt := inClass (top 5) 5
abbrev st4 : Stmt := inClass (top 5) 4
abbrev st9 : Stmt := inClass (top 5) 9
abbrev st11 : Stmt := inClass (top 5) 11
abbrev st6 : Stmt := inClass (top 5) 6
abbrev st10 : Stmt := inClass (top 5) 10
abbrev st13 : Stmt := top 7
abbrev st7 : Stmt := inClass (top 5) 7
abbrev st8 : Stmt := inClass (top 5) 8
abbrev st12 : Stmt := top 6
abbrev st17 : Stmt := top 12
abbrev st22 : Stmt := top 17
abbrev st15 : Stmt := top 10
abbrev st18 : Stmt := top 13
abbrev st19 : Stmt := top 14
abbrev st20 : Stmt := top 15
abbrev st21 : Stmt := top 16
abbrev st23 : Stmt := top 18
/-! ### the classes: fields by place -/
def flds (c : Nat) : List Str := ([[], [], ["moves", "stands", "again", "state", "since", "until", "agains", "is_slow", "opened", "now"]] : List (List Str)).getD c []
def TBo (C cP : Nat → Addr) : Tb := ⟨C, flds, [(cP 0, fun _ _ => "_law_plain.<locals>.<lambda>"), (cP 1, fun _ _ => "_law_deed.<locals>.<lambda>")]⟩
def c_STATES_OF_DOOR : T := (.tup [(.str [99, 108, 111, 115, 101, 100]), (.str [111, 112, 101, 110, 105, 110, 103]), (.str [111, 112, 101, 110]), (.str [99, 108, 111, 115, 105, 110, 103])])
def ss_STATES_OF_DOOR : List (List Nat) := [[99, 108, 111, 115, 101, 100], [111, 112, 101, 110, 105, 110, 103], [111, 112, 101, 110], [99, 108, 111, 115, 105, 110, 103]]
abbrev cs_told : List Nat := [1]
abbrev ret_told : List Nat := [68, 111, 111, 114, 69, 114, 114, 111, 114]
/-! ### what the top has written -/
structure Fx (K : PySem.W.Frag) (mg : Str → Option Value) (C f g cc cP : Nat → Addr) (fd : Nat → FuncData) : Prop where
  xe0 : PySem.W.excIn K (C 0) [.type "ValueError", .type "Exception", .type "BaseException", .type "object"] "ValueError.__new__" = true
  xm0 : mg "LiftFault" = some (.ref (C 0))
  xk0 : PySem.W.keepIn K (.ref (C 0)) = true
  xs0 : PySem.W.subIn K (.ref (C 0)) (.type "BaseException") = some true
  xt0 : PySem.W.typeIn K (.ref (C 0)) = some (.type "type")
  xe1 : PySem.W.excIn K (C 1) [.type "ValueError", .type "Exception", .type "BaseException", .type "object"] "ValueError.__new__" = true
  xm1 : mg "DoorError" = some (.ref (C 1))
  xk1 : PySem.W.keepIn K (.ref (C 1)) = true
  xs1 : PySem.W.subIn K (.ref (C 1)) (.type "BaseException") = some true
  xt1 : PySem.W.typeIn K (.ref (C 1)) = some (.type "type")
  cl2 : Cls K (C 2)
  mk2 : Mk K (C 2) (f 0)
  mgc2 : mg "Door" = some (.ref (C 2))
  na2_moves : NoAttr K (C 2) "moves"
  na2_stands : NoAttr K (C 2) "stands"
  na2_again : NoAttr K (C 2) "again"
  na2_state : NoAttr K (C 2) "state"
  na2_since : NoAttr K (C 2) "since"
  na2_until : NoAttr K (C 2) "until"
  na2_agains : NoAttr K (C 2) "agains"
  na2_is_slow : NoAttr K (C 2) "is_slow"
  na2_opened : NoAttr K (C 2) "opened"
  na2_now : NoAttr K (C 2) "now"
  F14 : Fun K "_law_dice" "_law_dice" st14 (f 14) (fd 14)
  b14 : Binds K (fd 14) ["cell"] []
  mg14 : mg "_law_dice" = some (.ref (f 14))
  kp14 : PySem.W.keepIn K (.ref (f 14)) = true
  F16 : Fun K "_law_rounds" "_law_rounds" st16 (f 16) (fd 16)
  b16 : Binds K (fd 16) ["script", "most"] []
  mg16 : mg "_law_rounds" = some (.ref (f 16))
  kp16 : PySem.W.keepIn K (.ref (f 16)) = true
  F0 : Fun K "__init__" "Door.__init__" st0 (f 0) (fd 0)
  b0 : Binds K (fd 0) ["self", "moves", "stands", "again"] []
  me0 : Meth K (C 2) "__init__" (f 0)
  F3 : Fun K "change_at" "Door.change_at" st3 (f 3) (fd 3)
  b3 : Binds K (fd 3) ["self", "second"] []
  me3 : Meth K (C 2) "change_at" (f 3)
  F2 : Fun K "next_change" "Door.next_change" st2 (f 2) (fd 2)
  b2 : Binds K (fd 2) ["self"] []
  me2 : Meth K (C 2) "next_change" (f 2)
  F1 : Fun K "go_to" "Door.go_to" st1 (f 1) (fd 1)
  b1 : Binds K (fd 1) ["self", "now"] []
  me1 : Meth K (C 2) "go_to" (f 1)
  F5 : Fun K "turn_back" "Door.turn_back" st5 (f 5) (fd 5)
  b5 : Binds K (fd 5) ["self", "now"] []
  me5 : Meth K (C 2) "turn_back" (f 5)
  F4 : Fun K "open_it" "Door.open_it" st4 (f 4) (fd 4)
  b4 : Binds K (fd 4) ["self", "now", "is_at_floor"] []
  me4 : Meth K (C 2) "open_it" (f 4)
  F9 : Fun K "how_open" "Door.how_open" st9 (f 9) (fd 9)
  b9 : Binds K (fd 9) ["self", "now"] []
  me9 : Meth K (C 2) "how_open" (f 9)
  F11 : Fun K "closed_by" "Door.closed_by" st11 (f 11) (fd 11)
  b11 : Binds K (fd 11) ["self"] []
  me11 : Meth K (C 2) "closed_by" (f 11)
  F6 : Fun K "in_the_way" "Door.in_the_way" st6 (f 6) (fd 6)
  b6 : Binds K (fd 6) ["self", "now"] []
  me6 : Meth K (C 2) "in_the_way" (f 6)
  F10 : Fun K "may_move" "Door.may_move" st10 (f 10) (fd 10)
  b10 : Binds K (fd 10) ["self", "now"] []
  me10 : Meth K (C 2) "may_move" (f 10)
  F13 : Fun K "stand_for" "stand_for" st13 (f 13) (fd 13)
  b13 : Binds K (fd 13) ["people", "seconds", "least", "most"] []
  mg13 : mg "stand_for" = some (.ref (f 13))
  kp13 : PySem.W.keepIn K (.ref (f 13)) = true
  F7 : Fun K "hold_open" "Door.hold_open" st7 (f 7) (fd 7)
  b7 : Binds K (fd 7) ["self", "now", "seconds"] []
  me7 : Meth K (C 2) "hold_open" (f 7)
  F8 : Fun K "close_it" "Door.close_it" st8 (f 8) (fd 8)
  b8 : Binds K (fd 8) ["self", "now"] []
  me8 : Meth K (C 2) "close_it" (f 8)
  F12 : Fun K "both_closed" "both_closed" st12 (f 12) (fd 12)
  b12 : Binds K (fd 12) ["doors", "now"] []
  mg12 : mg "both_closed" = some (.ref (f 12))
  kp12 : PySem.W.keepIn K (.ref (f 12)) = true
  F22 : FunC K "_law_plain" "_law_plain" st22 (f 22) (fd 22) (cc 0)
  b22 : Binds K (fd 22) [] []
  mg22 : mg "_law_plain" = some (.ref (f 22))
  kp22 : PySem.W.keepIn K (.ref (f 22)) = true
  F15 : Fun K "_law_roll" "_law_roll" st15 (f 15) (fd 15)
  b15 : Binds K (fd 15) ["dice", "many"] []
  mg15 : mg "_law_roll" = some (.ref (f 15))
  kp15 : PySem.W.keepIn K (.ref (f 15)) = true
  F18 : Fun K "_law_long" "_law_long" st18 (f 18) (fd 18)
  b18 : Binds K (fd 18) ["own"] []
  mg18 : mg "_law_long" = some (.ref (f 18))
  kp18 : PySem.W.keepIn K (.ref (f 18)) = true
  F19 : Fun K "_law_go" "_law_go" st19 (f 19) (fd 19)
  b19 : Binds K (fd 19) ["own", "now"] []
  mg19 : mg "_law_go" = some (.ref (f 19))
  kp19 : PySem.W.keepIn K (.ref (f 19)) = true
  F20 : Fun K "_law_back" "_law_back" st20 (f 20) (fd 20)
  b20 : Binds K (fd 20) ["own", "now"] []
  mg20 : mg "_law_back" = some (.ref (f 20))
  kp20 : PySem.W.keepIn K (.ref (f 20)) = true
  F21 : FunC K "_law_deed" "_law_deed" st21 (f 21) (fd 21) (cc 1)
  b21 : Binds K (fd 21) ["dice", "door", "own"] []
  mg21 : mg "_law_deed" = some (.ref (f 21))
  kp21 : PySem.W.keepIn K (.ref (f 21)) = true
  F23 : Fun K "law" "law" st23 (f 23) (fd 23)
  b23 : Binds K (fd 23) ["script"] []
  mg23 : mg "law" = some (.ref (f 23))
  kp23 : PySem.W.keepIn K (.ref (f 23)) = true
  bi_abs : mg "abs" = none
  bi_all : mg "all" = none
  bi_int : mg "int" = none
  bi_max : mg "max" = none
  bi_min : mg "min" = none
  bi_range : mg "range" = none
  bi_sorted : mg "sorted" = none
  gm_STATES_OF_DOOR : mg "STATES_OF_DOOR" = some (.ref (g 0))
  go_STATES_OF_DOOR : ∃ (o : Obj) (its : Array Value) (n : Nat), K.lookup (g 0) = some o ∧ o.cls = .type "tuple" ∧ o.dict = none ∧ o.data = .seq its n ∧ its.size ≤ sizeLine ∧ Vals [.str ⟨[99, 108, 111, 115, 101, 100].toArray⟩, .str ⟨[111, 112, 101, 110, 105, 110, 103].toArray⟩, .str ⟨[111, 112, 101, 110].toArray⟩, .str ⟨[99, 108, 111, 115, 105, 110, 103].toArray⟩] its.toList
  told : ToldD K mg (TBo C cP) "_law_told" cs_told ret_told
  nP0_1 : cP 0 ≠ cP 1
/-- the tables of the code objects -/
structure Bx (base : Heap) (mg : Str → Option Value) (cc cP : Nat → Addr) : Prop where
  ok : True
  t0 : LamX.TabB base mg (cc 0) (cP 0)
  t1 : LamX.TabB base mg (cc 1) (cP 1)
section
variable {P : Program} {w : World} {K : PySem.W.Frag} {mg : Str → Option Value} {base : Heap} {C f g cc cP : Nat → Addr} {fd : Nat → FuncData} (Z : Fx K mg C f g cc cP fd)
theorem nf_2_go_to : ("go_to" : Str) ∉ flds 2 := by decide +kernel
theorem nf_2_next_change : ("next_change" : Str) ∉ flds 2 := by decide +kernel
theorem nf_2_change_at : ("change_at" : Str) ∉ flds 2 := by decide +kernel
theorem nf_2_open_it : ("open_it" : Str) ∉ flds 2 := by decide +kernel
theorem nf_2_turn_back : ("turn_back" : Str) ∉ flds 2 := by decide +kernel
theorem nf_2_in_the_way : ("in_the_way" : Str) ∉ flds 2 := by decide +kernel
theorem nf_2_hold_open : ("hold_open" : Str) ∉ flds 2 := by decide +kernel
theorem nf_2_close_it : ("close_it" : Str) ∉ flds 2 := by decide +kernel
theorem nf_2_how_open : ("how_open" : Str) ∉ flds 2 := by decide +kernel
theorem nf_2_may_move : ("may_move" : Str) ∉ flds 2 := by decide +kernel
theorem nf_2_closed_by : ("closed_by" : Str) ∉ flds 2 := by decide +kernel
abbrev N14 : List Str := ["cell"]
theorem sc14 : FnScope N14 ["cell"] (defScope st14) := ⟨rfl, rfl, rfl, by decide +kernel, rfl, by decide +kernel, by decide +kernel⟩
abbrev N16 : List Str := ["script", "most", "cells", "cell"]
theorem sc16 : FnScope N16 ["script", "most"] (defScope st16) := ⟨rfl, rfl, rfl, by decide +kernel, rfl, by decide +kernel, by decide +kernel⟩
abbrev N0 : List Str := ["self", "moves", "stands", "again"]
theorem sc0 : FnScope N0 ["self", "moves", "stands", "again"] (defScope st0) := ⟨rfl, rfl, rfl, by decide +kernel, rfl, by decide +kernel, by decide +kernel⟩
abbrev N3 : List Str := ["self", "second", "place"]
theorem sc3 : FnScope N3 ["self", "second"] (defScope st3) := ⟨rfl, rfl, rfl, by decide +kernel, rfl, by decide +kernel, by decide +kernel⟩
abbrev N2 : List Str := ["self"]
theorem sc2 : FnScope N2 ["self"] (defScope st2) := ⟨rfl, rfl, rfl, by decide +kernel, rfl, by decide +kernel, by decide +kernel⟩
abbrev N1 : List Str := ["self", "now"]
theorem sc1 : FnScope N1 ["self", "now"] (defScope st1) := ⟨rfl, rfl, rfl, by decide +kernel, rfl, by decide +kernel, by decide +kernel⟩
abbrev N5 : List Str := ["self", "now", "gone", "took"]
theorem sc5 : FnScope N5 ["self", "now"] (defScope st5) := ⟨rfl, rfl, rfl, by decide +kernel, rfl, by decide +kernel, by decide +kernel⟩
abbrev N4 : List Str := ["self", "now", "is_at_floor"]
theorem sc4 : FnScope N4 ["self", "now", "is_at_floor"] (defScope st4) := ⟨rfl, rfl, rfl, by decide +kernel, rfl, by decide +kernel, by decide +kernel⟩
abbrev N9 : List Str := ["self", "now", "gone", "whole"]
theorem sc9 : FnScope N9 ["self", "now"] (defScope st9) := ⟨rfl, rfl, rfl, by decide +kernel, rfl, by decide +kernel, by decide +kernel⟩
abbrev N11 : List Str := ["self", "begin"]
theorem sc11 : FnScope N11 ["self"] (defScope st11) := ⟨rfl, rfl, rfl, by decide +kernel, rfl, by decide +kernel, by decide +kernel⟩
abbrev N6 : List Str := ["self", "now"]
theorem sc6 : FnScope N6 ["self", "now"] (defScope st6) := ⟨rfl, rfl, rfl, by decide +kernel, rfl, by decide +kernel, by decide +kernel⟩
abbrev N10 : List Str := ["self", "now"]
theorem sc10 : FnScope N10 ["self", "now"] (defScope st10) := ⟨rfl, rfl, rfl, by decide +kernel, rfl, by decide +kernel, by decide +kernel⟩
abbrev N13 : List Str := ["people", "seconds", "least", "most"]
theorem sc13 : FnScope N13 ["people", "seconds", "least", "most"] (defScope st13) := ⟨rfl, rfl, rfl, by decide +kernel, rfl, by decide +kernel, by decide +kernel⟩
abbrev N7 : List Str := ["self", "now", "seconds"]
theorem sc7 : FnScope N7 ["self", "now", "seconds"] (defScope st7) := ⟨rfl, rfl, rfl, by decide +kernel, rfl, by decide +kernel, by decide +kernel⟩
abbrev N8 : List Str := ["self", "now"]
theorem sc8 : FnScope N8 ["self", "now"] (defScope st8) := ⟨rfl, rfl, rfl, by decide +kernel, rfl, by decide +kernel, by decide +kernel⟩
abbrev N12 : List Str := ["doors", "now", "door"]
theorem sc12 : FnScope N12 ["doors", "now"] (defScope st12) := ⟨rfl, rfl, rfl, by decide +kernel, rfl, by decide +kernel, by decide +kernel⟩
abbrev N22 : List Str := ["bad", "door", "told", "f"]
theorem sc22 : FnScope N22 [] (defScope st22) := ⟨rfl, rfl, rfl, by decide +kernel, rfl, by decide +kernel, by decide +kernel⟩
abbrev N15 : List Str := ["dice", "many", "found"]
theorem sc15 : FnScope N15 ["dice", "many"] (defScope st15) := ⟨rfl, rfl, rfl, by decide +kernel, rfl, by decide +kernel, by decide +kernel⟩
abbrev N18 : List Str := ["own"]
theorem sc18 : FnScope N18 ["own"] (defScope st18) := ⟨rfl, rfl, rfl, by decide +kernel, rfl, by decide +kernel, by decide +kernel⟩
abbrev N19 : List Str := ["own", "now", "begin", "fresh"]
theorem sc19 : FnScope N19 ["own", "now"] (defScope st19) := ⟨rfl, rfl, rfl, by decide +kernel, rfl, by decide +kernel, by decide +kernel⟩
abbrev N20 : List Str := ["own", "now", "gone", "took"]
theorem sc20 : FnScope N20 ["own", "now"] (defScope st20) := ⟨rfl, rfl, rfl, by decide +kernel, rfl, by decide +kernel, by decide +kernel⟩
abbrev N21 : List Str := ["dice", "door", "own", "at", "good", "now", "opens", "seconds", "sort"]
theorem sc21 : FnScope N21 ["dice", "door", "own"] (defScope st21) := ⟨rfl, rfl, rfl, by decide +kernel, rfl, by decide +kernel, by decide +kernel⟩
abbrev N23 : List Str := ["script", "again", "dice", "door", "gone", "later", "least", "left", "most", "moves", "now", "open_part", "other", "own", "part", "people", "seconds", "shut", "stands", "step", "whole"]
theorem sc23 : FnScope N23 ["script"] (defScope st23) := ⟨rfl, rfl, rfl, by decide +kernel, rfl, by decide +kernel, by decide +kernel⟩
include Z
theorem xk0 : ∀ X : Cx, X.K = K → X.mg = mg → XOk X (TBo C cP) 0 "LiftFault" := fun X e1 e2 => ⟨e1 ▸ Z.xe0, e2 ▸ Z.xm0, e1 ▸ Z.xk0, e1 ▸ Z.xs0, e1 ▸ Z.xt0⟩
theorem xk1 : ∀ X : Cx, X.K = K → X.mg = mg → XOk X (TBo C cP) 1 "DoorError" := fun X e1 e2 => ⟨e1 ▸ Z.xe1, e2 ▸ Z.xm1, e1 ▸ Z.xk1, e1 ▸ Z.xs1, e1 ▸ Z.xt1⟩
theorem cf2 : CF K (TBo C cP) 2 := ⟨Z.cl2, by show (flds 2).Nodup; decide +kernel, by show (flds 2).length ≤ 100; decide⟩
abbrev ft_again : List (Nat × Nat) := [(2, 2)]
theorem ftab_again : FTab K (TBo C cP) "again" ft_again := (FTab.one rfl (cf2 Z) Z.na2_again)
abbrev ft_agains : List (Nat × Nat) := [(2, 6)]
theorem ftab_agains : FTab K (TBo C cP) "agains" ft_agains := (FTab.one rfl (cf2 Z) Z.na2_agains)
abbrev ft_is_slow : List (Nat × Nat) := [(2, 7)]
theorem ftab_is_slow : FTab K (TBo C cP) "is_slow" ft_is_slow := (FTab.one rfl (cf2 Z) Z.na2_is_slow)
abbrev ft_moves : List (Nat × Nat) := [(2, 0)]
theorem ftab_moves : FTab K (TBo C cP) "moves" ft_moves := (FTab.one rfl (cf2 Z) Z.na2_moves)
abbrev ft_now : List (Nat × Nat) := [(2, 9)]
theorem ftab_now : FTab K (TBo C cP) "now" ft_now := (FTab.one rfl (cf2 Z) Z.na2_now)
abbrev ft_opened : List (Nat × Nat) := [(2, 8)]
theorem ftab_opened : FTab K (TBo C cP) "opened" ft_opened := (FTab.one rfl (cf2 Z) Z.na2_opened)
abbrev ft_since : List (Nat × Nat) := [(2, 4)]
theorem ftab_since : FTab K (TBo C cP) "since" ft_since := (FTab.one rfl (cf2 Z) Z.na2_since)
abbrev ft_stands : List (Nat × Nat) := [(2, 1)]
theorem ftab_stands : FTab K (TBo C cP) "stands" ft_stands := (FTab.one rfl (cf2 Z) Z.na2_stands)
abbrev ft_state : List (Nat × Nat) := [(2, 3)]
theorem ftab_state : FTab K (TBo C cP) "state" ft_state := (FTab.one rfl (cf2 Z) Z.na2_state)
abbrev ft_until : List (Nat × Nat) := [(2, 5)]
theorem ftab_until : FTab K (TBo C cP) "until" ft_until := (FTab.one rfl (cf2 Z) Z.na2_until)
theorem gs_STATES_OF_DOOR (H : Hp) : SqT K H (g 0) (ss_STATES_OF_DOOR.map fun s => V.str ⟨s.toArray⟩) := by obtain ⟨o, its, n, h1, h2, h3, h4, h5, h6⟩ := Z.go_STATES_OF_DOOR; exact .inr ⟨o, its, n, h1, h2, h4, h5, h6⟩
theorem gk_STATES_OF_DOOR : ∃ o, K.lookup (g 0) = some o ∧ o.cls = .type "tuple" ∧ o.dict = none := by obtain ⟨o, its, n, h1, h2, h3, h4, h5, h6⟩ := Z.go_STATES_OF_DOOR; exact ⟨o, h1, h2, h3⟩
theorem gr_STATES_OF_DOOR : RelV (.ref (g 0)) (.ref (g 0)) := rfl
theorem gq_STATES_OF_DOOR (F : Hp) (ρ : List Addr) : Rep K F ρ c_STATES_OF_DOOR (.ref (g 0)) := .tup _ _ _ (gs_STATES_OF_DOOR Z F) (.cons _ _ _ _ (.str _) (.cons _ _ _ _ (.str _) (.cons _ _ _ _ (.str _) (.cons _ _ _ _ (.str _) (.nil)))))
theorem tx22 (B : Bx base mg cc cP) {X : Cx} (h1 : X.base = base := by rfl) (h2 : X.mg = mg := by rfl) (h3 : X.env.code = .ref (cc 0) := by rfl) : TabX X (TBo C cP).T (cc 0) (cP 0) (fun _ _ => "_law_plain.<locals>.<lambda>") := ⟨by rw [h1, h2]; exact B.t0, h3, by simp [TBo], by
  intro p hp e
  simp only [TBo, List.mem_cons, List.not_mem_nil, or_false] at hp
  rcases hp with rfl | rfl
  · rfl
  · exact absurd e (Ne.symm Z.nP0_1)
  ⟩
theorem tx21 (B : Bx base mg cc cP) {X : Cx} (h1 : X.base = base := by rfl) (h2 : X.mg = mg := by rfl) (h3 : X.env.code = .ref (cc 1) := by rfl) : TabX X (TBo C cP).T (cc 1) (cP 1) (fun _ _ => "_law_deed.<locals>.<lambda>") := ⟨by rw [h1, h2]; exact B.t1, h3, by simp [TBo], by
  intro p hp e
  simp only [TBo, List.mem_cons, List.not_mem_nil, or_false] at hp
  rcases hp with rfl | rfl
  · exact absurd e Z.nP0_1
  · rfl
  ⟩
/-! _law_dice -/
def b_law_dice : SM := mSeq (mIf (mBool (mChain (fLt) (fLt) (mOp2 fSub (mC (.int 0)) (mC (.int 10))) (mVar 0) (mC (.int 10)))) (mRet (mLstR (mCons (mApp fAbs (mCons (mVar 0) (mNil))) (mCons (mC (.int 0)) (mCons (mC (.int 2)) (mNil)))))) (mSkip)) (mRet (mLstR (mCons (mVar 0) (mCons (mOp2 fAdd (mC (.int 1)) (mOp2 fMod (mApp fInt (mCons (mVar 0) (mNil))) (mC (.int 1009)))) (mCons (mApp fInt (mCons (mOp2 (fGe) (mVar 0) (mOp2 fPow (mC (.int 10)) (mC (.int 18)))) (mNil))) (mNil))))))
def g_law_dice : FnM := mBody 1 b_law_dice
theorem ok14 (B : Bx base mg cc cP) : CallOk P w K mg base (TBo C cP) 1 (f 14) 1 g_law_dice := by
  refine CallOk.of (ps := ["cell"]) (fn_ok Z.F14 sc14 rfl fun cdv A outer s H E hr => ?_) Z.b14
  have hN : N14.Nodup := sc14.nd
  have hu := hr.units
  have tk := takes_of (X := cxOf (L2.CX P w) P w K mg base N14 "_law_dice" (defScope st14) (f 14) cdv A outer s H E) rfl rfl rfl rfl
  exact (mS_cons (mS_if (mT_chain op_lt op_lt op2_lt op2_lt (mE_op op_sub op2_sub mE_int mE_int) (mE_var 0) mE_int) (mS_one (mS_ret (mE_lstR (mA_cons (mE_callB call_abs opn_abs Z.bi_abs (mA_cons (mE_var 0) mA_nil)) (mA_cons mE_int (mA_cons mE_int mA_nil))) (Len.cons (Len.cons (Len.cons Len.nil)))))) mS_skip) (mS_one (mS_ret (mE_lstR (mA_cons (mE_var 0) (mA_cons (mE_op opr_add op2_add mE_int (mE_op op_modN op2_mod (mE_callTy call_int1 opn_int Z.bi_int (mA_cons (mE_var 0) mA_nil)) mE_int)) (mA_cons (mE_callTy call_int1 opn_int Z.bi_int (mA_cons (mE_cmp op_ge op2_ge (mE_var 0) (mE_op op_pow op2_pow mE_int mE_int)) mA_nil)) mA_nil))) (Len.cons (Len.cons (Len.cons Len.nil)))))))
/-! _law_rounds -/
def b_law_rounds : SM := mSeq (mSet 2 (mSl (mVar 0) (mNoP) (mPt (mVar 1)))) (mSeq (mIf (mBool (mOp2 (fEqP false) (mVar 2) (mLst (mNil)))) (mSet 2 (mLst (mCons (mC (.int 0)) (mNil)))) (mSkip)) (mRet (mLC (mIV (mVar 2)) [3] (gN 3) (mYes) (mCall g_law_dice (mCons (mVar 3) (mNil))))))
def g_law_rounds : FnM := mBody 4 b_law_rounds
theorem ok16 (B : Bx base mg cc cP) : CallOk P w K mg base (TBo C cP) 2 (f 16) 2 g_law_rounds := by
  refine CallOk.of (ps := ["script", "most"]) (fn_ok Z.F16 sc16 rfl fun cdv A outer s H E hr => ?_) Z.b16
  have hN : N16.Nodup := sc16.nd
  have hu := hr.units
  have tk := takes_of (X := cxOf (L2.CX P w) P w K mg base N16 "_law_rounds" (defScope st16) (f 16) cdv A outer s H E) rfl rfl rfl rfl
  exact (mS_cons (mS_set 2 (mE_sl (mE_var 0) mO_none (mO_some (mE_var 1))) hN) (mS_cons (mS_if (mT_cmp (opr_eqP hu) op2_eqP (mE_var 2) (mE_lst mA_nil Len.nil)) (mS_one (mS_set 2 (mE_lst (mA_cons mE_int mA_nil) (Len.cons Len.nil)) hN)) mS_skip) (mS_one (mS_ret (mE_lc (own := [("cell", 3)]) hN (mI_val (mE_var 2)) (blkOk_by (by show blkC N16 (defScope st16) _ _ = true; decide +kernel)) (fun _ _ _ _ _ => (mG_name 3 [3] hN)) (fun _ _ _ _ _ => mT_yes) (fun _ _ _ _ _ => (mE_call (ok14 Z B) (hr.mono (by decide)) Z.mg14 Z.kp14 takes0 (mA_cons (mE_var 3) mA_nil) (Len.cons Len.nil))))))))
/-! Door.__init__ -/
def b_Door_init : SM := mSeq (mIf (mOr (mBool (mOp2 (fLt) (mApp fMin2 (mCons (mVar 1) (mCons (mVar 2) (mNil)))) (mC (.int 1)))) (mBool (mOp2 (fLt) (mVar 3) (mC (.int 0))))) (mRaise 1) (mSkip)) (mSeq (mSetFld ft_moves (mVar 0) (mVar 1)) (mSeq (mSetFld ft_stands (mVar 0) (mVar 2)) (mSeq (mSetFld ft_again (mVar 0) (mVar 3)) (mSeq (mSetFld ft_state (mVar 0) (mC (.str [99, 108, 111, 115, 101, 100]))) (mSeq (mSetFld ft_since (mVar 0) (mC (.int 0))) (mSeq (mSetFld ft_until (mVar 0) (mC (.int 0))) (mSeq (mSetFld ft_agains (mVar 0) (mC (.int 0))) (mSeq (mSetFld ft_is_slow (mVar 0) (mC (.bl false))) (mSeq (mSetFld ft_opened (mVar 0) (mC (.int 0))) (mSetFld ft_now (mVar 0) (mC (.int 0))))))))))))
def g_Door_init : FnM := mBody 4 b_Door_init
theorem ok0 (B : Bx base mg cc cP) : CallOk P w K mg base (TBo C cP) 1 (f 0) 4 g_Door_init := by
  refine CallOk.of (ps := ["self", "moves", "stands", "again"]) (fn_ok Z.F0 sc0 rfl fun cdv A outer s H E hr => ?_) Z.b0
  have hN : N0.Nodup := sc0.nd
  have hu := hr.units
  have tk := takes_of (X := cxOf (L2.CX P w) P w K mg base N0 "Door.__init__" (defScope st0) (f 0) cdv A outer s H E) rfl rfl rfl rfl
  exact (mS_cons (mS_if (mT_or (mT_cmp op_lt op2_lt (mE_callB (call_min2 rfl) opn_min2 Z.bi_min (mA_cons (mE_var 1) (mA_cons (mE_var 2) mA_nil))) mE_int) (pw_or1 (mT_cmp op_lt op2_lt (mE_var 3) mE_int))).pt (mS_one (mS_raise (xk1 Z _ rfl rfl) tk)) mS_skip) (mS_cons (mS_fld (ftab_moves Z) (mE_var 0) (mE_var 1)) (mS_cons (mS_fld (ftab_stands Z) (mE_var 0) (mE_var 2)) (mS_cons (mS_fld (ftab_again Z) (mE_var 0) (mE_var 3)) (mS_cons (mS_fld (ftab_state Z) (mE_var 0) (mE_str [99, 108, 111, 115, 101, 100])) (mS_cons (mS_fld (ftab_since Z) (mE_var 0) mE_int) (mS_cons (mS_fld (ftab_until Z) (mE_var 0) mE_int) (mS_cons (mS_fld (ftab_agains Z) (mE_var 0) mE_int) (mS_cons (mS_fld (ftab_is_slow Z) (mE_var 0) mE_bl) (mS_cons (mS_fld (ftab_opened Z) (mE_var 0) mE_int) (mS_one (mS_fld (ftab_now Z) (mE_var 0) mE_int))))))))))))
/-! Door.change_at -/
def b_Door_change_at : SM := mSeq (mSet 2 (mOp2 fMod (mOp2 fAdd (mOp1 (fTix ss_STATES_OF_DOOR) (mFld ft_state (mVar 0))) (mC (.int 1))) (mC (.int 4)))) (mSeq (mSetFld ft_state (mVar 0) (mOp2 fIx (mC c_STATES_OF_DOOR) (mVar 2))) (mSeq (mSetFld ft_since (mVar 0) (mVar 1)) (mSeq (mIf (mBool (mOp2 (fEqP false) (mFld ft_state (mVar 0)) (mC (.str [111, 112, 101, 110])))) (mSetFld ft_until (mVar 0) (mOp2 fAdd (mVar 1) (mFld ft_stands (mVar 0)))) (mSkip)) (mIf (mBool (mOp2 (fEqP false) (mFld ft_state (mVar 0)) (mC (.str [99, 108, 111, 115, 101, 100])))) (mSeq (mSetFld ft_agains (mVar 0) (mC (.int 0))) (mSetFld ft_is_slow (mVar 0) (mC (.bl false)))) (mSkip)))))
def g_Door_change_at : FnM := mBody 3 b_Door_change_at
theorem ok3 (B : Bx base mg cc cP) : CallOk P w K mg base (TBo C cP) 1 (f 3) 2 g_Door_change_at := by
  refine CallOk.of (ps := ["self", "second"]) (fn_ok Z.F3 sc3 rfl fun cdv A outer s H E hr => ?_) Z.b3
  have hN : N3.Nodup := sc3.nd
  have hu := hr.units
  have tk := takes_of (X := cxOf (L2.CX P w) P w K mg base N3 "Door.change_at" (defScope st3) (f 3) cdv A outer s H E) rfl rfl rfl rfl
  exact (mS_cons (mS_set 2 (mE_op op_modN op2_mod (mE_op opr_add op2_add (mE_tupIx Z.gm_STATES_OF_DOOR (gk_STATES_OF_DOOR Z) (gs_STATES_OF_DOOR Z) (mE_fld (ftab_state Z) (mE_var 0))) mE_int) mE_int) hN) (mS_cons (mS_fld (ftab_state Z) (mE_var 0) (mE_ix hu (mE_glob Z.gm_STATES_OF_DOOR (gr_STATES_OF_DOOR Z) (gq_STATES_OF_DOOR Z)) (mE_var 2))) (mS_cons (mS_fld (ftab_since Z) (mE_var 0) (mE_var 1)) (mS_cons (mS_if (mT_cmp (opr_eqP hu) op2_eqP (mE_fld (ftab_state Z) (mE_var 0)) (mE_str [111, 112, 101, 110])) (mS_one (mS_fld (ftab_until Z) (mE_var 0) (mE_op opr_add op2_add (mE_var 1) (mE_fld (ftab_stands Z) (mE_var 0))))) mS_skip) (mS_one (mS_if (mT_cmp (opr_eqP hu) op2_eqP (mE_fld (ftab_state Z) (mE_var 0)) (mE_str [99, 108, 111, 115, 101, 100])) (mS_cons (mS_fld (ftab_agains Z) (mE_var 0) mE_int) (mS_one (mS_fld (ftab_is_slow Z) (mE_var 0) mE_bl))) mS_skip))))))
/-! Door.next_change -/
def b_Door_next_change : SM := mSeq (mIf (mBool (mOp2 (fEqP false) (mFld ft_state (mVar 0)) (mC (.str [99, 108, 111, 115, 101, 100])))) (mRet (mC .non)) (mSkip)) (mSeq (mIf (mBool (mOp2 (fEqP false) (mFld ft_state (mVar 0)) (mC (.str [111, 112, 101, 110])))) (mRet (mFld ft_until (mVar 0))) (mSkip)) (mRet (mOp2 fAdd (mFld ft_since (mVar 0)) (mOp2 fMul (mFld ft_moves (mVar 0)) (mIfE (mAnd (mBool (mOp2 (fEqP false) (mFld ft_state (mVar 0)) (mC (.str [99, 108, 111, 115, 105, 110, 103])))) (mTru (mFld ft_is_slow (mVar 0)))) (mC (.int 2)) (mC (.int 1)))))))
def g_Door_next_change : FnM := mBody 1 b_Door_next_change
theorem ok2 (B : Bx base mg cc cP) : CallOk P w K mg base (TBo C cP) 1 (f 2) 1 g_Door_next_change := by
  refine CallOk.of (ps := ["self"]) (fn_ok Z.F2 sc2 rfl fun cdv A outer s H E hr => ?_) Z.b2
  have hN : N2.Nodup := sc2.nd
  have hu := hr.units
  have tk := takes_of (X := cxOf (L2.CX P w) P w K mg base N2 "Door.next_change" (defScope st2) (f 2) cdv A outer s H E) rfl rfl rfl rfl
  exact (mS_cons (mS_if (mT_cmp (opr_eqP hu) op2_eqP (mE_fld (ftab_state Z) (mE_var 0)) (mE_str [99, 108, 111, 115, 101, 100])) (mS_one (mS_ret mE_non)) mS_skip) (mS_cons (mS_if (mT_cmp (opr_eqP hu) op2_eqP (mE_fld (ftab_state Z) (mE_var 0)) (mE_str [111, 112, 101, 110])) (mS_one (mS_ret (mE_fld (ftab_until Z) (mE_var 0)))) mS_skip) (mS_one (mS_ret (mE_op opr_add op2_add (mE_fld (ftab_since Z) (mE_var 0)) (mE_op opr_mul op2_mul (mE_fld (ftab_moves Z) (mE_var 0)) (mE_ifE (mT_and (mT_cmp (opr_eqP hu) op2_eqP (mE_fld (ftab_state Z) (mE_var 0)) (mE_str [99, 108, 111, 115, 105, 110, 103])) (pw_and1 (mT_truth (mE_fld (ftab_is_slow Z) (mE_var 0))))).pt mE_int mE_int)))))))
/-! Door.go_to -/
def b_Door_go_to : SM := mSeq (mIf (mBool (mOp2 (fLt) (mVar 1) (mFld ft_now (mVar 0)))) (mRaise 1) (mSkip)) (mSeq (mWhile 1000000 (mAnd (mBool (mOp2 (fIsN) (mMeth [(2, g_Door_next_change)] (mVar 0) mNil) (mC .non))) (mBool (mOp2 (fLe) (mMeth [(2, g_Door_next_change)] (mVar 0) mNil) (mVar 1)))) (mExp (mMeth [(2, g_Door_change_at)] (mVar 0) (mCons (mMeth [(2, g_Door_next_change)] (mVar 0) mNil) (mNil))))) (mSeq (mSetFld ft_now (mVar 0) (mVar 1)) (mRet (mFld ft_state (mVar 0)))))
def g_Door_go_to : FnM := mBody 2 b_Door_go_to
theorem ok1 (B : Bx base mg cc cP) : CallOk P w K mg base (TBo C cP) 2 (f 1) 2 g_Door_go_to := by
  refine CallOk.of (ps := ["self", "now"]) (fn_ok Z.F1 sc1 rfl fun cdv A outer s H E hr => ?_) Z.b1
  have hN : N1.Nodup := sc1.nd
  have hu := hr.units
  have tk := takes_of (X := cxOf (L2.CX P w) P w K mg base N1 "Door.go_to" (defScope st1) (f 1) cdv A outer s H E) rfl rfl rfl rfl
  exact (mS_cons (mS_if (mT_cmp op_lt op2_lt (mE_var 1) (mE_fld (ftab_now Z) (mE_var 0))) (mS_one (mS_raise (xk1 Z _ rfl rfl) tk)) mS_skip) (mS_cons (mS_while 1000000 (passes_of rfl) (mT_and (mT_cmp opr_isN op2_isN (mE_meth0 (MTab.one (cf2 Z) (nf_2_next_change) Z.me2 (ok2 Z B)) (hr.mono (by decide)) tk (mE_var 0)) mE_non) (pw_and1 (mT_cmp op_le op2_le (mE_meth0 (MTab.one (cf2 Z) (nf_2_next_change) Z.me2 (ok2 Z B)) (hr.mono (by decide)) tk (mE_var 0)) (mE_var 1)))).pt (mS_one (mS_exp (mE_meth (MTab.one (cf2 Z) (nf_2_change_at) Z.me3 (ok3 Z B)) (hr.mono (by decide)) tk (mE_var 0) (mA_cons (mE_meth0 (MTab.one (cf2 Z) (nf_2_next_change) Z.me2 (ok2 Z B)) (hr.mono (by decide)) tk (mE_var 0)) mA_nil) (Len.cons Len.nil))))) (mS_cons (mS_fld (ftab_now Z) (mE_var 0) (mE_var 1)) (mS_one (mS_ret (mE_fld (ftab_state Z) (mE_var 0)))))))
/-! Door.turn_back -/
def b_Door_turn_back : SM := mSeq (mSet 2 (mOp2 fSub (mVar 1) (mFld ft_since (mVar 0)))) (mSeq (mSet 3 (mIfE (mTru (mFld ft_is_slow (mVar 0))) (mOp2 fDiv (mOp2 fAdd (mVar 2) (mC (.int 1))) (mC (.int 2))) (mVar 2))) (mSeq (mSetFld ft_state (mVar 0) (mC (.str [111, 112, 101, 110, 105, 110, 103]))) (mSetFld ft_since (mVar 0) (mOp2 fSub (mVar 1) (mOp2 fSub (mFld ft_moves (mVar 0)) (mVar 3))))))
def g_Door_turn_back : FnM := mBody 4 b_Door_turn_back
theorem ok5 (B : Bx base mg cc cP) : CallOk P w K mg base (TBo C cP) 1 (f 5) 2 g_Door_turn_back := by
  refine CallOk.of (ps := ["self", "now"]) (fn_ok Z.F5 sc5 rfl fun cdv A outer s H E hr => ?_) Z.b5
  have hN : N5.Nodup := sc5.nd
  have hu := hr.units
  have tk := takes_of (X := cxOf (L2.CX P w) P w K mg base N5 "Door.turn_back" (defScope st5) (f 5) cdv A outer s H E) rfl rfl rfl rfl
  exact (mS_cons (mS_set 2 (mE_op op_sub op2_sub (mE_var 1) (mE_fld (ftab_since Z) (mE_var 0))) hN) (mS_cons (mS_set 3 (mE_ifE (mT_truth (mE_fld (ftab_is_slow Z) (mE_var 0))) (mE_op op_fdivN op2_div (mE_op opr_add op2_add (mE_var 2) mE_int) mE_int) (mE_var 2)) hN) (mS_cons (mS_fld (ftab_state Z) (mE_var 0) (mE_str [111, 112, 101, 110, 105, 110, 103])) (mS_one (mS_fld (ftab_since Z) (mE_var 0) (mE_op op_sub op2_sub (mE_var 1) (mE_op op_sub op2_sub (mE_fld (ftab_moves Z) (mE_var 0)) (mE_var 3))))))))
/-! Door.open_it -/
def b_Door_open_it : SM := mSeq (mExp (mMeth [(2, g_Door_go_to)] (mVar 0) (mCons (mVar 1) (mNil)))) (mSeq (mIf (mOr (mNot (mTru (mVar 2))) (mBool (mOp2 (fEqP false) (mFld ft_state (mVar 0)) (mC (.str [111, 112, 101, 110, 105, 110, 103]))))) (mRaise 1) (mSkip)) (mIf (mBool (mOp2 (fEqP false) (mFld ft_state (mVar 0)) (mC (.str [111, 112, 101, 110])))) (mSetFld ft_until (mVar 0) (mOp2 fAdd (mVar 1) (mFld ft_stands (mVar 0)))) (mIf (mBool (mOp2 (fEqP false) (mFld ft_state (mVar 0)) (mC (.str [99, 108, 111, 115, 101, 100])))) (mSeq (mSetFld ft_state (mVar 0) (mC (.str [111, 112, 101, 110, 105, 110, 103]))) (mSeq (mSetFld ft_since (mVar 0) (mVar 1)) (mAugFld ft_opened fIAdd (mVar 0) (mC (.int 1))))) (mExp (mMeth [(2, g_Door_turn_back)] (mVar 0) (mCons (mVar 1) (mNil)))))))
def g_Door_open_it : FnM := mBody 3 b_Door_open_it
theorem ok4 (B : Bx base mg cc cP) : CallOk P w K mg base (TBo C cP) 3 (f 4) 3 g_Door_open_it := by
  refine CallOk.of (ps := ["self", "now", "is_at_floor"]) (fn_ok Z.F4 sc4 rfl fun cdv A outer s H E hr => ?_) Z.b4
  have hN : N4.Nodup := sc4.nd
  have hu := hr.units
  have tk := takes_of (X := cxOf (L2.CX P w) P w K mg base N4 "Door.open_it" (defScope st4) (f 4) cdv A outer s H E) rfl rfl rfl rfl
  exact (mS_cons (mS_exp (mE_meth (MTab.one (cf2 Z) (nf_2_go_to) Z.me1 (ok1 Z B)) (hr.mono (by decide)) tk (mE_var 0) (mA_cons (mE_var 1) mA_nil) (Len.cons Len.nil))) (mS_cons (mS_if (mT_or (mT_not (mT_truth (mE_var 2))) (pw_or1 (mT_cmp (opr_eqP hu) op2_eqP (mE_fld (ftab_state Z) (mE_var 0)) (mE_str [111, 112, 101, 110, 105, 110, 103])))).pt (mS_one (mS_raise (xk1 Z _ rfl rfl) tk)) mS_skip) (mS_one (mS_if (mT_cmp (opr_eqP hu) op2_eqP (mE_fld (ftab_state Z) (mE_var 0)) (mE_str [111, 112, 101, 110])) (mS_one (mS_fld (ftab_until Z) (mE_var 0) (mE_op opr_add op2_add (mE_var 1) (mE_fld (ftab_stands Z) (mE_var 0))))) (mS_one (mS_if (mT_cmp (opr_eqP hu) op2_eqP (mE_fld (ftab_state Z) (mE_var 0)) (mE_str [99, 108, 111, 115, 101, 100])) (mS_cons (mS_fld (ftab_state Z) (mE_var 0) (mE_str [111, 112, 101, 110, 105, 110, 103])) (mS_cons (mS_fld (ftab_since Z) (mE_var 0) (mE_var 1)) (mS_one (mS_augfld (ftab_opened Z) opr_iadd op2_iadd (mE_var 0) mE_int)))) (mS_one (mS_exp (mE_meth (MTab.one (cf2 Z) (nf_2_turn_back) Z.me5 (ok5 Z B)) (hr.mono (by decide)) tk (mE_var 0) (mA_cons (mE_var 1) mA_nil) (Len.cons Len.nil))))))))))
/-! Door.how_open -/
def b_Door_how_open : SM := mSeq (mExp (mMeth [(2, g_Door_go_to)] (mVar 0) (mCons (mVar 1) (mNil)))) (mSeq (mIf (mBool (mOp2 (fInG false) (mFld ft_state (mVar 0)) (mTup (mCons (mC (.str [99, 108, 111, 115, 101, 100])) (mCons (mC (.str [111, 112, 101, 110])) (mNil)))))) (mRet (mIfE (mBool (mOp2 (fEqP false) (mFld ft_state (mVar 0)) (mC (.str [111, 112, 101, 110])))) (mC (.int 1000)) (mC (.int 0)))) (mSkip)) (mSeq (mSet 3 (mOp2 fMul (mFld ft_moves (mVar 0)) (mIfE (mAnd (mBool (mOp2 (fEqP false) (mFld ft_state (mVar 0)) (mC (.str [99, 108, 111, 115, 105, 110, 103])))) (mTru (mFld ft_is_slow (mVar 0)))) (mC (.int 2)) (mC (.int 1))))) (mSeq (mSet 2 (mOp2 fSub (mVar 1) (mFld ft_since (mVar 0)))) (mRet (mOp2 fDiv (mOp2 fMul (mC (.int 1000)) (mIfE (mBool (mOp2 (fEqP false) (mFld ft_state (mVar 0)) (mC (.str [111, 112, 101, 110, 105, 110, 103])))) (mVar 2) (mOp2 fSub (mVar 3) (mVar 2)))) (mVar 3))))))
def g_Door_how_open : FnM := mBody 4 b_Door_how_open
theorem ok9 (B : Bx base mg cc cP) : CallOk P w K mg base (TBo C cP) 3 (f 9) 2 g_Door_how_open := by
  refine CallOk.of (ps := ["self", "now"]) (fn_ok Z.F9 sc9 rfl fun cdv A outer s H E hr => ?_) Z.b9
  have hN : N9.Nodup := sc9.nd
  have hu := hr.units
  have tk := takes_of (X := cxOf (L2.CX P w) P w K mg base N9 "Door.how_open" (defScope st9) (f 9) cdv A outer s H E) rfl rfl rfl rfl
  exact (mS_cons (mS_exp (mE_meth (MTab.one (cf2 Z) (nf_2_go_to) Z.me1 (ok1 Z B)) (hr.mono (by decide)) tk (mE_var 0) (mA_cons (mE_var 1) mA_nil) (Len.cons Len.nil))) (mS_cons (mS_if (mT_cmp (opr_in hu) op2_inG (mE_fld (ftab_state Z) (mE_var 0)) (mE_tup (mA_cons (mE_str [99, 108, 111, 115, 101, 100]) (mA_cons (mE_str [111, 112, 101, 110]) mA_nil)) (Len.cons (Len.cons Len.nil)))) (mS_one (mS_ret (mE_ifE (mT_cmp (opr_eqP hu) op2_eqP (mE_fld (ftab_state Z) (mE_var 0)) (mE_str [111, 112, 101, 110])) mE_int mE_int))) mS_skip) (mS_cons (mS_set 3 (mE_op opr_mul op2_mul (mE_fld (ftab_moves Z) (mE_var 0)) (mE_ifE (mT_and (mT_cmp (opr_eqP hu) op2_eqP (mE_fld (ftab_state Z) (mE_var 0)) (mE_str [99, 108, 111, 115, 105, 110, 103])) (pw_and1 (mT_truth (mE_fld (ftab_is_slow Z) (mE_var 0))))).pt mE_int mE_int)) hN) (mS_cons (mS_set 2 (mE_op op_sub op2_sub (mE_var 1) (mE_fld (ftab_since Z) (mE_var 0))) hN) (mS_one (mS_ret (mE_op op_fdivN op2_div (mE_op opr_mul op2_mul mE_int (mE_ifE (mT_cmp (opr_eqP hu) op2_eqP (mE_fld (ftab_state Z) (mE_var 0)) (mE_str [111, 112, 101, 110, 105, 110, 103])) (mE_var 2) (mE_op op_sub op2_sub (mE_var 3) (mE_var 2)))) (mE_var 3))))))))
/-! Door.closed_by -/
def b_Door_closed_by : SM := mSeq (mIf (mBool (mOp2 (fEqP false) (mFld ft_state (mVar 0)) (mC (.str [99, 108, 111, 115, 101, 100])))) (mRet (mFld ft_now (mVar 0))) (mSkip)) (mSeq (mIf (mBool (mOp2 (fEqP false) (mFld ft_state (mVar 0)) (mC (.str [99, 108, 111, 115, 105, 110, 103])))) (mRet (mMeth [(2, g_Door_next_change)] (mVar 0) mNil)) (mSkip)) (mSeq (mSet 1 (mIfE (mBool (mOp2 (fEqP false) (mFld ft_state (mVar 0)) (mC (.str [111, 112, 101, 110])))) (mFld ft_until (mVar 0)) (mOp2 fAdd (mMeth [(2, g_Door_next_change)] (mVar 0) mNil) (mFld ft_stands (mVar 0))))) (mRet (mOp2 fAdd (mVar 1) (mOp2 fMul (mFld ft_moves (mVar 0)) (mIfE (mTru (mFld ft_is_slow (mVar 0))) (mC (.int 2)) (mC (.int 1))))))))
def g_Door_closed_by : FnM := mBody 2 b_Door_closed_by
theorem ok11 (B : Bx base mg cc cP) : CallOk P w K mg base (TBo C cP) 2 (f 11) 1 g_Door_closed_by := by
  refine CallOk.of (ps := ["self"]) (fn_ok Z.F11 sc11 rfl fun cdv A outer s H E hr => ?_) Z.b11
  have hN : N11.Nodup := sc11.nd
  have hu := hr.units
  have tk := takes_of (X := cxOf (L2.CX P w) P w K mg base N11 "Door.closed_by" (defScope st11) (f 11) cdv A outer s H E) rfl rfl rfl rfl
  exact (mS_cons (mS_if (mT_cmp (opr_eqP hu) op2_eqP (mE_fld (ftab_state Z) (mE_var 0)) (mE_str [99, 108, 111, 115, 101, 100])) (mS_one (mS_ret (mE_fld (ftab_now Z) (mE_var 0)))) mS_skip) (mS_cons (mS_if (mT_cmp (opr_eqP hu) op2_eqP (mE_fld (ftab_state Z) (mE_var 0)) (mE_str [99, 108, 111, 115, 105, 110, 103])) (mS_one (mS_ret (mE_meth0 (MTab.one (cf2 Z) (nf_2_next_change) Z.me2 (ok2 Z B)) (hr.mono (by decide)) tk (mE_var 0)))) mS_skip) (mS_cons (mS_set 1 (mE_ifE (mT_cmp (opr_eqP hu) op2_eqP (mE_fld (ftab_state Z) (mE_var 0)) (mE_str [111, 112, 101, 110])) (mE_fld (ftab_until Z) (mE_var 0)) (mE_op opr_add op2_add (mE_meth0 (MTab.one (cf2 Z) (nf_2_next_change) Z.me2 (ok2 Z B)) (hr.mono (by decide)) tk (mE_var 0)) (mE_fld (ftab_stands Z) (mE_var 0)))) hN) (mS_one (mS_ret (mE_op opr_add op2_add (mE_var 1) (mE_op opr_mul op2_mul (mE_fld (ftab_moves Z) (mE_var 0)) (mE_ifE (mT_truth (mE_fld (ftab_is_slow Z) (mE_var 0))) mE_int mE_int))))))))
/-! Door.in_the_way -/
def b_Door_in_the_way : SM := mSeq (mExp (mMeth [(2, g_Door_go_to)] (mVar 0) (mCons (mVar 1) (mNil)))) (mSeq (mIf (mBool (mOp2 (fEqP true) (mFld ft_state (mVar 0)) (mC (.str [99, 108, 111, 115, 105, 110, 103])))) (mRaise 1) (mSkip)) (mSeq (mIf (mBool (mOp2 (fLt) (mFld ft_agains (mVar 0)) (mFld ft_again (mVar 0)))) (mSeq (mAugFld ft_agains fIAdd (mVar 0) (mC (.int 1))) (mSeq (mExp (mMeth [(2, g_Door_turn_back)] (mVar 0) (mCons (mVar 1) (mNil)))) (mRet (mC (.bl true))))) (mSkip)) (mSeq (mIf (mNot (mTru (mFld ft_is_slow (mVar 0)))) (mSeq (mSetFld ft_since (mVar 0) (mOp2 fSub (mVar 1) (mOp2 fMul (mC (.int 2)) (mOp2 fSub (mVar 1) (mFld ft_since (mVar 0)))))) (mSetFld ft_is_slow (mVar 0) (mC (.bl true)))) (mSkip)) (mRet (mC (.bl false))))))
def g_Door_in_the_way : FnM := mBody 2 b_Door_in_the_way
theorem ok6 (B : Bx base mg cc cP) : CallOk P w K mg base (TBo C cP) 3 (f 6) 2 g_Door_in_the_way := by
  refine CallOk.of (ps := ["self", "now"]) (fn_ok Z.F6 sc6 rfl fun cdv A outer s H E hr => ?_) Z.b6
  have hN : N6.Nodup := sc6.nd
  have hu := hr.units
  have tk := takes_of (X := cxOf (L2.CX P w) P w K mg base N6 "Door.in_the_way" (defScope st6) (f 6) cdv A outer s H E) rfl rfl rfl rfl
  exact (mS_cons (mS_exp (mE_meth (MTab.one (cf2 Z) (nf_2_go_to) Z.me1 (ok1 Z B)) (hr.mono (by decide)) tk (mE_var 0) (mA_cons (mE_var 1) mA_nil) (Len.cons Len.nil))) (mS_cons (mS_if (mT_cmp (opr_neP hu) op2_eqP (mE_fld (ftab_state Z) (mE_var 0)) (mE_str [99, 108, 111, 115, 105, 110, 103])) (mS_one (mS_raise (xk1 Z _ rfl rfl) tk)) mS_skip) (mS_cons (mS_if (mT_cmp op_lt op2_lt (mE_fld (ftab_agains Z) (mE_var 0)) (mE_fld (ftab_again Z) (mE_var 0))) (mS_cons (mS_augfld (ftab_agains Z) opr_iadd op2_iadd (mE_var 0) mE_int) (mS_cons (mS_exp (mE_meth (MTab.one (cf2 Z) (nf_2_turn_back) Z.me5 (ok5 Z B)) (hr.mono (by decide)) tk (mE_var 0) (mA_cons (mE_var 1) mA_nil) (Len.cons Len.nil))) (mS_one (mS_ret mE_bl)))) mS_skip) (mS_cons (mS_if (mT_not (mT_truth (mE_fld (ftab_is_slow Z) (mE_var 0)))) (mS_cons (mS_fld (ftab_since Z) (mE_var 0) (mE_op op_sub op2_sub (mE_var 1) (mE_op opr_mul op2_mul mE_int (mE_op op_sub op2_sub (mE_var 1) (mE_fld (ftab_since Z) (mE_var 0)))))) (mS_one (mS_fld (ftab_is_slow Z) (mE_var 0) mE_bl))) mS_skip) (mS_one (mS_ret mE_bl))))))
/-! Door.may_move -/
def b_Door_may_move : SM := mRet (mOp2 (fEqP false) (mMeth [(2, g_Door_go_to)] (mVar 0) (mCons (mVar 1) (mNil))) (mC (.str [99, 108, 111, 115, 101, 100])))
def g_Door_may_move : FnM := mBody 2 b_Door_may_move
theorem ok10 (B : Bx base mg cc cP) : CallOk P w K mg base (TBo C cP) 3 (f 10) 2 g_Door_may_move := by
  refine CallOk.of (ps := ["self", "now"]) (fn_ok Z.F10 sc10 rfl fun cdv A outer s H E hr => ?_) Z.b10
  have hN : N10.Nodup := sc10.nd
  have hu := hr.units
  have tk := takes_of (X := cxOf (L2.CX P w) P w K mg base N10 "Door.may_move" (defScope st10) (f 10) cdv A outer s H E) rfl rfl rfl rfl
  exact (mS_one (mS_ret (mE_cmp (opr_eqP hu) op2_eqP (mE_meth (MTab.one (cf2 Z) (nf_2_go_to) Z.me1 (ok1 Z B)) (hr.mono (by decide)) tk (mE_var 0) (mA_cons (mE_var 1) mA_nil) (Len.cons Len.nil)) (mE_str [99, 108, 111, 115, 101, 100]))))
/-! stand_for -/
def b_stand_for : SM := mSeq (mIf (mOr (mBool (mOp2 (fLt) (mApp fMin2 (mCons (mVar 0) (mCons (mVar 1) (mNil)))) (mC (.int 0)))) (mOr (mBool (mOp2 (fLt) (mVar 2) (mC (.int 1)))) (mBool (mOp2 (fLt) (mVar 3) (mVar 2))))) (mRaise 1) (mSkip)) (mRet (mApp fMax2 (mCons (mVar 2) (mCons (mApp fMin2 (mCons (mVar 3) (mCons (mOp2 fMul (mVar 0) (mVar 1)) (mNil)))) (mNil)))))
def g_stand_for : FnM := mBody 4 b_stand_for
theorem ok13 (B : Bx base mg cc cP) : CallOk P w K mg base (TBo C cP) 1 (f 13) 4 g_stand_for := by
  refine CallOk.of (ps := ["people", "seconds", "least", "most"]) (fn_ok Z.F13 sc13 rfl fun cdv A outer s H E hr => ?_) Z.b13
  have hN : N13.Nodup := sc13.nd
  have hu := hr.units
  have tk := takes_of (X := cxOf (L2.CX P w) P w K mg base N13 "stand_for" (defScope st13) (f 13) cdv A outer s H E) rfl rfl rfl rfl
  exact (mS_cons (mS_if (mT_or (mT_cmp op_lt op2_lt (mE_callB (call_min2 rfl) opn_min2 Z.bi_min (mA_cons (mE_var 0) (mA_cons (mE_var 1) mA_nil))) mE_int) (mT_or (mT_cmp op_lt op2_lt (mE_var 2) mE_int) (pw_or1 (mT_cmp op_lt op2_lt (mE_var 3) (mE_var 2))))).pt (mS_one (mS_raise (xk1 Z _ rfl rfl) tk)) mS_skip) (mS_one (mS_ret (mE_callB (call_max2 rfl) opn_max2 Z.bi_max (mA_cons (mE_var 2) (mA_cons (mE_callB (call_min2 rfl) opn_min2 Z.bi_min (mA_cons (mE_var 3) (mA_cons (mE_op opr_mul op2_mul (mE_var 0) (mE_var 1)) mA_nil))) mA_nil))))))
/-! Door.hold_open -/
def b_Door_hold_open : SM := mSeq (mExp (mMeth [(2, g_Door_go_to)] (mVar 0) (mCons (mVar 1) (mNil)))) (mSeq (mIf (mOr (mBool (mOp2 (fEqP true) (mFld ft_state (mVar 0)) (mC (.str [111, 112, 101, 110])))) (mBool (mOp2 (fLt) (mVar 2) (mC (.int 1))))) (mRaise 1) (mSkip)) (mSetFld ft_until (mVar 0) (mApp fMax2 (mCons (mFld ft_until (mVar 0)) (mCons (mOp2 fAdd (mVar 1) (mVar 2)) (mNil))))))
def g_Door_hold_open : FnM := mBody 3 b_Door_hold_open
theorem ok7 (B : Bx base mg cc cP) : CallOk P w K mg base (TBo C cP) 3 (f 7) 3 g_Door_hold_open := by
  refine CallOk.of (ps := ["self", "now", "seconds"]) (fn_ok Z.F7 sc7 rfl fun cdv A outer s H E hr => ?_) Z.b7
  have hN : N7.Nodup := sc7.nd
  have hu := hr.units
  have tk := takes_of (X := cxOf (L2.CX P w) P w K mg base N7 "Door.hold_open" (defScope st7) (f 7) cdv A outer s H E) rfl rfl rfl rfl
  exact (mS_cons (mS_exp (mE_meth (MTab.one (cf2 Z) (nf_2_go_to) Z.me1 (ok1 Z B)) (hr.mono (by decide)) tk (mE_var 0) (mA_cons (mE_var 1) mA_nil) (Len.cons Len.nil))) (mS_cons (mS_if (mT_or (mT_cmp (opr_neP hu) op2_eqP (mE_fld (ftab_state Z) (mE_var 0)) (mE_str [111, 112, 101, 110])) (pw_or1 (mT_cmp op_lt op2_lt (mE_var 2) mE_int))).pt (mS_one (mS_raise (xk1 Z _ rfl rfl) tk)) mS_skip) (mS_one (mS_fld (ftab_until Z) (mE_var 0) (mE_callB (call_max2 rfl) opn_max2 Z.bi_max (mA_cons (mE_fld (ftab_until Z) (mE_var 0)) (mA_cons (mE_op opr_add op2_add (mE_var 1) (mE_var 2)) mA_nil)))))))
/-! Door.close_it -/
def b_Door_close_it : SM := mSeq (mExp (mMeth [(2, g_Door_go_to)] (mVar 0) (mCons (mVar 1) (mNil)))) (mSeq (mIf (mBool (mOp2 (fEqP true) (mFld ft_state (mVar 0)) (mC (.str [111, 112, 101, 110])))) (mRaise 1) (mSkip)) (mSeq (mSetFld ft_state (mVar 0) (mC (.str [99, 108, 111, 115, 105, 110, 103]))) (mSetFld ft_since (mVar 0) (mVar 1))))
def g_Door_close_it : FnM := mBody 2 b_Door_close_it
theorem ok8 (B : Bx base mg cc cP) : CallOk P w K mg base (TBo C cP) 3 (f 8) 2 g_Door_close_it := by
  refine CallOk.of (ps := ["self", "now"]) (fn_ok Z.F8 sc8 rfl fun cdv A outer s H E hr => ?_) Z.b8
  have hN : N8.Nodup := sc8.nd
  have hu := hr.units
  have tk := takes_of (X := cxOf (L2.CX P w) P w K mg base N8 "Door.close_it" (defScope st8) (f 8) cdv A outer s H E) rfl rfl rfl rfl
  exact (mS_cons (mS_exp (mE_meth (MTab.one (cf2 Z) (nf_2_go_to) Z.me1 (ok1 Z B)) (hr.mono (by decide)) tk (mE_var 0) (mA_cons (mE_var 1) mA_nil) (Len.cons Len.nil))) (mS_cons (mS_if (mT_cmp (opr_neP hu) op2_eqP (mE_fld (ftab_state Z) (mE_var 0)) (mE_str [111, 112, 101, 110])) (mS_one (mS_raise (xk1 Z _ rfl rfl) tk)) mS_skip) (mS_cons (mS_fld (ftab_state Z) (mE_var 0) (mE_str [99, 108, 111, 115, 105, 110, 103])) (mS_one (mS_fld (ftab_since Z) (mE_var 0) (mE_var 1))))))
/-! both_closed -/
def b_both_closed : SM := mSeq (mFor (mIV (mVar 0)) (gN 2) (mIf (mBool (mOp2 (fLt) (mVar 1) (mFld ft_now (mVar 2)))) (mRaise 1) (mSkip))) (mRet (mApp fAll (mCons (mLC (mIV (mVar 0)) [2] (gN 2) (mYes) (mMeth [(2, g_Door_may_move)] (mVar 2) (mCons (mVar 1) (mNil)))) (mNil))))
def g_both_closed : FnM := mBody 3 b_both_closed
theorem ok12 (B : Bx base mg cc cP) : CallOk P w K mg base (TBo C cP) 4 (f 12) 2 g_both_closed := by
  refine CallOk.of (ps := ["doors", "now"]) (fn_ok Z.F12 sc12 rfl fun cdv A outer s H E hr => ?_) Z.b12
  have hN : N12.Nodup := sc12.nd
  have hu := hr.units
  have tk := takes_of (X := cxOf (L2.CX P w) P w K mg base N12 "both_closed" (defScope st12) (f 12) cdv A outer s H E) rfl rfl rfl rfl
  exact (mS_cons (mS_for (passes_of rfl) (mI_val (mE_var 0)) (mG_name 2 [2] hN) (mS_one (mS_if (mT_cmp op_lt op2_lt (mE_var 1) (mE_fld (ftab_now Z) (mE_var 2))) (mS_one (mS_raise (xk1 Z _ rfl rfl) tk)) mS_skip))) (mS_one (mS_ret (mE_callB (cr_all rfl) opn_all Z.bi_all (mA_cons (mE_lc (own := [("door", 2)]) hN (mI_val (mE_var 0)) (blkOk_by (by show blkC N12 (defScope st12) _ _ = true; decide +kernel)) (fun _ _ _ _ _ => (mG_name 2 [2] hN)) (fun _ _ _ _ _ => mT_yes) (fun _ _ _ _ _ => (mE_meth (MTab.one (cf2 Z) (nf_2_may_move) Z.me10 (ok10 Z B)) (hr.mono (by decide)) takes0 (mE_var 2) (mA_cons (mE_var 1) mA_nil) (Len.cons Len.nil)))) mA_nil)))))
/-! _law_plain -/
def b_law_plain : SM := mSeq (mSet 1 (mMake 2 10 g_Door_init (mCons (mC (.int 3)) (mCons (mC (.int 4)) (mCons (mC (.int 1)) (mNil)))))) (mSeq (mSet 2 (mLst (mCons (mMeth [(2, g_Door_open_it)] (mVar 1) (mCons (mC (.int 0)) (mCons (mC (.bl true)) (mNil)))) (mCons (mMeth [(2, g_Door_go_to)] (mVar 1) (mCons (mC (.int 2)) (mNil))) (mCons (mMeth [(2, g_Door_how_open)] (mVar 1) (mCons (mC (.int 2)) (mNil))) (mCons (mMeth [(2, g_Door_go_to)] (mVar 1) (mCons (mC (.int 3)) (mNil))) (mCons (mMeth [(2, g_Door_closed_by)] (mVar 1) mNil) (mCons (mMeth [(2, g_Door_go_to)] (mVar 1) (mCons (mC (.int 8)) (mNil))) (mCons (mMeth [(2, g_Door_in_the_way)] (mVar 1) (mCons (mC (.int 8)) (mNil))) (mCons (mFld ft_state (mVar 1)) (mNil))))))))))) (mSeq (mSet 2 (mOp2 fAdd (mVar 2) (mLst (mCons (mMeth [(2, g_Door_go_to)] (mVar 1) (mCons (mC (.int 9)) (mNil))) (mCons (mMeth [(2, g_Door_go_to)] (mVar 1) (mCons (mC (.int 13)) (mNil))) (mCons (mMeth [(2, g_Door_in_the_way)] (mVar 1) (mCons (mC (.int 14)) (mNil))) (mCons (mFld ft_state (mVar 1)) (mCons (mFld ft_is_slow (mVar 1)) (mCons (mMeth [(2, g_Door_closed_by)] (mVar 1) mNil) (mCons (mMeth [(2, g_Door_may_move)] (mVar 1) (mCons (mC (.int 20)) (mNil))) (mCons (mFld ft_opened (mVar 1)) (mNil)))))))))))) (mSeq (mSet 2 (mOp2 fAdd (mVar 2) (mLst (mCons (mCall g_stand_for (mCons (mC (.int 3)) (mCons (mC (.int 2)) (mCons (mC (.int 4)) (mCons (mC (.int 9)) (mNil)))))) (mNil))))) (mUn 0 (mUn 0 (mUn 0 (mUn 0 (mSeq (mIf (mBool (mOp2 (fEqP true) (runBad cs_told [mMake 2 10 g_Door_init (mCons (mC (.int 0)) (mCons (mC (.int 1)) (mCons (mC (.int 1)) (mNil)))), mMake 2 10 g_Door_init (mCons (mC (.int 1)) (mCons (mC (.int 0)) (mCons (mC (.int 1)) (mNil)))), mMake 2 10 g_Door_init (mCons (mC (.int 1)) (mCons (mC (.int 1)) (mCons (mOp1 fNeg (mC (.int 1))) (mNil)))), mMeth [(2, g_Door_go_to)] (mVar 1) (mCons (mC (.int 19)) (mNil)), mMeth [(2, g_Door_open_it)] (mVar 1) (mCons (mC (.int 20)) (mCons (mC (.bl false)) (mNil))), mMeth [(2, g_Door_open_it)] (mVar 1) (mCons (mC (.int 19)) (mCons (mC (.bl true)) (mNil))), mMeth [(2, g_Door_in_the_way)] (mVar 1) (mCons (mC (.int 20)) (mNil)), mMeth [(2, g_Door_hold_open)] (mVar 1) (mCons (mC (.int 20)) (mCons (mC (.int 5)) (mNil))), mMeth [(2, g_Door_close_it)] (mVar 1) (mCons (mC (.int 20)) (mNil)), mMeth [(2, g_Door_how_open)] (mVar 1) (mCons (mC (.int 19)) (mNil)), mMeth [(2, g_Door_may_move)] (mVar 1) (mCons (mC (.int 19)) (mNil)), mCall g_both_closed (mCons (mTup (mCons (mMake 2 10 g_Door_init (mCons (mC (.int 1)) (mCons (mC (.int 1)) (mCons (mC (.int 1)) (mNil))))) (mCons (mVar 1) (mNil)))) (mCons (mC (.int 5)) (mNil))), mCall g_stand_for (mCons (mOp1 fNeg (mC (.int 1))) (mCons (mC (.int 1)) (mCons (mC (.int 1)) (mCons (mC (.int 1)) (mNil))))), mCall g_stand_for (mCons (mC (.int 1)) (mCons (mOp1 fNeg (mC (.int 1))) (mCons (mC (.int 1)) (mCons (mC (.int 1)) (mNil))))), mCall g_stand_for (mCons (mC (.int 1)) (mCons (mC (.int 1)) (mCons (mC (.int 0)) (mCons (mC (.int 1)) (mNil))))), mCall g_stand_for (mCons (mC (.int 1)) (mCons (mC (.int 1)) (mCons (mC (.int 2)) (mCons (mC (.int 1)) (mNil)))))]) (mC (.lst [])))) (mRet (mC (.bl false))) (mSkip)) (mSeq (mIf (mBool (mOp2 (fEqP true) (mC c_STATES_OF_DOOR) (mTup (mCons (mC (.str [99, 108, 111, 115, 101, 100])) (mCons (mC (.str [111, 112, 101, 110, 105, 110, 103])) (mCons (mC (.str [111, 112, 101, 110])) (mCons (mC (.str [99, 108, 111, 115, 105, 110, 103])) (mNil)))))))) (mRet (mC (.bl false))) (mSkip)) (mRet (mOp2 (fEqP false) (mVar 2) (mLst (mCons (mC .non) (mCons (mC (.str [111, 112, 101, 110, 105, 110, 103])) (mCons (mC (.int 666)) (mCons (mC (.str [111, 112, 101, 110])) (mCons (mC (.int 10)) (mCons (mC (.str [99, 108, 111, 115, 105, 110, 103])) (mCons (mC (.bl true)) (mCons (mC (.str [111, 112, 101, 110, 105, 110, 103])) (mCons (mC (.str [111, 112, 101, 110])) (mCons (mC (.str [99, 108, 111, 115, 105, 110, 103])) (mCons (mC (.bl false)) (mCons (mC (.str [99, 108, 111, 115, 105, 110, 103])) (mCons (mC (.bl true)) (mCons (mC (.int 18)) (mCons (mC (.bl true)) (mCons (mC (.int 1)) (mCons (mC (.int 6)) (mNil))))))))))))))))))))))))))))))
def g_law_plain : FnM := mBody 4 b_law_plain
theorem ok22 (B : Bx base mg cc cP) : CallOk P w K mg base (TBo C cP) 7 (f 22) 0 g_law_plain := by
  refine CallOk.of (ps := []) (fn_okC Z.F22 sc22 rfl fun A outer s H E hr => ?_) Z.b22
  have hN : N22.Nodup := sc22.nd
  have hu := hr.units
  have tk := takes_of (X := cxOf (L2.CX P w) P w K mg base N22 "_law_plain" (defScope st22) (f 22) (.ref (cc 0)) A outer s H E) rfl rfl rfl rfl
  exact (mS_cons (mS_set 1 (mE_make Z.mk2 rfl (ok0 Z B) (hr.mono (by decide)) Z.mgc2 tk (mA_cons mE_int (mA_cons mE_int (mA_cons mE_int mA_nil))) (Len.cons (Len.cons (Len.cons Len.nil)))) hN) (mS_cons (mS_set 2 (mE_lst (mA_cons (mE_meth (MTab.one (cf2 Z) (nf_2_open_it) Z.me4 (ok4 Z B)) (hr.mono (by decide)) tk (mE_var 1) (mA_cons mE_int (mA_cons mE_bl mA_nil)) (Len.cons (Len.cons Len.nil))) (mA_cons (mE_meth (MTab.one (cf2 Z) (nf_2_go_to) Z.me1 (ok1 Z B)) (hr.mono (by decide)) tk (mE_var 1) (mA_cons mE_int mA_nil) (Len.cons Len.nil)) (mA_cons (mE_meth (MTab.one (cf2 Z) (nf_2_how_open) Z.me9 (ok9 Z B)) (hr.mono (by decide)) tk (mE_var 1) (mA_cons mE_int mA_nil) (Len.cons Len.nil)) (mA_cons (mE_meth (MTab.one (cf2 Z) (nf_2_go_to) Z.me1 (ok1 Z B)) (hr.mono (by decide)) tk (mE_var 1) (mA_cons mE_int mA_nil) (Len.cons Len.nil)) (mA_cons (mE_meth0 (MTab.one (cf2 Z) (nf_2_closed_by) Z.me11 (ok11 Z B)) (hr.mono (by decide)) tk (mE_var 1)) (mA_cons (mE_meth (MTab.one (cf2 Z) (nf_2_go_to) Z.me1 (ok1 Z B)) (hr.mono (by decide)) tk (mE_var 1) (mA_cons mE_int mA_nil) (Len.cons Len.nil)) (mA_cons (mE_meth (MTab.one (cf2 Z) (nf_2_in_the_way) Z.me6 (ok6 Z B)) (hr.mono (by decide)) tk (mE_var 1) (mA_cons mE_int mA_nil) (Len.cons Len.nil)) (mA_cons (mE_fld (ftab_state Z) (mE_var 1)) mA_nil)))))))) (Len.cons (Len.cons (Len.cons (Len.cons (Len.cons (Len.cons (Len.cons (Len.cons Len.nil))))))))) hN) (mS_cons (mS_set 2 (mE_op opr_add op2_add (mE_var 2) (mE_lst (mA_cons (mE_meth (MTab.one (cf2 Z) (nf_2_go_to) Z.me1 (ok1 Z B)) (hr.mono (by decide)) tk (mE_var 1) (mA_cons mE_int mA_nil) (Len.cons Len.nil)) (mA_cons (mE_meth (MTab.one (cf2 Z) (nf_2_go_to) Z.me1 (ok1 Z B)) (hr.mono (by decide)) tk (mE_var 1) (mA_cons mE_int mA_nil) (Len.cons Len.nil)) (mA_cons (mE_meth (MTab.one (cf2 Z) (nf_2_in_the_way) Z.me6 (ok6 Z B)) (hr.mono (by decide)) tk (mE_var 1) (mA_cons mE_int mA_nil) (Len.cons Len.nil)) (mA_cons (mE_fld (ftab_state Z) (mE_var 1)) (mA_cons (mE_fld (ftab_is_slow Z) (mE_var 1)) (mA_cons (mE_meth0 (MTab.one (cf2 Z) (nf_2_closed_by) Z.me11 (ok11 Z B)) (hr.mono (by decide)) tk (mE_var 1)) (mA_cons (mE_meth (MTab.one (cf2 Z) (nf_2_may_move) Z.me10 (ok10 Z B)) (hr.mono (by decide)) tk (mE_var 1) (mA_cons mE_int mA_nil) (Len.cons Len.nil)) (mA_cons (mE_fld (ftab_opened Z) (mE_var 1)) mA_nil)))))))) (Len.cons (Len.cons (Len.cons (Len.cons (Len.cons (Len.cons (Len.cons (Len.cons Len.nil)))))))))) hN) (mS_cons (mS_set 2 (mE_op opr_add op2_add (mE_var 2) (mE_lst (mA_cons (mE_call (ok13 Z B) (hr.mono (by decide)) Z.mg13 Z.kp13 tk (mA_cons mE_int (mA_cons mE_int (mA_cons mE_int (mA_cons mE_int mA_nil)))) (Len.cons (Len.cons (Len.cons (Len.cons Len.nil))))) mA_nil) (Len.cons Len.nil))) hN) (mS_bad0 0 (pa_lcons (pe_lamv (tx22 Z B) ⟨LamX.lamS_by (by show LamX.lamSB (defScope st22) _ = true; decide +kernel), rfl, by intros; rfl⟩) (pa_lcons (pe_lamv (tx22 Z B) ⟨LamX.lamS_by (by show LamX.lamSB (defScope st22) _ = true; decide +kernel), rfl, by intros; rfl⟩) (pa_lcons (pe_lamv (tx22 Z B) ⟨LamX.lamS_by (by show LamX.lamSB (defScope st22) _ = true; decide +kernel), rfl, by intros; rfl⟩) (pa_lcons (pe_lamv (tx22 Z B) ⟨LamX.lamS_by (by show LamX.lamSB (defScope st22) _ = true; decide +kernel), rfl, by intros; rfl⟩) (pa_lcons (pe_lamv (tx22 Z B) ⟨LamX.lamS_by (by show LamX.lamSB (defScope st22) _ = true; decide +kernel), rfl, by intros; rfl⟩) pa_lnil))))) (mS_bad1 0 (pa_lcons (pe_lamv (tx22 Z B) ⟨LamX.lamS_by (by show LamX.lamSB (defScope st22) _ = true; decide +kernel), rfl, by intros; rfl⟩) (pa_lcons (pe_lamv (tx22 Z B) ⟨LamX.lamS_by (by show LamX.lamSB (defScope st22) _ = true; decide +kernel), rfl, by intros; rfl⟩) (pa_lcons (pe_lamv (tx22 Z B) ⟨LamX.lamS_by (by show LamX.lamSB (defScope st22) _ = true; decide +kernel), rfl, by intros; rfl⟩) (pa_lcons (pe_lamv (tx22 Z B) ⟨LamX.lamS_by (by show LamX.lamSB (defScope st22) _ = true; decide +kernel), rfl, by intros; rfl⟩) pa_lnil)))) (mS_bad1 0 (pa_lcons (pe_lamv (tx22 Z B) ⟨LamX.lamS_by (by show LamX.lamSB (defScope st22) _ = true; decide +kernel), rfl, by intros; rfl⟩) (pa_lcons (pe_lamv (tx22 Z B) ⟨LamX.lamS_by (by show LamX.lamSB (defScope st22) _ = true; decide +kernel), rfl, by intros; rfl⟩) (pa_lcons (pe_lamv (tx22 Z B) ⟨LamX.lamS_by (by show LamX.lamSB (defScope st22) _ = true; decide +kernel), rfl, by intros; rfl⟩) (pa_lcons (pe_lamv (tx22 Z B) ⟨LamX.lamS_by (by show LamX.lamSB (defScope st22) _ = true; decide +kernel), rfl, by intros; rfl⟩) pa_lnil)))) (mS_bad1 0 (pa_lcons (pe_lamv (tx22 Z B) ⟨LamX.lamS_by (by show LamX.lamSB (defScope st22) _ = true; decide +kernel), rfl, by intros; rfl⟩) (pa_lcons (pe_lamv (tx22 Z B) ⟨LamX.lamS_by (by show LamX.lamSB (defScope st22) _ = true; decide +kernel), rfl, by intros; rfl⟩) (pa_lcons (pe_lamv (tx22 Z B) ⟨LamX.lamS_by (by show LamX.lamSB (defScope st22) _ = true; decide +kernel), rfl, by intros; rfl⟩) pa_lnil))) (mS_badIf (mT_bad hu (mE_bad (k := 4) 0 3 Z.told (hr.mono (by decide)) (LamBs.cons _ _ _ _ (⟨LamX.lamS_by (by show LamX.lamSB (defScope st22) _ = true; decide +kernel), rfl, by intros; rfl⟩ : LamOk _ _) (fun A2 outer2 s2 H2 E2 f2 c2 hr2 => (mE_make Z.mk2 rfl (ok0 Z B) (hr2.mono (by decide)) Z.mgc2 (takes_of rfl rfl rfl rfl) (mA_cons mE_int (mA_cons mE_int (mA_cons mE_int mA_nil))) (Len.cons (Len.cons (Len.cons Len.nil))))) (LamBs.cons _ _ _ _ (⟨LamX.lamS_by (by show LamX.lamSB (defScope st22) _ = true; decide +kernel), rfl, by intros; rfl⟩ : LamOk _ _) (fun A2 outer2 s2 H2 E2 f2 c2 hr2 => (mE_make Z.mk2 rfl (ok0 Z B) (hr2.mono (by decide)) Z.mgc2 (takes_of rfl rfl rfl rfl) (mA_cons mE_int (mA_cons mE_int (mA_cons mE_int mA_nil))) (Len.cons (Len.cons (Len.cons Len.nil))))) (LamBs.cons _ _ _ _ (⟨LamX.lamS_by (by show LamX.lamSB (defScope st22) _ = true; decide +kernel), rfl, by intros; rfl⟩ : LamOk _ _) (fun A2 outer2 s2 H2 E2 f2 c2 hr2 => (mE_make Z.mk2 rfl (ok0 Z B) (hr2.mono (by decide)) Z.mgc2 (takes_of rfl rfl rfl rfl) (mA_cons mE_int (mA_cons mE_int (mA_cons (mE_un un_neg op1_neg mE_int) mA_nil))) (Len.cons (Len.cons (Len.cons Len.nil))))) (LamBs.cons _ _ _ _ (⟨LamX.lamS_by (by show LamX.lamSB (defScope st22) _ = true; decide +kernel), rfl, by intros; rfl⟩ : LamOk _ _) (fun A2 outer2 s2 H2 E2 f2 c2 hr2 => (mE_meth (MTab.one (cf2 Z) (nf_2_go_to) Z.me1 (ok1 Z B)) (hr2.mono (by decide)) (takes_of rfl rfl rfl rfl) (mE_var 1) (mA_cons mE_int mA_nil) (Len.cons Len.nil))) (LamBs.cons _ _ _ _ (⟨LamX.lamS_by (by show LamX.lamSB (defScope st22) _ = true; decide +kernel), rfl, by intros; rfl⟩ : LamOk _ _) (fun A2 outer2 s2 H2 E2 f2 c2 hr2 => (mE_meth (MTab.one (cf2 Z) (nf_2_open_it) Z.me4 (ok4 Z B)) (hr2.mono (by decide)) (takes_of rfl rfl rfl rfl) (mE_var 1) (mA_cons mE_int (mA_cons mE_bl mA_nil)) (Len.cons (Len.cons Len.nil)))) (LamBs.cons _ _ _ _ (⟨LamX.lamS_by (by show LamX.lamSB (defScope st22) _ = true; decide +kernel), rfl, by intros; rfl⟩ : LamOk _ _) (fun A2 outer2 s2 H2 E2 f2 c2 hr2 => (mE_meth (MTab.one (cf2 Z) (nf_2_open_it) Z.me4 (ok4 Z B)) (hr2.mono (by decide)) (takes_of rfl rfl rfl rfl) (mE_var 1) (mA_cons mE_int (mA_cons mE_bl mA_nil)) (Len.cons (Len.cons Len.nil)))) (LamBs.cons _ _ _ _ (⟨LamX.lamS_by (by show LamX.lamSB (defScope st22) _ = true; decide +kernel), rfl, by intros; rfl⟩ : LamOk _ _) (fun A2 outer2 s2 H2 E2 f2 c2 hr2 => (mE_meth (MTab.one (cf2 Z) (nf_2_in_the_way) Z.me6 (ok6 Z B)) (hr2.mono (by decide)) (takes_of rfl rfl rfl rfl) (mE_var 1) (mA_cons mE_int mA_nil) (Len.cons Len.nil))) (LamBs.cons _ _ _ _ (⟨LamX.lamS_by (by show LamX.lamSB (defScope st22) _ = true; decide +kernel), rfl, by intros; rfl⟩ : LamOk _ _) (fun A2 outer2 s2 H2 E2 f2 c2 hr2 => (mE_meth (MTab.one (cf2 Z) (nf_2_hold_open) Z.me7 (ok7 Z B)) (hr2.mono (by decide)) (takes_of rfl rfl rfl rfl) (mE_var 1) (mA_cons mE_int (mA_cons mE_int mA_nil)) (Len.cons (Len.cons Len.nil)))) (LamBs.cons _ _ _ _ (⟨LamX.lamS_by (by show LamX.lamSB (defScope st22) _ = true; decide +kernel), rfl, by intros; rfl⟩ : LamOk _ _) (fun A2 outer2 s2 H2 E2 f2 c2 hr2 => (mE_meth (MTab.one (cf2 Z) (nf_2_close_it) Z.me8 (ok8 Z B)) (hr2.mono (by decide)) (takes_of rfl rfl rfl rfl) (mE_var 1) (mA_cons mE_int mA_nil) (Len.cons Len.nil))) (LamBs.cons _ _ _ _ (⟨LamX.lamS_by (by show LamX.lamSB (defScope st22) _ = true; decide +kernel), rfl, by intros; rfl⟩ : LamOk _ _) (fun A2 outer2 s2 H2 E2 f2 c2 hr2 => (mE_meth (MTab.one (cf2 Z) (nf_2_how_open) Z.me9 (ok9 Z B)) (hr2.mono (by decide)) (takes_of rfl rfl rfl rfl) (mE_var 1) (mA_cons mE_int mA_nil) (Len.cons Len.nil))) (LamBs.cons _ _ _ _ (⟨LamX.lamS_by (by show LamX.lamSB (defScope st22) _ = true; decide +kernel), rfl, by intros; rfl⟩ : LamOk _ _) (fun A2 outer2 s2 H2 E2 f2 c2 hr2 => (mE_meth (MTab.one (cf2 Z) (nf_2_may_move) Z.me10 (ok10 Z B)) (hr2.mono (by decide)) (takes_of rfl rfl rfl rfl) (mE_var 1) (mA_cons mE_int mA_nil) (Len.cons Len.nil))) (LamBs.cons _ _ _ _ (⟨LamX.lamS_by (by show LamX.lamSB (defScope st22) _ = true; decide +kernel), rfl, by intros; rfl⟩ : LamOk _ _) (fun A2 outer2 s2 H2 E2 f2 c2 hr2 => (mE_call (ok12 Z B) (hr2.mono (by decide)) Z.mg12 Z.kp12 (takes_of rfl rfl rfl rfl) (mA_cons (mE_tup (mA_cons (mE_make Z.mk2 rfl (ok0 Z B) (hr2.mono (by decide)) Z.mgc2 (takes_of rfl rfl rfl rfl) (mA_cons mE_int (mA_cons mE_int (mA_cons mE_int mA_nil))) (Len.cons (Len.cons (Len.cons Len.nil)))) (mA_cons (mE_var 1) mA_nil)) (Len.cons (Len.cons Len.nil))) (mA_cons mE_int mA_nil)) (Len.cons (Len.cons Len.nil)))) (LamBs.cons _ _ _ _ (⟨LamX.lamS_by (by show LamX.lamSB (defScope st22) _ = true; decide +kernel), rfl, by intros; rfl⟩ : LamOk _ _) (fun A2 outer2 s2 H2 E2 f2 c2 hr2 => (mE_call (ok13 Z B) (hr2.mono (by decide)) Z.mg13 Z.kp13 (takes_of rfl rfl rfl rfl) (mA_cons (mE_un un_neg op1_neg mE_int) (mA_cons mE_int (mA_cons mE_int (mA_cons mE_int mA_nil)))) (Len.cons (Len.cons (Len.cons (Len.cons Len.nil)))))) (LamBs.cons _ _ _ _ (⟨LamX.lamS_by (by show LamX.lamSB (defScope st22) _ = true; decide +kernel), rfl, by intros; rfl⟩ : LamOk _ _) (fun A2 outer2 s2 H2 E2 f2 c2 hr2 => (mE_call (ok13 Z B) (hr2.mono (by decide)) Z.mg13 Z.kp13 (takes_of rfl rfl rfl rfl) (mA_cons mE_int (mA_cons (mE_un un_neg op1_neg mE_int) (mA_cons mE_int (mA_cons mE_int mA_nil)))) (Len.cons (Len.cons (Len.cons (Len.cons Len.nil)))))) (LamBs.cons _ _ _ _ (⟨LamX.lamS_by (by show LamX.lamSB (defScope st22) _ = true; decide +kernel), rfl, by intros; rfl⟩ : LamOk _ _) (fun A2 outer2 s2 H2 E2 f2 c2 hr2 => (mE_call (ok13 Z B) (hr2.mono (by decide)) Z.mg13 Z.kp13 (takes_of rfl rfl rfl rfl) (mA_cons mE_int (mA_cons mE_int (mA_cons mE_int (mA_cons mE_int mA_nil)))) (Len.cons (Len.cons (Len.cons (Len.cons Len.nil)))))) (LamBs.cons _ _ _ _ (⟨LamX.lamS_by (by show LamX.lamSB (defScope st22) _ = true; decide +kernel), rfl, by intros; rfl⟩ : LamOk _ _) (fun A2 outer2 s2 H2 E2 f2 c2 hr2 => (mE_call (ok13 Z B) (hr2.mono (by decide)) Z.mg13 Z.kp13 (takes_of rfl rfl rfl rfl) (mA_cons mE_int (mA_cons mE_int (mA_cons mE_int (mA_cons mE_int mA_nil)))) (Len.cons (Len.cons (Len.cons (Len.cons Len.nil)))))) LamBs.nil)))))))))))))))) hN (blkOk_by (by show blkC N22 (defScope st22) _ _ = true; decide +kernel)) hu)) (mS_one (mS_ret mE_bl)) mS_skip (mS_cons (mS_if (mT_cmp (opr_neP hu) op2_eqP (mE_glob Z.gm_STATES_OF_DOOR (gr_STATES_OF_DOOR Z) (gq_STATES_OF_DOOR Z)) (mE_tup (mA_cons (mE_str [99, 108, 111, 115, 101, 100]) (mA_cons (mE_str [111, 112, 101, 110, 105, 110, 103]) (mA_cons (mE_str [111, 112, 101, 110]) (mA_cons (mE_str [99, 108, 111, 115, 105, 110, 103]) mA_nil)))) (Len.cons (Len.cons (Len.cons (Len.cons Len.nil)))))) (mS_one (mS_ret mE_bl)) mS_skip) (mS_one (mS_ret (mE_cmp (opr_eqP hu) op2_eqP (mE_var 2) (mE_lst (mA_cons mE_non (mA_cons (mE_str [111, 112, 101, 110, 105, 110, 103]) (mA_cons mE_int (mA_cons (mE_str [111, 112, 101, 110]) (mA_cons mE_int (mA_cons (mE_str [99, 108, 111, 115, 105, 110, 103]) (mA_cons mE_bl (mA_cons (mE_str [111, 112, 101, 110, 105, 110, 103]) (mA_cons (mE_str [111, 112, 101, 110]) (mA_cons (mE_str [99, 108, 111, 115, 105, 110, 103]) (mA_cons mE_bl (mA_cons (mE_str [99, 108, 111, 115, 105, 110, 103]) (mA_cons mE_bl (mA_cons mE_int (mA_cons mE_bl (mA_cons mE_int (mA_cons mE_int mA_nil))))))))))))))))) (Len.cons (Len.cons (Len.cons (Len.cons (Len.cons (Len.cons (Len.cons (Len.cons (Len.cons (Len.cons (Len.cons (Len.cons (Len.cons (Len.cons (Len.cons (Len.cons (Len.cons Len.nil))))))))))))))))))))))) hN) hN) hN) hN)))))
/-! _law_roll -/
def b_law_roll (self : FnM) : SM := mSeq (mIf (mOr (mBool (mOp2 (fEqP false) (mOp2 fIx (mVar 0) (mC (.int 2))) (mC (.int 2)))) (mAnd (mBool (mOp2 (fEqP false) (mOp2 fIx (mVar 0) (mC (.int 2))) (mC (.int 1)))) (mBool (mOp2 (fGt) (mOp2 fIx (mVar 0) (mC (.int 0))) (mC (.int 0)))))) (mSeq (mSet 2 (mOp2 fMod (mApp fInt (mCons (mOp2 fIx (mVar 0) (mC (.int 0))) (mNil))) (mVar 1))) (mSeq (mSetSub (mVar 0) (mC (.int 0)) (mOp2 fDiv (mOp2 fIx (mVar 0) (mC (.int 0))) (mVar 1))) (mRet (mVar 2)))) (mSkip)) (mSeq (mSetSub (mVar 0) (mC (.int 2)) (mC (.int 0))) (mSeq (mIf (mBool (mOp2 (fGt) (mVar 1) (mC (.int 100000000)))) (mRet (mOp2 fMod (mApp fInt (mCons (mOp2 fAdd (mOp2 fMul (mCall self (mCons (mVar 0) (mCons (mOp2 fAdd (mOp2 fDiv (mVar 1) (mC (.int 100000000))) (mC (.int 1))) (mNil)))) (mC (.int 100000000))) (mCall self (mCons (mVar 0) (mCons (mC (.int 100000000)) (mNil))))) (mNil))) (mVar 1))) (mSkip)) (mSeq (mSetSub (mVar 0) (mC (.int 0)) (mOp2 fMod (mApp fInt (mCons (mOp2 fAdd (mOp2 fAdd (mOp2 fMul (mOp2 fIx (mVar 0) (mC (.int 0))) (mC (.int 48271))) (mOp2 fMul (mOp2 fIx (mVar 0) (mC (.int 1))) (mC (.int 69621)))) (mC (.int 11))) (mNil))) (mC (.int 2147483647)))) (mSeq (mSetSub (mVar 0) (mC (.int 1)) (mOp2 fAdd (mOp2 fIx (mVar 0) (mC (.int 1))) (mC (.int 1)))) (mRet (mOp2 fMod (mApp fInt (mCons (mOp2 fDiv (mOp2 fIx (mVar 0) (mC (.int 0))) (mC (.int 7))) (mNil))) (mVar 1)))))))
def g_law_roll_n : Nat → FnM
  | 0 => fun _ _ => .bad
  | n + 1 => mBody 3 (b_law_roll (g_law_roll_n n))
def g_law_roll : FnM := g_law_roll_n 3
theorem okn15 (B : Bx base mg cc cP) : ∀ n, CallOk P w K mg base (TBo C cP) (1 + n) (f 15) 2 (g_law_roll_n n)
  | 0 => fn_bad (k := 0) Z.F15 sc15 Z.b15
  | n + 1 => by
    have ih := okn15 B n
    refine CallOk.of (ps := ["dice", "many"]) (fn_ok (k := 1 + n) Z.F15 sc15 rfl fun cdv A outer s H E hr => ?_) Z.b15
    have hN : N15.Nodup := sc15.nd
    have hu := hr.units
    have tk := takes_of (X := cxOf (L2.CX P w) P w K mg base N15 "_law_roll" (defScope st15) (f 15) cdv A outer s H E) rfl rfl rfl rfl
    exact (mS_cons (mS_if (mT_or (mT_cmp (opr_eqP hu) op2_eqP (mE_ix hu (mE_var 0) mE_int) mE_int) (pw_or1 (mT_and (mT_cmp (opr_eqP hu) op2_eqP (mE_ix hu (mE_var 0) mE_int) mE_int) (pw_and1 (mT_cmp op_gt op2_gt (mE_ix hu (mE_var 0) mE_int) mE_int))).pt)).pt (mS_cons (mS_set 2 (mE_op op_modN op2_mod (mE_callTy call_int1 opn_int Z.bi_int (mA_cons (mE_ix hu (mE_var 0) mE_int) mA_nil)) (mE_var 1)) hN) (mS_cons (mS_sub hu (mE_var 0) mE_int (mE_op op_fdivN op2_div (mE_ix hu (mE_var 0) mE_int) (mE_var 1))) (mS_one (mS_ret (mE_var 2))))) mS_skip) (mS_cons (mS_sub hu (mE_var 0) mE_int mE_int) (mS_cons (mS_if (mT_cmp op_gt op2_gt (mE_var 1) mE_int) (mS_one (mS_ret (mE_op op_modN op2_mod (mE_callTy call_int1 opn_int Z.bi_int (mA_cons (mE_op opr_add op2_add (mE_op opr_mul op2_mul (mE_call ih hr Z.mg15 Z.kp15 tk (mA_cons (mE_var 0) (mA_cons (mE_op opr_add op2_add (mE_op op_fdivN op2_div (mE_var 1) mE_int) mE_int) mA_nil)) (Len.cons (Len.cons Len.nil))) mE_int) (mE_call ih hr Z.mg15 Z.kp15 tk (mA_cons (mE_var 0) (mA_cons mE_int mA_nil)) (Len.cons (Len.cons Len.nil)))) mA_nil)) (mE_var 1)))) mS_skip) (mS_cons (mS_sub hu (mE_var 0) mE_int (mE_op op_modN op2_mod (mE_callTy call_int1 opn_int Z.bi_int (mA_cons (mE_op opr_add op2_add (mE_op opr_add op2_add (mE_op opr_mul op2_mul (mE_ix hu (mE_var 0) mE_int) mE_int) (mE_op opr_mul op2_mul (mE_ix hu (mE_var 0) mE_int) mE_int)) mE_int) mA_nil)) mE_int)) (mS_cons (mS_sub hu (mE_var 0) mE_int (mE_op opr_add op2_add (mE_ix hu (mE_var 0) mE_int) mE_int)) (mS_one (mS_ret (mE_op op_modN op2_mod (mE_callTy call_int1 opn_int Z.bi_int (mA_cons (mE_op op_fdivN op2_div (mE_ix hu (mE_var 0) mE_int) mE_int) mA_nil)) (mE_var 1)))))))))
theorem ok15 (B : Bx base mg cc cP) (n : Nat) : CallOk P w K mg base (TBo C cP) (1 + n) (f 15) 2 (g_law_roll_n n) := okn15 Z B n
/-! _law_long -/
def b_law_long : SM := mSeq (mIf (mBool (mOp2 (fEqP false) (mOp2 fIx (mVar 0) (mC (.str [115, 116, 97, 116, 101]))) (mC (.str [111, 112, 101, 110])))) (mRet (mOp2 fSub (mOp2 fIx (mVar 0) (mC (.str [117, 110, 116, 105, 108]))) (mOp2 fIx (mVar 0) (mC (.str [115, 105, 110, 99, 101]))))) (mSkip)) (mRet (mIfE (mBool (mOp2 (fEqP false) (mOp2 fIx (mVar 0) (mC (.str [115, 116, 97, 116, 101]))) (mC (.str [99, 108, 111, 115, 101, 100])))) (mC .non) (mOp2 fMul (mOp2 fIx (mVar 0) (mC (.str [109, 111, 118, 101, 115]))) (mIfE (mAnd (mBool (mOp2 (fEqP false) (mOp2 fIx (mVar 0) (mC (.str [115, 116, 97, 116, 101]))) (mC (.str [99, 108, 111, 115, 105, 110, 103])))) (mTru (mOp2 fIx (mVar 0) (mC (.str [115, 108, 111, 119]))))) (mC (.int 2)) (mC (.int 1))))))
def g_law_long : FnM := mBody 1 b_law_long
theorem ok18 (B : Bx base mg cc cP) : CallOk P w K mg base (TBo C cP) 1 (f 18) 1 g_law_long := by
  refine CallOk.of (ps := ["own"]) (fn_ok Z.F18 sc18 rfl fun cdv A outer s H E hr => ?_) Z.b18
  have hN : N18.Nodup := sc18.nd
  have hu := hr.units
  have tk := takes_of (X := cxOf (L2.CX P w) P w K mg base N18 "_law_long" (defScope st18) (f 18) cdv A outer s H E) rfl rfl rfl rfl
  exact (mS_cons (mS_if (mT_cmp (opr_eqP hu) op2_eqP (mE_ix hu (mE_var 0) (mE_str [115, 116, 97, 116, 101])) (mE_str [111, 112, 101, 110])) (mS_one (mS_ret (mE_op op_sub op2_sub (mE_ix hu (mE_var 0) (mE_str [117, 110, 116, 105, 108])) (mE_ix hu (mE_var 0) (mE_str [115, 105, 110, 99, 101]))))) mS_skip) (mS_one (mS_ret (mE_ifE (mT_cmp (opr_eqP hu) op2_eqP (mE_ix hu (mE_var 0) (mE_str [115, 116, 97, 116, 101])) (mE_str [99, 108, 111, 115, 101, 100])) mE_non (mE_op opr_mul op2_mul (mE_ix hu (mE_var 0) (mE_str [109, 111, 118, 101, 115])) (mE_ifE (mT_and (mT_cmp (opr_eqP hu) op2_eqP (mE_ix hu (mE_var 0) (mE_str [115, 116, 97, 116, 101])) (mE_str [99, 108, 111, 115, 105, 110, 103])) (pw_and1 (mT_truth (mE_ix hu (mE_var 0) (mE_str [115, 108, 111, 119]))))).pt mE_int mE_int))))))
/-! _law_go -/
def b_law_go : SM := mSeq (mWhile 1000000 (mAnd (mBool (mOp2 (fEqP true) (mOp2 fIx (mVar 0) (mC (.str [115, 116, 97, 116, 101]))) (mC (.str [99, 108, 111, 115, 101, 100])))) (mBool (mOp2 (fLe) (mOp2 fAdd (mOp2 fIx (mVar 0) (mC (.str [115, 105, 110, 99, 101]))) (mCall g_law_long (mCons (mVar 0) (mNil)))) (mVar 1)))) (mSeq (mSet 2 (mOp2 fAdd (mOp2 fIx (mVar 0) (mC (.str [115, 105, 110, 99, 101]))) (mCall g_law_long (mCons (mVar 0) (mNil))))) (mSeq (mSet 3 (mOp2 fIx (mDct [(mC (.str [111, 112, 101, 110, 105, 110, 103]), mC (.str [111, 112, 101, 110])), (mC (.str [111, 112, 101, 110]), mC (.str [99, 108, 111, 115, 105, 110, 103])), (mC (.str [99, 108, 111, 115, 105, 110, 103]), mC (.str [99, 108, 111, 115, 101, 100]))]) (mOp2 fIx (mVar 0) (mC (.str [115, 116, 97, 116, 101]))))) (mSeq (mExp (mBm isDR fUpd (mVar 0) (mCons (mDct [(mC (.str [115, 116, 97, 116, 101]), mVar 3), (mC (.str [115, 105, 110, 99, 101]), mVar 2)]) (mNil)))) (mSeq (mExp (mBm isDR fUpd (mVar 0) (mCons (mIfE (mBool (mOp2 (fEqP false) (mVar 3) (mC (.str [111, 112, 101, 110])))) (mDct [(mC (.str [117, 110, 116, 105, 108]), mOp2 fAdd (mVar 2) (mOp2 fIx (mVar 0) (mC (.str [115, 116, 97, 110, 100, 115]))))]) (mC (.dct []))) (mNil)))) (mExp (mBm isDR fUpd (mVar 0) (mCons (mIfE (mBool (mOp2 (fEqP false) (mVar 3) (mC (.str [99, 108, 111, 115, 101, 100])))) (mDct [(mC (.str [97, 103, 97, 105, 110, 115]), mC (.int 0)), (mC (.str [115, 108, 111, 119]), mC (.bl false))]) (mC (.dct []))) (mNil))))))))) (mSetSub (mVar 0) (mC (.str [110, 111, 119])) (mVar 1))
def g_law_go : FnM := mBody 4 b_law_go
theorem ok19 (B : Bx base mg cc cP) : CallOk P w K mg base (TBo C cP) 2 (f 19) 2 g_law_go := by
  refine CallOk.of (ps := ["own", "now"]) (fn_ok Z.F19 sc19 rfl fun cdv A outer s H E hr => ?_) Z.b19
  have hN : N19.Nodup := sc19.nd
  have hu := hr.units
  have tk := takes_of (X := cxOf (L2.CX P w) P w K mg base N19 "_law_go" (defScope st19) (f 19) cdv A outer s H E) rfl rfl rfl rfl
  exact (mS_cons (mS_while 1000000 (passes_of rfl) (mT_and (mT_cmp (opr_neP hu) op2_eqP (mE_ix hu (mE_var 0) (mE_str [115, 116, 97, 116, 101])) (mE_str [99, 108, 111, 115, 101, 100])) (pw_and1 (mT_cmp op_le op2_le (mE_op opr_add op2_add (mE_ix hu (mE_var 0) (mE_str [115, 105, 110, 99, 101])) (mE_call (ok18 Z B) (hr.mono (by decide)) Z.mg18 Z.kp18 tk (mA_cons (mE_var 0) mA_nil) (Len.cons Len.nil))) (mE_var 1)))).pt (mS_cons (mS_set 2 (mE_op opr_add op2_add (mE_ix hu (mE_var 0) (mE_str [115, 105, 110, 99, 101])) (mE_call (ok18 Z B) (hr.mono (by decide)) Z.mg18 Z.kp18 tk (mA_cons (mE_var 0) mA_nil) (Len.cons Len.nil))) hN) (mS_cons (mS_set 3 (mE_ix hu (mE_dct (mP_cons (mE_str [111, 112, 101, 110, 105, 110, 103]) (mE_str [111, 112, 101, 110]) (mP_cons (mE_str [111, 112, 101, 110]) (mE_str [99, 108, 111, 115, 105, 110, 103]) (mP_cons (mE_str [99, 108, 111, 115, 105, 110, 103]) (mE_str [99, 108, 111, 115, 101, 100]) mP_nil)))) (mE_ix hu (mE_var 0) (mE_str [115, 116, 97, 116, 101]))) hN) (mS_cons (mS_exp (mE_bm PySem.F.plainAttrs_dict PySem.F.slot_dict_update PySem.F.type_dict_update mt_update ty_dict opm_upd (mE_var 0) (mA_cons (mE_dct (mP_cons (mE_str [115, 116, 97, 116, 101]) (mE_var 3) (mP_cons (mE_str [115, 105, 110, 99, 101]) (mE_var 2) mP_nil))) mA_nil))) (mS_cons (mS_exp (mE_bm PySem.F.plainAttrs_dict PySem.F.slot_dict_update PySem.F.type_dict_update mt_update ty_dict opm_upd (mE_var 0) (mA_cons (mE_ifE (mT_cmp (opr_eqP hu) op2_eqP (mE_var 3) (mE_str [111, 112, 101, 110])) (mE_dct (mP_cons (mE_str [117, 110, 116, 105, 108]) (mE_op opr_add op2_add (mE_var 2) (mE_ix hu (mE_var 0) (mE_str [115, 116, 97, 110, 100, 115]))) mP_nil)) mE_dct0) mA_nil))) (mS_one (mS_exp (mE_bm PySem.F.plainAttrs_dict PySem.F.slot_dict_update PySem.F.type_dict_update mt_update ty_dict opm_upd (mE_var 0) (mA_cons (mE_ifE (mT_cmp (opr_eqP hu) op2_eqP (mE_var 3) (mE_str [99, 108, 111, 115, 101, 100])) (mE_dct (mP_cons (mE_str [97, 103, 97, 105, 110, 115]) mE_int (mP_cons (mE_str [115, 108, 111, 119]) mE_bl mP_nil))) mE_dct0) mA_nil))))))))) (mS_one (mS_sub hu (mE_var 0) (mE_str [110, 111, 119]) (mE_var 1))))
/-! _law_back -/
def b_law_back : SM := mSeq (mSet 2 (mOp2 fSub (mVar 1) (mOp2 fIx (mVar 0) (mC (.str [115, 105, 110, 99, 101]))))) (mSeq (mSet 3 (mIfE (mTru (mOp2 fIx (mVar 0) (mC (.str [115, 108, 111, 119])))) (mOp1 fNeg (mOp2 fDiv (mOp1 fNeg (mVar 2)) (mC (.int 2)))) (mVar 2))) (mExp (mBm isDR fUpd (mVar 0) (mCons (mDct [(mC (.str [115, 116, 97, 116, 101]), mC (.str [111, 112, 101, 110, 105, 110, 103])), (mC (.str [115, 105, 110, 99, 101]), mOp2 fAdd (mOp2 fSub (mVar 1) (mOp2 fIx (mVar 0) (mC (.str [109, 111, 118, 101, 115])))) (mVar 3))]) (mNil)))))
def g_law_back : FnM := mBody 4 b_law_back
theorem ok20 (B : Bx base mg cc cP) : CallOk P w K mg base (TBo C cP) 1 (f 20) 2 g_law_back := by
  refine CallOk.of (ps := ["own", "now"]) (fn_ok Z.F20 sc20 rfl fun cdv A outer s H E hr => ?_) Z.b20
  have hN : N20.Nodup := sc20.nd
  have hu := hr.units
  have tk := takes_of (X := cxOf (L2.CX P w) P w K mg base N20 "_law_back" (defScope st20) (f 20) cdv A outer s H E) rfl rfl rfl rfl
  exact (mS_cons (mS_set 2 (mE_op op_sub op2_sub (mE_var 1) (mE_ix hu (mE_var 0) (mE_str [115, 105, 110, 99, 101]))) hN) (mS_cons (mS_set 3 (mE_ifE (mT_truth (mE_ix hu (mE_var 0) (mE_str [115, 108, 111, 119]))) (mE_un un_neg op1_neg (mE_op op_fdivN op2_div (mE_un un_neg op1_neg (mE_var 2)) mE_int)) (mE_var 2)) hN) (mS_one (mS_exp (mE_bm PySem.F.plainAttrs_dict PySem.F.slot_dict_update PySem.F.type_dict_update mt_update ty_dict opm_upd (mE_var 0) (mA_cons (mE_dct (mP_cons (mE_str [115, 116, 97, 116, 101]) (mE_str [111, 112, 101, 110, 105, 110, 103]) (mP_cons (mE_str [115, 105, 110, 99, 101]) (mE_op opr_add op2_add (mE_op op_sub op2_sub (mE_var 1) (mE_ix hu (mE_var 0) (mE_str [109, 111, 118, 101, 115]))) (mE_var 3)) mP_nil))) mA_nil))))))
/-! _law_deed -/
def b_law_deed : SM := mSeq (mAsg (gTp (gC (gN 8) (gC (gN 5) (gZ)))) (mTup (mCons (mCall g_law_roll (mCons (mVar 0) (mCons (mC (.int 12)) (mNil)))) (mCons (mOp2 fSub (mOp2 fAdd (mOp2 fIx (mVar 2) (mC (.str [110, 111, 119]))) (mCall g_law_roll (mCons (mVar 0) (mCons (mC (.int 4)) (mNil))))) (mOp2 fMul (mC (.int 4)) (mApp fInt (mCons (mOp2 (fEqP false) (mCall g_law_roll (mCons (mVar 0) (mCons (mC (.int 16)) (mNil)))) (mC (.int 0))) (mNil))))) (mNil))))) (mSeq (mIf (mBool (mOp2 (fLt) (mVar 5) (mOp2 fIx (mVar 2) (mC (.str [110, 111, 119]))))) (mRet (mOp2 (fEqP false) (mLst (mCons (mTold cs_told ret_told (mMeth [(2, g_Door_go_to)] (mVar 1) (mCons (mVar 5) (mNil)))) (mCons (mTold cs_told ret_told (mMeth [(2, g_Door_open_it)] (mVar 1) (mCons (mVar 5) (mCons (mC (.bl true)) (mNil))))) (mCons (mTold cs_told ret_told (mMeth [(2, g_Door_close_it)] (mVar 1) (mCons (mVar 5) (mNil)))) (mNil))))) (mOp2 fMul (mLst (mCons (mC (.str [68, 111, 111, 114, 69, 114, 114, 111, 114])) (mNil))) (mC (.int 3))))) (mSkip)) (mSeq (mExp (mCall g_law_go (mCons (mVar 2) (mCons (mVar 5) (mNil))))) (mSeq (mIf (mBool (mOp2 (fLt) (mVar 8) (mC (.int 3)))) (mRet (mOp2 (fEqP false) (mMeth [(2, g_Door_go_to)] (mVar 1) (mCons (mVar 5) (mNil))) (mOp2 fIx (mVar 2) (mC (.str [115, 116, 97, 116, 101]))))) (mSkip)) (mSeq (mIf (mBool (mOp2 (fLt) (mVar 8) (mC (.int 7)))) (mSeq (mSet 3 (mOp2 (fGt) (mCall g_law_roll (mCons (mVar 0) (mCons (mC (.int 5)) (mNil)))) (mC (.int 0)))) (mSeq (mSet 4 (mAndV (mVar 3) (mOp2 (fEqP true) (mOp2 fIx (mVar 2) (mC (.str [115, 116, 97, 116, 101]))) (mC (.str [111, 112, 101, 110, 105, 110, 103]))))) (mSeq (mIf (mAnd (mTru (mVar 4)) (mBool (mOp2 (fEqP false) (mOp2 fIx (mVar 2) (mC (.str [115, 116, 97, 116, 101]))) (mC (.str [111, 112, 101, 110]))))) (mSetSub (mVar 2) (mC (.str [117, 110, 116, 105, 108])) (mOp2 fAdd (mVar 5) (mOp2 fIx (mVar 2) (mC (.str [115, 116, 97, 110, 100, 115]))))) (mIf (mAnd (mTru (mVar 4)) (mBool (mOp2 (fEqP false) (mOp2 fIx (mVar 2) (mC (.str [115, 116, 97, 116, 101]))) (mC (.str [99, 108, 111, 115, 101, 100]))))) (mExp (mBm isDR fUpd (mVar 2) (mCons (mDct [(mC (.str [115, 116, 97, 116, 101]), mC (.str [111, 112, 101, 110, 105, 110, 103])), (mC (.str [115, 105, 110, 99, 101]), mVar 5), (mC (.str [111, 112, 101, 110, 101, 100]), mOp2 fAdd (mOp2 fIx (mVar 2) (mC (.str [111, 112, 101, 110, 101, 100]))) (mC (.int 1)))]) (mNil)))) (mIf (mTru (mVar 4)) (mExp (mCall g_law_back (mCons (mVar 2) (mCons (mVar 5) (mNil))))) (mSkip)))) (mRet (mOp2 (fEqP false) (mOp2 (fIs) (mTold cs_told ret_told (mMeth [(2, g_Door_open_it)] (mVar 1) (mCons (mVar 5) (mCons (mVar 3) (mNil))))) (mC .non)) (mVar 4)))))) (mSkip)) (mSeq (mIf (mBool (mOp2 (fLt) (mVar 8) (mC (.int 10)))) (mSeq (mIf (mBool (mOp2 (fEqP true) (mOp2 fIx (mVar 2) (mC (.str [115, 116, 97, 116, 101]))) (mC (.str [99, 108, 111, 115, 105, 110, 103])))) (mRet (mOp2 (fEqP false) (mTold cs_told ret_told (mMeth [(2, g_Door_in_the_way)] (mVar 1) (mCons (mVar 5) (mNil)))) (mC (.str [68, 111, 111, 114, 69, 114, 114, 111, 114])))) (mSkip)) (mSeq (mSet 6 (mOp2 (fLt) (mOp2 fIx (mVar 2) (mC (.str [97, 103, 97, 105, 110, 115]))) (mOp2 fIx (mVar 2) (mC (.str [97, 103, 97, 105, 110]))))) (mSeq (mIf (mTru (mVar 6)) (mSeq (mSetSub (mVar 2) (mC (.str [97, 103, 97, 105, 110, 115])) (mOp2 fAdd (mOp2 fIx (mVar 2) (mC (.str [97, 103, 97, 105, 110, 115]))) (mC (.int 1)))) (mExp (mCall g_law_back (mCons (mVar 2) (mCons (mVar 5) (mNil)))))) (mIf (mNot (mTru (mOp2 fIx (mVar 2) (mC (.str [115, 108, 111, 119]))))) (mExp (mBm isDR fUpd (mVar 2) (mCons (mDct [(mC (.str [115, 105, 110, 99, 101]), mOp2 fSub (mVar 5) (mOp2 fMul (mC (.int 2)) (mOp2 fSub (mVar 5) (mOp2 fIx (mVar 2) (mC (.str [115, 105, 110, 99, 101])))))), (mC (.str [115, 108, 111, 119]), mC (.bl true))]) (mNil)))) (mSkip))) (mRet (mOp2 (fEqP false) (mMeth [(2, g_Door_in_the_way)] (mVar 1) (mCons (mVar 5) (mNil))) (mVar 6)))))) (mSkip)) (mSeq (mIf (mBool (mOp2 (fEqP false) (mVar 8) (mC (.int 10)))) (mSeq (mSet 7 (mCall g_law_roll (mCons (mVar 0) (mCons (mC (.int 9)) (mNil))))) (mSeq (mSet 4 (mAndV (mOp2 (fEqP false) (mOp2 fIx (mVar 2) (mC (.str [115, 116, 97, 116, 101]))) (mC (.str [111, 112, 101, 110]))) (mOp2 (fGt) (mVar 7) (mC (.int 0))))) (mSeq (mExp (mBm isDR fUpd (mVar 2) (mCons (mIfE (mTru (mVar 4)) (mDct [(mC (.str [117, 110, 116, 105, 108]), mApp fMax2 (mCons (mOp2 fIx (mVar 2) (mC (.str [117, 110, 116, 105, 108]))) (mCons (mOp2 fAdd (mVar 5) (mVar 7)) (mNil))))]) (mC (.dct []))) (mNil)))) (mRet (mOp2 (fEqP false) (mOp2 (fIs) (mTold cs_told ret_told (mMeth [(2, g_Door_hold_open)] (mVar 1) (mCons (mVar 5) (mCons (mVar 7) (mNil))))) (mC .non)) (mVar 4)))))) (mSkip)) (mSeq (mSet 4 (mOp2 (fEqP false) (mOp2 fIx (mVar 2) (mC (.str [115, 116, 97, 116, 101]))) (mC (.str [111, 112, 101, 110])))) (mSeq (mExp (mBm isDR fUpd (mVar 2) (mCons (mIfE (mTru (mVar 4)) (mDct [(mC (.str [115, 116, 97, 116, 101]), mC (.str [99, 108, 111, 115, 105, 110, 103])), (mC (.str [115, 105, 110, 99, 101]), mVar 5)]) (mC (.dct []))) (mNil)))) (mRet (mOp2 (fEqP false) (mOp2 (fIs) (mTold cs_told ret_told (mMeth [(2, g_Door_close_it)] (mVar 1) (mCons (mVar 5) (mNil)))) (mC .non)) (mVar 4)))))))))))
def g_law_deed : FnM := mBody 9 b_law_deed
theorem ok21 (B : Bx base mg cc cP) : CallOk P w K mg base (TBo C cP) 6 (f 21) 3 g_law_deed := by
  refine CallOk.of (ps := ["dice", "door", "own"]) (fn_okC Z.F21 sc21 rfl fun A outer s H E hr => ?_) Z.b21
  have hN : N21.Nodup := sc21.nd
  have hu := hr.units
  have tk := takes_of (X := cxOf (L2.CX P w) P w K mg base N21 "_law_deed" (defScope st21) (f 21) (.ref (cc 1)) A outer s H E) rfl rfl rfl rfl
  exact (mS_cons (mS_asg (mE_tup (mA_cons (mE_call (ok15 Z B 3) (hr.mono (by decide)) Z.mg15 Z.kp15 tk (mA_cons (mE_var 0) (mA_cons mE_int mA_nil)) (Len.cons (Len.cons Len.nil))) (mA_cons (mE_op op_sub op2_sub (mE_op opr_add op2_add (mE_ix hu (mE_var 2) (mE_str [110, 111, 119])) (mE_call (ok15 Z B 3) (hr.mono (by decide)) Z.mg15 Z.kp15 tk (mA_cons (mE_var 0) (mA_cons mE_int mA_nil)) (Len.cons (Len.cons Len.nil)))) (mE_op opr_mul op2_mul mE_int (mE_callTy call_int1 opn_int Z.bi_int (mA_cons (mE_cmp (opr_eqP hu) op2_eqP (mE_call (ok15 Z B 3) (hr.mono (by decide)) Z.mg15 Z.kp15 tk (mA_cons (mE_var 0) (mA_cons mE_int mA_nil)) (Len.cons (Len.cons Len.nil))) mE_int) mA_nil)))) mA_nil)) (Len.cons (Len.cons Len.nil))) (mG_tup (mG_cons (mG_name 8 [8, 5] hN) (mG_cons (mG_name 5 [8, 5] hN) (mG_nil [8, 5]))) (gC_len (gC_len gZ_len)))) (mS_cons (mS_if (mT_cmp op_lt op2_lt (mE_var 5) (mE_ix hu (mE_var 2) (mE_str [110, 111, 119]))) (mS_one (mS_ret (mE_cmp (opr_eqP hu) op2_eqP (mE_lst (mA_cons (mE_told (k := 2) Z.told (tx21 Z B) (hr.mono (by decide)) (⟨LamX.lamS_by (by show LamX.lamSB (defScope st21) _ = true; decide +kernel), rfl, by intros; rfl⟩ : LamOk _ _) (fun A2 outer2 s2 H2 E2 f2 c2 hr2 => (mE_meth (MTab.one (cf2 Z) (nf_2_go_to) Z.me1 (ok1 Z B)) (hr2.mono (by decide)) (takes_of rfl rfl rfl rfl) (mE_var 1) (mA_cons (mE_var 5) mA_nil) (Len.cons Len.nil)))) (mA_cons (mE_told (k := 3) Z.told (tx21 Z B) (hr.mono (by decide)) (⟨LamX.lamS_by (by show LamX.lamSB (defScope st21) _ = true; decide +kernel), rfl, by intros; rfl⟩ : LamOk _ _) (fun A2 outer2 s2 H2 E2 f2 c2 hr2 => (mE_meth (MTab.one (cf2 Z) (nf_2_open_it) Z.me4 (ok4 Z B)) (hr2.mono (by decide)) (takes_of rfl rfl rfl rfl) (mE_var 1) (mA_cons (mE_var 5) (mA_cons mE_bl mA_nil)) (Len.cons (Len.cons Len.nil))))) (mA_cons (mE_told (k := 3) Z.told (tx21 Z B) (hr.mono (by decide)) (⟨LamX.lamS_by (by show LamX.lamSB (defScope st21) _ = true; decide +kernel), rfl, by intros; rfl⟩ : LamOk _ _) (fun A2 outer2 s2 H2 E2 f2 c2 hr2 => (mE_meth (MTab.one (cf2 Z) (nf_2_close_it) Z.me8 (ok8 Z B)) (hr2.mono (by decide)) (takes_of rfl rfl rfl rfl) (mE_var 1) (mA_cons (mE_var 5) mA_nil) (Len.cons Len.nil)))) mA_nil))) (Len.cons (Len.cons (Len.cons Len.nil)))) (mE_op opr_mul op2_mul (mE_lst (mA_cons (mE_str [68, 111, 111, 114, 69, 114, 114, 111, 114]) mA_nil) (Len.cons Len.nil)) mE_int)))) mS_skip) (mS_cons (mS_exp (mE_call (ok19 Z B) (hr.mono (by decide)) Z.mg19 Z.kp19 tk (mA_cons (mE_var 2) (mA_cons (mE_var 5) mA_nil)) (Len.cons (Len.cons Len.nil)))) (mS_cons (mS_if (mT_cmp op_lt op2_lt (mE_var 8) mE_int) (mS_one (mS_ret (mE_cmp (opr_eqP hu) op2_eqP (mE_meth (MTab.one (cf2 Z) (nf_2_go_to) Z.me1 (ok1 Z B)) (hr.mono (by decide)) tk (mE_var 1) (mA_cons (mE_var 5) mA_nil) (Len.cons Len.nil)) (mE_ix hu (mE_var 2) (mE_str [115, 116, 97, 116, 101]))))) mS_skip) (mS_cons (mS_if (mT_cmp op_lt op2_lt (mE_var 8) mE_int) (mS_cons (mS_set 3 (mE_cmp op_gt op2_gt (mE_call (ok15 Z B 3) (hr.mono (by decide)) Z.mg15 Z.kp15 tk (mA_cons (mE_var 0) (mA_cons mE_int mA_nil)) (Len.cons (Len.cons Len.nil))) mE_int) hN) (mS_cons (mS_set 4 (mE_andV (mE_var 3) (mE_one (mE_cmp (opr_neP hu) op2_eqP (mE_ix hu (mE_var 2) (mE_str [115, 116, 97, 116, 101])) (mE_str [111, 112, 101, 110, 105, 110, 103])))) hN) (mS_cons (mS_if (mT_and (mT_truth (mE_var 4)) (pw_and1 (mT_cmp (opr_eqP hu) op2_eqP (mE_ix hu (mE_var 2) (mE_str [115, 116, 97, 116, 101])) (mE_str [111, 112, 101, 110])))).pt (mS_one (mS_sub hu (mE_var 2) (mE_str [117, 110, 116, 105, 108]) (mE_op opr_add op2_add (mE_var 5) (mE_ix hu (mE_var 2) (mE_str [115, 116, 97, 110, 100, 115]))))) (mS_one (mS_if (mT_and (mT_truth (mE_var 4)) (pw_and1 (mT_cmp (opr_eqP hu) op2_eqP (mE_ix hu (mE_var 2) (mE_str [115, 116, 97, 116, 101])) (mE_str [99, 108, 111, 115, 101, 100])))).pt (mS_one (mS_exp (mE_bm PySem.F.plainAttrs_dict PySem.F.slot_dict_update PySem.F.type_dict_update mt_update ty_dict opm_upd (mE_var 2) (mA_cons (mE_dct (mP_cons (mE_str [115, 116, 97, 116, 101]) (mE_str [111, 112, 101, 110, 105, 110, 103]) (mP_cons (mE_str [115, 105, 110, 99, 101]) (mE_var 5) (mP_cons (mE_str [111, 112, 101, 110, 101, 100]) (mE_op opr_add op2_add (mE_ix hu (mE_var 2) (mE_str [111, 112, 101, 110, 101, 100])) mE_int) mP_nil)))) mA_nil)))) (mS_one (mS_if (mT_truth (mE_var 4)) (mS_one (mS_exp (mE_call (ok20 Z B) (hr.mono (by decide)) Z.mg20 Z.kp20 tk (mA_cons (mE_var 2) (mA_cons (mE_var 5) mA_nil)) (Len.cons (Len.cons Len.nil))))) mS_skip))))) (mS_one (mS_ret (mE_cmp (opr_eqP hu) op2_eqP (mE_cmp opr_is op2_is (mE_told (k := 3) Z.told (tx21 Z B) (hr.mono (by decide)) (⟨LamX.lamS_by (by show LamX.lamSB (defScope st21) _ = true; decide +kernel), rfl, by intros; rfl⟩ : LamOk _ _) (fun A2 outer2 s2 H2 E2 f2 c2 hr2 => (mE_meth (MTab.one (cf2 Z) (nf_2_open_it) Z.me4 (ok4 Z B)) (hr2.mono (by decide)) (takes_of rfl rfl rfl rfl) (mE_var 1) (mA_cons (mE_var 5) (mA_cons (mE_var 3) mA_nil)) (Len.cons (Len.cons Len.nil))))) mE_non) (mE_var 4))))))) mS_skip) (mS_cons (mS_if (mT_cmp op_lt op2_lt (mE_var 8) mE_int) (mS_cons (mS_if (mT_cmp (opr_neP hu) op2_eqP (mE_ix hu (mE_var 2) (mE_str [115, 116, 97, 116, 101])) (mE_str [99, 108, 111, 115, 105, 110, 103])) (mS_one (mS_ret (mE_cmp (opr_eqP hu) op2_eqP (mE_told (k := 3) Z.told (tx21 Z B) (hr.mono (by decide)) (⟨LamX.lamS_by (by show LamX.lamSB (defScope st21) _ = true; decide +kernel), rfl, by intros; rfl⟩ : LamOk _ _) (fun A2 outer2 s2 H2 E2 f2 c2 hr2 => (mE_meth (MTab.one (cf2 Z) (nf_2_in_the_way) Z.me6 (ok6 Z B)) (hr2.mono (by decide)) (takes_of rfl rfl rfl rfl) (mE_var 1) (mA_cons (mE_var 5) mA_nil) (Len.cons Len.nil)))) (mE_str [68, 111, 111, 114, 69, 114, 114, 111, 114])))) mS_skip) (mS_cons (mS_set 6 (mE_cmp op_lt op2_lt (mE_ix hu (mE_var 2) (mE_str [97, 103, 97, 105, 110, 115])) (mE_ix hu (mE_var 2) (mE_str [97, 103, 97, 105, 110]))) hN) (mS_cons (mS_if (mT_truth (mE_var 6)) (mS_cons (mS_sub hu (mE_var 2) (mE_str [97, 103, 97, 105, 110, 115]) (mE_op opr_add op2_add (mE_ix hu (mE_var 2) (mE_str [97, 103, 97, 105, 110, 115])) mE_int)) (mS_one (mS_exp (mE_call (ok20 Z B) (hr.mono (by decide)) Z.mg20 Z.kp20 tk (mA_cons (mE_var 2) (mA_cons (mE_var 5) mA_nil)) (Len.cons (Len.cons Len.nil)))))) (mS_one (mS_if (mT_not (mT_truth (mE_ix hu (mE_var 2) (mE_str [115, 108, 111, 119])))) (mS_one (mS_exp (mE_bm PySem.F.plainAttrs_dict PySem.F.slot_dict_update PySem.F.type_dict_update mt_update ty_dict opm_upd (mE_var 2) (mA_cons (mE_dct (mP_cons (mE_str [115, 105, 110, 99, 101]) (mE_op op_sub op2_sub (mE_var 5) (mE_op opr_mul op2_mul mE_int (mE_op op_sub op2_sub (mE_var 5) (mE_ix hu (mE_var 2) (mE_str [115, 105, 110, 99, 101]))))) (mP_cons (mE_str [115, 108, 111, 119]) mE_bl mP_nil))) mA_nil)))) mS_skip))) (mS_one (mS_ret (mE_cmp (opr_eqP hu) op2_eqP (mE_meth (MTab.one (cf2 Z) (nf_2_in_the_way) Z.me6 (ok6 Z B)) (hr.mono (by decide)) tk (mE_var 1) (mA_cons (mE_var 5) mA_nil) (Len.cons Len.nil)) (mE_var 6))))))) mS_skip) (mS_cons (mS_if (mT_cmp (opr_eqP hu) op2_eqP (mE_var 8) mE_int) (mS_cons (mS_set 7 (mE_call (ok15 Z B 3) (hr.mono (by decide)) Z.mg15 Z.kp15 tk (mA_cons (mE_var 0) (mA_cons mE_int mA_nil)) (Len.cons (Len.cons Len.nil))) hN) (mS_cons (mS_set 4 (mE_andV (mE_cmp (opr_eqP hu) op2_eqP (mE_ix hu (mE_var 2) (mE_str [115, 116, 97, 116, 101])) (mE_str [111, 112, 101, 110])) (mE_one (mE_cmp op_gt op2_gt (mE_var 7) mE_int))) hN) (mS_cons (mS_exp (mE_bm PySem.F.plainAttrs_dict PySem.F.slot_dict_update PySem.F.type_dict_update mt_update ty_dict opm_upd (mE_var 2) (mA_cons (mE_ifE (mT_truth (mE_var 4)) (mE_dct (mP_cons (mE_str [117, 110, 116, 105, 108]) (mE_callB (call_max2 rfl) opn_max2 Z.bi_max (mA_cons (mE_ix hu (mE_var 2) (mE_str [117, 110, 116, 105, 108])) (mA_cons (mE_op opr_add op2_add (mE_var 5) (mE_var 7)) mA_nil))) mP_nil)) mE_dct0) mA_nil))) (mS_one (mS_ret (mE_cmp (opr_eqP hu) op2_eqP (mE_cmp opr_is op2_is (mE_told (k := 3) Z.told (tx21 Z B) (hr.mono (by decide)) (⟨LamX.lamS_by (by show LamX.lamSB (defScope st21) _ = true; decide +kernel), rfl, by intros; rfl⟩ : LamOk _ _) (fun A2 outer2 s2 H2 E2 f2 c2 hr2 => (mE_meth (MTab.one (cf2 Z) (nf_2_hold_open) Z.me7 (ok7 Z B)) (hr2.mono (by decide)) (takes_of rfl rfl rfl rfl) (mE_var 1) (mA_cons (mE_var 5) (mA_cons (mE_var 7) mA_nil)) (Len.cons (Len.cons Len.nil))))) mE_non) (mE_var 4))))))) mS_skip) (mS_cons (mS_set 4 (mE_cmp (opr_eqP hu) op2_eqP (mE_ix hu (mE_var 2) (mE_str [115, 116, 97, 116, 101])) (mE_str [111, 112, 101, 110])) hN) (mS_cons (mS_exp (mE_bm PySem.F.plainAttrs_dict PySem.F.slot_dict_update PySem.F.type_dict_update mt_update ty_dict opm_upd (mE_var 2) (mA_cons (mE_ifE (mT_truth (mE_var 4)) (mE_dct (mP_cons (mE_str [115, 116, 97, 116, 101]) (mE_str [99, 108, 111, 115, 105, 110, 103]) (mP_cons (mE_str [115, 105, 110, 99, 101]) (mE_var 5) mP_nil))) mE_dct0) mA_nil))) (mS_one (mS_ret (mE_cmp (opr_eqP hu) op2_eqP (mE_cmp opr_is op2_is (mE_told (k := 3) Z.told (tx21 Z B) (hr.mono (by decide)) (⟨LamX.lamS_by (by show LamX.lamSB (defScope st21) _ = true; decide +kernel), rfl, by intros; rfl⟩ : LamOk _ _) (fun A2 outer2 s2 H2 E2 f2 c2 hr2 => (mE_meth (MTab.one (cf2 Z) (nf_2_close_it) Z.me8 (ok8 Z B)) (hr2.mono (by decide)) (takes_of rfl rfl rfl rfl) (mE_var 1) (mA_cons (mE_var 5) mA_nil) (Len.cons Len.nil)))) mE_non) (mE_var 4)))))))))))))
/-! law -/
def b_law : SM := mSeq (mFor (mIV (mCall g_law_rounds (mCons (mVar 0) (mCons (mC (.int 1)) (mNil))))) (gN 2) (mSeq (mPar [9, 18, 1] (mCons (mOp2 fAdd (mC (.int 1)) (mCall g_law_roll (mCons (mVar 2) (mCons (mC (.int 4)) (mNil))))) (mCons (mOp2 fAdd (mC (.int 1)) (mCall g_law_roll (mCons (mVar 2) (mCons (mC (.int 6)) (mNil))))) (mCons (mCall g_law_roll (mCons (mVar 2) (mCons (mC (.int 3)) (mNil)))) (mNil))))) (mSeq (mPar [3, 13] (mCons (mMake 2 10 g_Door_init (mCons (mVar 9) (mCons (mVar 18) (mCons (mVar 1) (mNil))))) (mCons (mDctR [(mC (.str [109, 111, 118, 101, 115]), mVar 9), (mC (.str [115, 116, 97, 110, 100, 115]), mVar 18), (mC (.str [97, 103, 97, 105, 110]), mVar 1), (mC (.str [115, 116, 97, 116, 101]), mC (.str [99, 108, 111, 115, 101, 100])), (mC (.str [115, 105, 110, 99, 101]), mC (.int 0)), (mC (.str [117, 110, 116, 105, 108]), mC (.int 0)), (mC (.str [97, 103, 97, 105, 110, 115]), mC (.int 0)), (mC (.str [115, 108, 111, 119]), mC (.bl false)), (mC (.str [111, 112, 101, 110, 101, 100]), mC (.int 0)), (mC (.str [110, 111, 119]), mC (.int 0))]) (mNil)))) (mSeq (mFor (mIA rngV1 (mCons (mCall g_law_roll (mCons (mVar 2) (mCons (mC (.int 30)) (mNil)))) (mNil))) (gN 19) (mSeq (mIf (mOr (mNot (mTru (mCall g_law_deed (mCons (mVar 2) (mCons (mVar 3) (mCons (mVar 13) (mNil))))))) (mOr (mBool (mOp2 (fEqP true) (mTup (mCons (mFld ft_state (mVar 3)) (mCons (mFld ft_now (mVar 3)) (mCons (mFld ft_opened (mVar 3)) (mCons (mFld ft_agains (mVar 3)) (mCons (mFld ft_is_slow (mVar 3)) (mNil))))))) (mTup (mCons (mOp2 fIx (mVar 13) (mC (.str [115, 116, 97, 116, 101]))) (mCons (mOp2 fIx (mVar 13) (mC (.str [110, 111, 119]))) (mCons (mOp2 fIx (mVar 13) (mC (.str [111, 112, 101, 110, 101, 100]))) (mCons (mOp2 fIx (mVar 13) (mC (.str [97, 103, 97, 105, 110, 115]))) (mCons (mOp2 fIx (mVar 13) (mC (.str [115, 108, 111, 119]))) (mNil))))))))) (mAnd (mBool (mOp2 (fEqP true) (mOp2 fIx (mVar 13) (mC (.str [115, 116, 97, 116, 101]))) (mC (.str [99, 108, 111, 115, 101, 100])))) (mBool (mOp2 (fEqP true) (mFld ft_since (mVar 3)) (mOp2 fIx (mVar 13) (mC (.str [115, 105, 110, 99, 101])))))))) (mRet (mC (.bl false))) (mSkip)) (mSeq (mExp (mCall g_law_go (mCons (mVar 13) (mCons (mOp2 fIx (mVar 13) (mC (.str [110, 111, 119]))) (mNil))))) (mSeq (mIf (mBool (mOp2 (fEqP true) (mMeth [(2, g_Door_go_to)] (mVar 3) (mCons (mOp2 fIx (mVar 13) (mC (.str [110, 111, 119]))) (mNil))) (mOp2 fIx (mVar 13) (mC (.str [115, 116, 97, 116, 101]))))) (mRet (mC (.bl false))) (mSkip)) (mSeq (mPar [10, 4] (mCons (mOp2 fIx (mVar 13) (mC (.str [110, 111, 119]))) (mCons (mOp2 fSub (mOp2 fIx (mVar 13) (mC (.str [110, 111, 119]))) (mOp2 fIx (mVar 13) (mC (.str [115, 105, 110, 99, 101])))) (mNil)))) (mSeq (mSet 20 (mIfE (mBool (mOp2 (fInG false) (mOp2 fIx (mVar 13) (mC (.str [115, 116, 97, 116, 101]))) (mLst (mCons (mC (.str [111, 112, 101, 110, 105, 110, 103])) (mCons (mC (.str [99, 108, 111, 115, 105, 110, 103])) (mNil)))))) (mCall g_law_long (mCons (mVar 13) (mNil))) (mC (.int 1)))) (mSeq (mSet 14 (mIfE (mBool (mOp2 (fEqP false) (mOp2 fIx (mVar 13) (mC (.str [115, 116, 97, 116, 101]))) (mC (.str [111, 112, 101, 110, 105, 110, 103])))) (mVar 4) (mOp2 fSub (mVar 20) (mVar 4)))) (mSeq (mSet 11 (mIfE (mBool (mOp2 (fEqP false) (mOp2 fIx (mVar 13) (mC (.str [115, 116, 97, 116, 101]))) (mC (.str [99, 108, 111, 115, 101, 100])))) (mC (.int 0)) (mIfE (mBool (mOp2 (fEqP false) (mOp2 fIx (mVar 13) (mC (.str [115, 116, 97, 116, 101]))) (mC (.str [111, 112, 101, 110])))) (mC (.int 1000)) (mOp2 fDiv (mOp2 fMul (mC (.int 1000)) (mVar 14)) (mVar 20))))) (mSeq (mSet 7 (mOp2 fIx (mDct [(mC (.str [99, 108, 111, 115, 101, 100]), mC (.int 0)), (mC (.str [111, 112, 101, 110]), mOp2 fAdd (mOp2 fSub (mOp2 fIx (mVar 13) (mC (.str [117, 110, 116, 105, 108]))) (mVar 10)) (mOp2 fMul (mVar 9) (mIfE (mTru (mOp2 fIx (mVar 13) (mC (.str [115, 108, 111, 119])))) (mC (.int 2)) (mC (.int 1))))), (mC (.str [99, 108, 111, 115, 105, 110, 103]), mOp2 fSub (mOrV (mCall g_law_long (mCons (mVar 13) (mNil))) (mC (.int 0))) (mVar 4)), (mC (.str [111, 112, 101, 110, 105, 110, 103]), mOp2 fAdd (mOp2 fAdd (mOp2 fSub (mVar 9) (mVar 4)) (mVar 18)) (mOp2 fMul (mVar 9) (mIfE (mTru (mOp2 fIx (mVar 13) (mC (.str [115, 108, 111, 119])))) (mC (.int 2)) (mC (.int 1)))))]) (mOp2 fIx (mVar 13) (mC (.str [115, 116, 97, 116, 101]))))) (mSeq (mIf (mBool (mOp2 (fEqP true) (mMeth [(2, g_Door_how_open)] (mVar 3) (mCons (mVar 10) (mNil))) (mVar 11))) (mRet (mC (.bl false))) (mSkip)) (mSeq (mIf (mOr (mBool (mOp2 (fEqP true) (mMeth [(2, g_Door_may_move)] (mVar 3) (mCons (mVar 10) (mNil))) (mOp2 (fEqP false) (mOp2 fIx (mVar 13) (mC (.str [115, 116, 97, 116, 101]))) (mC (.str [99, 108, 111, 115, 101, 100]))))) (mBool (mOp2 (fEqP true) (mMeth [(2, g_Door_closed_by)] (mVar 3) mNil) (mOp2 fAdd (mVar 10) (mVar 7))))) (mRet (mC (.bl false))) (mSkip)) (mIf (mBool (mOp2 (fEqP true) (mMeth [(2, g_Door_next_change)] (mVar 3) mNil) (mIfE (mBool (mOp2 (fEqP false) (mOp2 fIx (mVar 13) (mC (.str [115, 116, 97, 116, 101]))) (mC (.str [99, 108, 111, 115, 101, 100])))) (mC .non) (mOp2 fAdd (mOp2 fIx (mVar 13) (mC (.str [115, 105, 110, 99, 101]))) (mCall g_law_long (mCons (mVar 13) (mNil))))))) (mRet (mC (.bl false))) (mSkip))))))))))))) (mSeq (mSet 12 (mMake 2 10 g_Door_init (mCons (mC (.int 1)) (mCons (mC (.int 1)) (mCons (mC (.int 1)) (mNil)))))) (mSeq (mSet 5 (mOp2 fAdd (mOp2 fIx (mVar 13) (mC (.str [110, 111, 119]))) (mCall g_law_roll (mCons (mVar 2) (mCons (mC (.int 9)) (mNil)))))) (mSeq (mIf (mBool (mOp2 (fEqP false) (mCall g_law_roll (mCons (mVar 2) (mCons (mC (.int 2)) (mNil)))) (mC (.int 0)))) (mExp (mMeth [(2, g_Door_open_it)] (mVar 12) (mCons (mC (.int 0)) (mCons (mC (.bl true)) (mNil))))) (mSkip)) (mSeq (mSet 17 (mCall g_both_closed (mCons (mTup (mCons (mVar 3) (mCons (mVar 12) (mNil)))) (mCons (mVar 5) (mNil))))) (mSeq (mIf (mOr (mBool (mOp2 (fEqP true) (mVar 17) (mAndV (mOp2 (fEqP false) (mFld ft_state (mVar 3)) (mC (.str [99, 108, 111, 115, 101, 100]))) (mOp2 (fEqP false) (mFld ft_state (mVar 12)) (mC (.str [99, 108, 111, 115, 101, 100])))))) (mBool (mOp2 (fEqP true) (mTup (mCons (mFld ft_now (mVar 3)) (mCons (mFld ft_now (mVar 12)) (mNil)))) (mTup (mCons (mVar 5) (mCons (mVar 5) (mNil))))))) (mRet (mC (.bl false))) (mSkip)) (mSeq (mPar [15, 16, 6] (mCons (mCall g_law_roll (mCons (mVar 2) (mCons (mC (.int 9)) (mNil)))) (mCons (mCall g_law_roll (mCons (mVar 2) (mCons (mC (.int 4)) (mNil)))) (mCons (mOp2 fAdd (mC (.int 1)) (mCall g_law_roll (mCons (mVar 2) (mCons (mC (.int 6)) (mNil))))) (mNil))))) (mSeq (mSet 8 (mOp2 fAdd (mVar 6) (mCall g_law_roll (mCons (mVar 2) (mCons (mC (.int 9)) (mNil)))))) (mIf (mBool (mOp2 (fEqP true) (mCall g_stand_for (mCons (mVar 15) (mCons (mVar 16) (mCons (mVar 6) (mCons (mVar 8) (mNil)))))) (mOp2 fIx (mApp fSortedI (mCons (mLst (mCons (mVar 6) (mCons (mVar 8) (mCons (mOp2 fMul (mVar 15) (mVar 16)) (mNil))))) (mNil))) (mC (.int 1))))) (mRet (mC (.bl false))) (mSkip))))))))))))) (mRet (mCall g_law_plain mNil))
def g_law : FnM := mBody 21 b_law
theorem fnlaw (B : Bx base mg cc cP) : FnOk P w K mg base (L2.CX P w) 8 (f 23) (fd 23) ["script"] (spM (TBo C cP) K 1 g_law) := by
  refine fn_ok Z.F23 sc23 rfl fun cdv A outer s H E hr => ?_
  have hN : N23.Nodup := sc23.nd
  have hu := hr.units
  have tk := takes_of (X := cxOf (L2.CX P w) P w K mg base N23 "law" (defScope st23) (f 23) cdv A outer s H E) rfl rfl rfl rfl
  exact (mS_cons (mS_for (passes_of rfl) (mI_val (mE_call (ok16 Z B) (hr.mono (by decide)) Z.mg16 Z.kp16 tk (mA_cons (mE_var 0) (mA_cons mE_int mA_nil)) (Len.cons (Len.cons Len.nil)))) (mG_name 2 [2] hN) (mS_cons (mS_par3 9 18 1 (mA_cons (mE_op opr_add op2_add mE_int (mE_call (ok15 Z B 3) (hr.mono (by decide)) Z.mg15 Z.kp15 tk (mA_cons (mE_var 2) (mA_cons mE_int mA_nil)) (Len.cons (Len.cons Len.nil)))) (mA_cons (mE_op opr_add op2_add mE_int (mE_call (ok15 Z B 3) (hr.mono (by decide)) Z.mg15 Z.kp15 tk (mA_cons (mE_var 2) (mA_cons mE_int mA_nil)) (Len.cons (Len.cons Len.nil)))) (mA_cons (mE_call (ok15 Z B 3) (hr.mono (by decide)) Z.mg15 Z.kp15 tk (mA_cons (mE_var 2) (mA_cons mE_int mA_nil)) (Len.cons (Len.cons Len.nil))) mA_nil))) hN) (mS_cons (mS_par2 3 13 (mA_cons (mE_make Z.mk2 rfl (ok0 Z B) (hr.mono (by decide)) Z.mgc2 tk (mA_cons (mE_var 9) (mA_cons (mE_var 18) (mA_cons (mE_var 1) mA_nil))) (Len.cons (Len.cons (Len.cons Len.nil)))) (mA_cons (mE_dctR (mP_cons (mE_str [109, 111, 118, 101, 115]) (mE_var 9) (mP_cons (mE_str [115, 116, 97, 110, 100, 115]) (mE_var 18) (mP_cons (mE_str [97, 103, 97, 105, 110]) (mE_var 1) (mP_cons (mE_str [115, 116, 97, 116, 101]) (mE_str [99, 108, 111, 115, 101, 100]) (mP_cons (mE_str [115, 105, 110, 99, 101]) mE_int (mP_cons (mE_str [117, 110, 116, 105, 108]) mE_int (mP_cons (mE_str [97, 103, 97, 105, 110, 115]) mE_int (mP_cons (mE_str [115, 108, 111, 119]) mE_bl (mP_cons (mE_str [111, 112, 101, 110, 101, 100]) mE_int (mP_cons (mE_str [110, 111, 119]) mE_int mP_nil))))))))))) mA_nil)) hN) (mS_cons (mS_for (passes_of rfl) (mI_rng1 Z.bi_range (mA_cons (mE_call (ok15 Z B 3) (hr.mono (by decide)) Z.mg15 Z.kp15 tk (mA_cons (mE_var 2) (mA_cons mE_int mA_nil)) (Len.cons (Len.cons Len.nil))) mA_nil)) (mG_name 19 [19] hN) (mS_cons (mS_if (mT_or (mT_not (mT_truth (mE_call (ok21 Z B) (hr.mono (by decide)) Z.mg21 Z.kp21 tk (mA_cons (mE_var 2) (mA_cons (mE_var 3) (mA_cons (mE_var 13) mA_nil))) (Len.cons (Len.cons (Len.cons Len.nil)))))) (mT_or (mT_cmp (opr_neP hu) op2_eqP (mE_tup (mA_cons (mE_fld (ftab_state Z) (mE_var 3)) (mA_cons (mE_fld (ftab_now Z) (mE_var 3)) (mA_cons (mE_fld (ftab_opened Z) (mE_var 3)) (mA_cons (mE_fld (ftab_agains Z) (mE_var 3)) (mA_cons (mE_fld (ftab_is_slow Z) (mE_var 3)) mA_nil))))) (Len.cons (Len.cons (Len.cons (Len.cons (Len.cons Len.nil)))))) (mE_tup (mA_cons (mE_ix hu (mE_var 13) (mE_str [115, 116, 97, 116, 101])) (mA_cons (mE_ix hu (mE_var 13) (mE_str [110, 111, 119])) (mA_cons (mE_ix hu (mE_var 13) (mE_str [111, 112, 101, 110, 101, 100])) (mA_cons (mE_ix hu (mE_var 13) (mE_str [97, 103, 97, 105, 110, 115])) (mA_cons (mE_ix hu (mE_var 13) (mE_str [115, 108, 111, 119])) mA_nil))))) (Len.cons (Len.cons (Len.cons (Len.cons (Len.cons Len.nil))))))) (pw_or1 (mT_and (mT_cmp (opr_neP hu) op2_eqP (mE_ix hu (mE_var 13) (mE_str [115, 116, 97, 116, 101])) (mE_str [99, 108, 111, 115, 101, 100])) (pw_and1 (mT_cmp (opr_neP hu) op2_eqP (mE_fld (ftab_since Z) (mE_var 3)) (mE_ix hu (mE_var 13) (mE_str [115, 105, 110, 99, 101]))))).pt))).pt (mS_one (mS_ret mE_bl)) mS_skip) (mS_cons (mS_exp (mE_call (ok19 Z B) (hr.mono (by decide)) Z.mg19 Z.kp19 tk (mA_cons (mE_var 13) (mA_cons (mE_ix hu (mE_var 13) (mE_str [110, 111, 119])) mA_nil)) (Len.cons (Len.cons Len.nil)))) (mS_cons (mS_if (mT_cmp (opr_neP hu) op2_eqP (mE_meth (MTab.one (cf2 Z) (nf_2_go_to) Z.me1 (ok1 Z B)) (hr.mono (by decide)) tk (mE_var 3) (mA_cons (mE_ix hu (mE_var 13) (mE_str [110, 111, 119])) mA_nil) (Len.cons Len.nil)) (mE_ix hu (mE_var 13) (mE_str [115, 116, 97, 116, 101]))) (mS_one (mS_ret mE_bl)) mS_skip) (mS_cons (mS_par2 10 4 (mA_cons (mE_ix hu (mE_var 13) (mE_str [110, 111, 119])) (mA_cons (mE_op op_sub op2_sub (mE_ix hu (mE_var 13) (mE_str [110, 111, 119])) (mE_ix hu (mE_var 13) (mE_str [115, 105, 110, 99, 101]))) mA_nil)) hN) (mS_cons (mS_set 20 (mE_ifE (mT_cmp (opr_in hu) op2_inG (mE_ix hu (mE_var 13) (mE_str [115, 116, 97, 116, 101])) (mE_lst (mA_cons (mE_str [111, 112, 101, 110, 105, 110, 103]) (mA_cons (mE_str [99, 108, 111, 115, 105, 110, 103]) mA_nil)) (Len.cons (Len.cons Len.nil)))) (mE_call (ok18 Z B) (hr.mono (by decide)) Z.mg18 Z.kp18 tk (mA_cons (mE_var 13) mA_nil) (Len.cons Len.nil)) mE_int) hN) (mS_cons (mS_set 14 (mE_ifE (mT_cmp (opr_eqP hu) op2_eqP (mE_ix hu (mE_var 13) (mE_str [115, 116, 97, 116, 101])) (mE_str [111, 112, 101, 110, 105, 110, 103])) (mE_var 4) (mE_op op_sub op2_sub (mE_var 20) (mE_var 4))) hN) (mS_cons (mS_set 11 (mE_ifE (mT_cmp (opr_eqP hu) op2_eqP (mE_ix hu (mE_var 13) (mE_str [115, 116, 97, 116, 101])) (mE_str [99, 108, 111, 115, 101, 100])) mE_int (mE_ifE (mT_cmp (opr_eqP hu) op2_eqP (mE_ix hu (mE_var 13) (mE_str [115, 116, 97, 116, 101])) (mE_str [111, 112, 101, 110])) mE_int (mE_op op_fdivN op2_div (mE_op opr_mul op2_mul mE_int (mE_var 14)) (mE_var 20)))) hN) (mS_cons (mS_set 7 (mE_ix hu (mE_dct (mP_cons (mE_str [99, 108, 111, 115, 101, 100]) mE_int (mP_cons (mE_str [111, 112, 101, 110]) (mE_op opr_add op2_add (mE_op op_sub op2_sub (mE_ix hu (mE_var 13) (mE_str [117, 110, 116, 105, 108])) (mE_var 10)) (mE_op opr_mul op2_mul (mE_var 9) (mE_ifE (mT_truth (mE_ix hu (mE_var 13) (mE_str [115, 108, 111, 119]))) mE_int mE_int))) (mP_cons (mE_str [99, 108, 111, 115, 105, 110, 103]) (mE_op op_sub op2_sub (mE_orV (mE_call (ok18 Z B) (hr.mono (by decide)) Z.mg18 Z.kp18 tk (mA_cons (mE_var 13) mA_nil) (Len.cons Len.nil)) (mE_one mE_int)) (mE_var 4)) (mP_cons (mE_str [111, 112, 101, 110, 105, 110, 103]) (mE_op opr_add op2_add (mE_op opr_add op2_add (mE_op op_sub op2_sub (mE_var 9) (mE_var 4)) (mE_var 18)) (mE_op opr_mul op2_mul (mE_var 9) (mE_ifE (mT_truth (mE_ix hu (mE_var 13) (mE_str [115, 108, 111, 119]))) mE_int mE_int))) mP_nil))))) (mE_ix hu (mE_var 13) (mE_str [115, 116, 97, 116, 101]))) hN) (mS_cons (mS_if (mT_cmp (opr_neP hu) op2_eqP (mE_meth (MTab.one (cf2 Z) (nf_2_how_open) Z.me9 (ok9 Z B)) (hr.mono (by decide)) tk (mE_var 3) (mA_cons (mE_var 10) mA_nil) (Len.cons Len.nil)) (mE_var 11)) (mS_one (mS_ret mE_bl)) mS_skip) (mS_cons (mS_if (mT_or (mT_cmp (opr_neP hu) op2_eqP (mE_meth (MTab.one (cf2 Z) (nf_2_may_move) Z.me10 (ok10 Z B)) (hr.mono (by decide)) tk (mE_var 3) (mA_cons (mE_var 10) mA_nil) (Len.cons Len.nil)) (mE_cmp (opr_eqP hu) op2_eqP (mE_ix hu (mE_var 13) (mE_str [115, 116, 97, 116, 101])) (mE_str [99, 108, 111, 115, 101, 100]))) (pw_or1 (mT_cmp (opr_neP hu) op2_eqP (mE_meth0 (MTab.one (cf2 Z) (nf_2_closed_by) Z.me11 (ok11 Z B)) (hr.mono (by decide)) tk (mE_var 3)) (mE_op opr_add op2_add (mE_var 10) (mE_var 7))))).pt (mS_one (mS_ret mE_bl)) mS_skip) (mS_one (mS_if (mT_cmp (opr_neP hu) op2_eqP (mE_meth0 (MTab.one (cf2 Z) (nf_2_next_change) Z.me2 (ok2 Z B)) (hr.mono (by decide)) tk (mE_var 3)) (mE_ifE (mT_cmp (opr_eqP hu) op2_eqP (mE_ix hu (mE_var 13) (mE_str [115, 116, 97, 116, 101])) (mE_str [99, 108, 111, 115, 101, 100])) mE_non (mE_op opr_add op2_add (mE_ix hu (mE_var 13) (mE_str [115, 105, 110, 99, 101])) (mE_call (ok18 Z B) (hr.mono (by decide)) Z.mg18 Z.kp18 tk (mA_cons (mE_var 13) mA_nil) (Len.cons Len.nil))))) (mS_one (mS_ret mE_bl)) mS_skip))))))))))))) (mS_cons (mS_set 12 (mE_make Z.mk2 rfl (ok0 Z B) (hr.mono (by decide)) Z.mgc2 tk (mA_cons mE_int (mA_cons mE_int (mA_cons mE_int mA_nil))) (Len.cons (Len.cons (Len.cons Len.nil)))) hN) (mS_cons (mS_set 5 (mE_op opr_add op2_add (mE_ix hu (mE_var 13) (mE_str [110, 111, 119])) (mE_call (ok15 Z B 3) (hr.mono (by decide)) Z.mg15 Z.kp15 tk (mA_cons (mE_var 2) (mA_cons mE_int mA_nil)) (Len.cons (Len.cons Len.nil)))) hN) (mS_cons (mS_if (mT_cmp (opr_eqP hu) op2_eqP (mE_call (ok15 Z B 3) (hr.mono (by decide)) Z.mg15 Z.kp15 tk (mA_cons (mE_var 2) (mA_cons mE_int mA_nil)) (Len.cons (Len.cons Len.nil))) mE_int) (mS_one (mS_exp (mE_meth (MTab.one (cf2 Z) (nf_2_open_it) Z.me4 (ok4 Z B)) (hr.mono (by decide)) tk (mE_var 12) (mA_cons mE_int (mA_cons mE_bl mA_nil)) (Len.cons (Len.cons Len.nil))))) mS_skip) (mS_cons (mS_set 17 (mE_call (ok12 Z B) (hr.mono (by decide)) Z.mg12 Z.kp12 tk (mA_cons (mE_tup (mA_cons (mE_var 3) (mA_cons (mE_var 12) mA_nil)) (Len.cons (Len.cons Len.nil))) (mA_cons (mE_var 5) mA_nil)) (Len.cons (Len.cons Len.nil))) hN) (mS_cons (mS_if (mT_or (mT_cmp (opr_neP hu) op2_eqP (mE_var 17) (mE_andV (mE_cmp (opr_eqP hu) op2_eqP (mE_fld (ftab_state Z) (mE_var 3)) (mE_str [99, 108, 111, 115, 101, 100])) (mE_one (mE_cmp (opr_eqP hu) op2_eqP (mE_fld (ftab_state Z) (mE_var 12)) (mE_str [99, 108, 111, 115, 101, 100]))))) (pw_or1 (mT_cmp (opr_neP hu) op2_eqP (mE_tup (mA_cons (mE_fld (ftab_now Z) (mE_var 3)) (mA_cons (mE_fld (ftab_now Z) (mE_var 12)) mA_nil)) (Len.cons (Len.cons Len.nil))) (mE_tup (mA_cons (mE_var 5) (mA_cons (mE_var 5) mA_nil)) (Len.cons (Len.cons Len.nil)))))).pt (mS_one (mS_ret mE_bl)) mS_skip) (mS_cons (mS_par3 15 16 6 (mA_cons (mE_call (ok15 Z B 3) (hr.mono (by decide)) Z.mg15 Z.kp15 tk (mA_cons (mE_var 2) (mA_cons mE_int mA_nil)) (Len.cons (Len.cons Len.nil))) (mA_cons (mE_call (ok15 Z B 3) (hr.mono (by decide)) Z.mg15 Z.kp15 tk (mA_cons (mE_var 2) (mA_cons mE_int mA_nil)) (Len.cons (Len.cons Len.nil))) (mA_cons (mE_op opr_add op2_add mE_int (mE_call (ok15 Z B 3) (hr.mono (by decide)) Z.mg15 Z.kp15 tk (mA_cons (mE_var 2) (mA_cons mE_int mA_nil)) (Len.cons (Len.cons Len.nil)))) mA_nil))) hN) (mS_cons (mS_set 8 (mE_op opr_add op2_add (mE_var 6) (mE_call (ok15 Z B 3) (hr.mono (by decide)) Z.mg15 Z.kp15 tk (mA_cons (mE_var 2) (mA_cons mE_int mA_nil)) (Len.cons (Len.cons Len.nil)))) hN) (mS_one (mS_if (mT_cmp (opr_neP hu) op2_eqP (mE_call (ok13 Z B) (hr.mono (by decide)) Z.mg13 Z.kp13 tk (mA_cons (mE_var 15) (mA_cons (mE_var 16) (mA_cons (mE_var 6) (mA_cons (mE_var 8) mA_nil)))) (Len.cons (Len.cons (Len.cons (Len.cons Len.nil))))) (mE_ix hu (mE_callB cr_sortedI opn_sortedI Z.bi_sorted (mA_cons (mE_lst (mA_cons (mE_var 6) (mA_cons (mE_var 8) (mA_cons (mE_op opr_mul op2_mul (mE_var 15) (mE_var 16)) mA_nil))) (Len.cons (Len.cons (Len.cons Len.nil)))) mA_nil)) mE_int)) (mS_one (mS_ret mE_bl)) mS_skip))))))))))))) (mS_one (mS_ret (mE_call0 (ok22 Z B) (hr.mono (by decide)) Z.mg22 Z.kp22 tk))))
end
theorem all_mk {w : World} {K : PySem.W.Frag} {h : Heap} {mg : Str → Option Value} {fa : Addr} {C0 C1 C2 f14 f16 f0 f3 f2 f1 f5 f4 f9 f11 f6 f10 f13 f7 f8 f12 f17 f22 f15 f18 f19 f20 f21 f23 g0 cc0 cP0 cc1 cP1 : Addr} {oc14 kV14 dc14 pm14 cd14 ct14 : Value} {od14 an14 : Option Addr} {sl14 : Array (Option Value)} {oc16 kV16 dc16 pm16 cd16 ct16 : Value} {od16 an16 : Option Addr} {sl16 : Array (Option Value)} {oc0 kV0 dc0 pm0 cd0 ct0 : Value} {od0 an0 : Option Addr} {sl0 : Array (Option Value)} {oc3 kV3 dc3 pm3 cd3 ct3 : Value} {od3 an3 : Option Addr} {sl3 : Array (Option Value)} {oc2 kV2 dc2 pm2 cd2 ct2 : Value} {od2 an2 : Option Addr} {sl2 : Array (Option Value)} {oc1 kV1 dc1 pm1 cd1 ct1 : Value} {od1 an1 : Option Addr} {sl1 : Array (Option Value)} {oc5 kV5 dc5 pm5 cd5 ct5 : Value} {od5 an5 : Option Addr} {sl5 : Array (Option Value)} {oc4 kV4 dc4 pm4 cd4 ct4 : Value} {od4 an4 : Option Addr} {sl4 : Array (Option Value)} {oc9 kV9 dc9 pm9 cd9 ct9 : Value} {od9 an9 : Option Addr} {sl9 : Array (Option Value)} {oc11 kV11 dc11 pm11 cd11 ct11 : Value} {od11 an11 : Option Addr} {sl11 : Array (Option Value)} {oc6 kV6 dc6 pm6 cd6 ct6 : Value} {od6 an6 : Option Addr} {sl6 : Array (Option Value)} {oc10 kV10 dc10 pm10 cd10 ct10 : Value} {od10 an10 : Option Addr} {sl10 : Array (Option Value)} {oc13 kV13 dc13 pm13 cd13 ct13 : Value} {od13 an13 : Option Addr} {sl13 : Array (Option Value)} {oc7 kV7 dc7 pm7 cd7 ct7 : Value} {od7 an7 : Option Addr} {sl7 : Array (Option Value)} {oc8 kV8 dc8 pm8 cd8 ct8 : Value} {od8 an8 : Option Addr} {sl8 : Array (Option Value)} {oc12 kV12 dc12 pm12 cd12 ct12 : Value} {od12 an12 : Option Addr} {sl12 : Array (Option Value)} {oc17 kV17 dc17 pm17 cd17 ct17 : Value} {od17 an17 : Option Addr} {sl17 : Array (Option Value)} {oc22 kV22 dc22 pm22 cd22 ct22 : Value} {od22 an22 : Option Addr} {sl22 : Array (Option Value)} {oc15 kV15 dc15 pm15 cd15 ct15 : Value} {od15 an15 : Option Addr} {sl15 : Array (Option Value)} {oc18 kV18 dc18 pm18 cd18 ct18 : Value} {od18 an18 : Option Addr} {sl18 : Array (Option Value)} {oc19 kV19 dc19 pm19 cd19 ct19 : Value} {od19 an19 : Option Addr} {sl19 : Array (Option Value)} {oc20 kV20 dc20 pm20 cd20 ct20 : Value} {od20 an20 : Option Addr} {sl20 : Array (Option Value)} {oc21 kV21 dc21 pm21 cd21 ct21 : Value} {od21 an21 : Option Addr} {sl21 : Array (Option Value)} {oc23 kV23 dc23 pm23 cd23 ct23 : Value} {od23 an23 : Option Addr} {sl23 : Array (Option Value)} {ocC0 : Value} {odC0 : Option Addr} {vsC0 : Array Value} {slC0 : Array (Option Value)} {ocC1 : Value} {odC1 : Option Addr} {vsC1 : Array Value} {slC1 : Array (Option Value)} {n0 : Nat} {sl_g0 : Array (Option Value)} {its0 : Array Value} (X : K.In h) (G : h.Ns mainGlobals mg) (hfa : mg "law" = some (.ref fa))
    (aC0 : PySem.W.nsIn K mainGlobals "LiftFault" = some (some (.ref C0)))
    (xe0 : PySem.W.excIn K C0 [.type "ValueError", .type "Exception", .type "BaseException", .type "object"] "ValueError.__new__" = true)
    (xk0 : PySem.W.keepIn K (.ref C0) = true)
    (xs0 : PySem.W.subIn K (.ref C0) (.type "BaseException") = some true)
    (xt0 : PySem.W.typeIn K (.ref C0) = some (.type "type"))
    (aC1 : PySem.W.nsIn K mainGlobals "DoorError" = some (some (.ref C1)))
    (xe1 : PySem.W.excIn K C1 [.type "ValueError", .type "Exception", .type "BaseException", .type "object"] "ValueError.__new__" = true)
    (xk1 : PySem.W.keepIn K (.ref C1) = true)
    (xs1 : PySem.W.subIn K (.ref C1) (.type "BaseException") = some true)
    (xt1 : PySem.W.typeIn K (.ref C1) = some (.type "type"))
    (aC2 : PySem.W.nsIn K mainGlobals "Door" = some (some (.ref C2)))
    (pg2 : PySem.W.plainGet K C2 Str.empty = true)
    (hd2 : PySem.W.hasDictIn K C2 = true)
    (po2 : PySem.W.plainOver K C2 = true)
    (sa2 : PySem.W.findIn K (.ref C2) "__setattr__" = some (some (.builtin "object.__setattr__")))
    (mk2 : PySem.W.makesIn K C2 = true)
    (kc2 : PySem.W.keepIn K (.ref C2) = true)
    (na2_moves : PySem.W.findIn K (.ref C2) "moves" = some none)
    (na2_stands : PySem.W.findIn K (.ref C2) "stands" = some none)
    (na2_again : PySem.W.findIn K (.ref C2) "again" = some none)
    (na2_state : PySem.W.findIn K (.ref C2) "state" = some none)
    (na2_since : PySem.W.findIn K (.ref C2) "since" = some none)
    (na2_until : PySem.W.findIn K (.ref C2) "until" = some none)
    (na2_agains : PySem.W.findIn K (.ref C2) "agains" = some none)
    (na2_is_slow : PySem.W.findIn K (.ref C2) "is_slow" = some none)
    (na2_opened : PySem.W.findIn K (.ref C2) "opened" = some none)
    (na2_now : PySem.W.findIn K (.ref C2) "now" = some none)
    (a14 : PySem.W.nsIn K mainGlobals "_law_dice" = some (some (.ref f14)))
    (l14 : K.lookup f14 = some ⟨oc14, od14, .func (PySem.W.fnOf "_law_dice" "_law_dice" (defArgs st14) (defBody st14) (defScope st14) .none kV14 dc14 pm14 an14 cd14 ct14), sl14⟩)
    (c14 : PySem.W.codeIn K cd14 "_law_dice" = true)
    (k14 : PySem.W.keepIn K (.ref f14) = true)
    (a16 : PySem.W.nsIn K mainGlobals "_law_rounds" = some (some (.ref f16)))
    (l16 : K.lookup f16 = some ⟨oc16, od16, .func (PySem.W.fnOf "_law_rounds" "_law_rounds" (defArgs st16) (defBody st16) (defScope st16) .none kV16 dc16 pm16 an16 cd16 ct16), sl16⟩)
    (c16 : PySem.W.codeIn K cd16 "_law_rounds" = true)
    (k16 : PySem.W.keepIn K (.ref f16) = true)
    (a0 : PySem.W.findIn K (.ref C2) "__init__" = some (some (.ref f0)))
    (i0 : PySem.W.isFn K (.ref f0) = true)
    (l0 : K.lookup f0 = some ⟨oc0, od0, .func (PySem.W.fnOf "__init__" "Door.__init__" (defArgs st0) (defBody st0) (defScope st0) .none kV0 dc0 pm0 an0 cd0 ct0), sl0⟩)
    (c0 : PySem.W.codeIn K cd0 "Door.__init__" = true)
    (k0 : PySem.W.keepIn K (.ref f0) = true)
    (a3 : PySem.W.findIn K (.ref C2) "change_at" = some (some (.ref f3)))
    (i3 : PySem.W.isFn K (.ref f3) = true)
    (l3 : K.lookup f3 = some ⟨oc3, od3, .func (PySem.W.fnOf "change_at" "Door.change_at" (defArgs st3) (defBody st3) (defScope st3) .none kV3 dc3 pm3 an3 cd3 ct3), sl3⟩)
    (c3 : PySem.W.codeIn K cd3 "Door.change_at" = true)
    (k3 : PySem.W.keepIn K (.ref f3) = true)
    (a2 : PySem.W.findIn K (.ref C2) "next_change" = some (some (.ref f2)))
    (i2 : PySem.W.isFn K (.ref f2) = true)
    (l2 : K.lookup f2 = some ⟨oc2, od2, .func (PySem.W.fnOf "next_change" "Door.next_change" (defArgs st2) (defBody st2) (defScope st2) .none kV2 dc2 pm2 an2 cd2 ct2), sl2⟩)
    (c2 : PySem.W.codeIn K cd2 "Door.next_change" = true)
    (k2 : PySem.W.keepIn K (.ref f2) = true)
    (a1 : PySem.W.findIn K (.ref C2) "go_to" = some (some (.ref f1)))
    (i1 : PySem.W.isFn K (.ref f1) = true)
    (l1 : K.lookup f1 = some ⟨oc1, od1, .func (PySem.W.fnOf "go_to" "Door.go_to" (defArgs st1) (defBody st1) (defScope st1) .none kV1 dc1 pm1 an1 cd1 ct1), sl1⟩)
    (c1 : PySem.W.codeIn K cd1 "Door.go_to" = true)
    (k1 : PySem.W.keepIn K (.ref f1) = true)
    (a5 : PySem.W.findIn K (.ref C2) "turn_back" = some (some (.ref f5)))
    (i5 : PySem.W.isFn K (.ref f5) = true)
    (l5 : K.lookup f5 = some ⟨oc5, od5, .func (PySem.W.fnOf "turn_back" "Door.turn_back" (defArgs st5) (defBody st5) (defScope st5) .none kV5 dc5 pm5 an5 cd5 ct5), sl5⟩)
    (c5 : PySem.W.codeIn K cd5 "Door.turn_back" = true)
    (k5 : PySem.W.keepIn K (.ref f5) = true)
    (a4 : PySem.W.findIn K (.ref C2) "open_it" = some (some (.ref f4)))
    (i4 : PySem.W.isFn K (.ref f4) = true)
    (l4 : K.lookup f4 = some ⟨oc4, od4, .func (PySem.W.fnOf "open_it" "Door.open_it" (defArgs st4) (defBody st4) (defScope st4) .none kV4 dc4 pm4 an4 cd4 ct4), sl4⟩)
    (c4 : PySem.W.codeIn K cd4 "Door.open_it" = true)
    (k4 : PySem.W.keepIn K (.ref f4) = true)
    (a9 : PySem.W.findIn K (.ref C2) "how_open" = some (some (.ref f9)))
    (i9 : PySem.W.isFn K (.ref f9) = true)
    (l9 : K.lookup f9 = some ⟨oc9, od9, .func (PySem.W.fnOf "how_open" "Door.how_open" (defArgs st9) (defBody st9) (defScope st9) .none kV9 dc9 pm9 an9 cd9 ct9), sl9⟩)
    (c9 : PySem.W.codeIn K cd9 "Door.how_open" = true)
    (k9 : PySem.W.keepIn K (.ref f9) = true)
    (a11 : PySem.W.findIn K (.ref C2) "closed_by" = some (some (.ref f11)))
    (i11 : PySem.W.isFn K (.ref f11) = true)
    (l11 : K.lookup f11 = some ⟨oc11, od11, .func (PySem.W.fnOf "closed_by" "Door.closed_by" (defArgs st11) (defBody st11) (defScope st11) .none kV11 dc11 pm11 an11 cd11 ct11), sl11⟩)
    (c11 : PySem.W.codeIn K cd11 "Door.closed_by" = true)
    (k11 : PySem.W.keepIn K (.ref f11) = true)
    (a6 : PySem.W.findIn K (.ref C2) "in_the_way" = some (some (.ref f6)))
    (i6 : PySem.W.isFn K (.ref f6) = true)
    (l6 : K.lookup f6 = some ⟨oc6, od6, .func (PySem.W.fnOf "in_the_way" "Door.in_the_way" (defArgs st6) (defBody st6) (defScope st6) .none kV6 dc6 pm6 an6 cd6 ct6), sl6⟩)
    (c6 : PySem.W.codeIn K cd6 "Door.in_the_way" = true)
    (k6 : PySem.W.keepIn K (.ref f6) = true)
    (a10 : PySem.W.findIn K (.ref C2) "may_move" = some (some (.ref f10)))
    (i10 : PySem.W.isFn K (.ref f10) = true)
    (l10 : K.lookup f10 = some ⟨oc10, od10, .func (PySem.W.fnOf "may_move" "Door.may_move" (defArgs st10) (defBody st10) (defScope st10) .none kV10 dc10 pm10 an10 cd10 ct10), sl10⟩)
    (c10 : PySem.W.codeIn K cd10 "Door.may_move" = true)
    (k10 : PySem.W.keepIn K (.ref f10) = true)
    (a13 : PySem.W.nsIn K mainGlobals "stand_for" = some (some (.ref f13)))
    (l13 : K.lookup f13 = some ⟨oc13, od13, .func (PySem.W.fnOf "stand_for" "stand_for" (defArgs st13) (defBody st13) (defScope st13) .none kV13 dc13 pm13 an13 cd13 ct13), sl13⟩)
    (c13 : PySem.W.codeIn K cd13 "stand_for" = true)
    (k13 : PySem.W.keepIn K (.ref f13) = true)
    (a7 : PySem.W.findIn K (.ref C2) "hold_open" = some (some (.ref f7)))
    (i7 : PySem.W.isFn K (.ref f7) = true)
    (l7 : K.lookup f7 = some ⟨oc7, od7, .func (PySem.W.fnOf "hold_open" "Door.hold_open" (defArgs st7) (defBody st7) (defScope st7) .none kV7 dc7 pm7 an7 cd7 ct7), sl7⟩)
    (c7 : PySem.W.codeIn K cd7 "Door.hold_open" = true)
    (k7 : PySem.W.keepIn K (.ref f7) = true)
    (a8 : PySem.W.findIn K (.ref C2) "close_it" = some (some (.ref f8)))
    (i8 : PySem.W.isFn K (.ref f8) = true)
    (l8 : K.lookup f8 = some ⟨oc8, od8, .func (PySem.W.fnOf "close_it" "Door.close_it" (defArgs st8) (defBody st8) (defScope st8) .none kV8 dc8 pm8 an8 cd8 ct8), sl8⟩)
    (c8 : PySem.W.codeIn K cd8 "Door.close_it" = true)
    (k8 : PySem.W.keepIn K (.ref f8) = true)
    (a12 : PySem.W.nsIn K mainGlobals "both_closed" = some (some (.ref f12)))
    (l12 : K.lookup f12 = some ⟨oc12, od12, .func (PySem.W.fnOf "both_closed" "both_closed" (defArgs st12) (defBody st12) (defScope st12) .none kV12 dc12 pm12 an12 cd12 ct12), sl12⟩)
    (c12 : PySem.W.codeIn K cd12 "both_closed" = true)
    (k12 : PySem.W.keepIn K (.ref f12) = true)
    (a17 : PySem.W.nsIn K mainGlobals "_law_told" = some (some (.ref f17)))
    (l17 : K.lookup f17 = some ⟨oc17, od17, .func (PySem.W.fnOf "_law_told" "_law_told" (defArgs st17) (defBody st17) (defScope st17) .none kV17 dc17 pm17 an17 cd17 ct17), sl17⟩)
    (c17 : PySem.W.codeIn K cd17 "_law_told" = true)
    (k17 : PySem.W.keepIn K (.ref f17) = true)
    (a22 : PySem.W.nsIn K mainGlobals "_law_plain" = some (some (.ref f22)))
    (l22 : K.lookup f22 = some ⟨oc22, od22, .func (PySem.W.fnOf "_law_plain" "_law_plain" (defArgs st22) (defBody st22) (defScope st22) .none kV22 dc22 pm22 an22 cd22 ct22), sl22⟩)
    (c22 : PySem.W.codeIn K cd22 "_law_plain" = true)
    (k22 : PySem.W.keepIn K (.ref f22) = true)
    (a15 : PySem.W.nsIn K mainGlobals "_law_roll" = some (some (.ref f15)))
    (l15 : K.lookup f15 = some ⟨oc15, od15, .func (PySem.W.fnOf "_law_roll" "_law_roll" (defArgs st15) (defBody st15) (defScope st15) .none kV15 dc15 pm15 an15 cd15 ct15), sl15⟩)
    (c15 : PySem.W.codeIn K cd15 "_law_roll" = true)
    (k15 : PySem.W.keepIn K (.ref f15) = true)
    (a18 : PySem.W.nsIn K mainGlobals "_law_long" = some (some (.ref f18)))
    (l18 : K.lookup f18 = some ⟨oc18, od18, .func (PySem.W.fnOf "_law_long" "_law_long" (defArgs st18) (defBody st18) (defScope st18) .none kV18 dc18 pm18 an18 cd18 ct18), sl18⟩)
    (c18 : PySem.W.codeIn K cd18 "_law_long" = true)
    (k18 : PySem.W.keepIn K (.ref f18) = true)
    (a19 : PySem.W.nsIn K mainGlobals "_law_go" = some (some (.ref f19)))
    (l19 : K.lookup f19 = some ⟨oc19, od19, .func (PySem.W.fnOf "_law_go" "_law_go" (defArgs st19) (defBody st19) (defScope st19) .none kV19 dc19 pm19 an19 cd19 ct19), sl19⟩)
    (c19 : PySem.W.codeIn K cd19 "_law_go" = true)
    (k19 : PySem.W.keepIn K (.ref f19) = true)
    (a20 : PySem.W.nsIn K mainGlobals "_law_back" = some (some (.ref f20)))
    (l20 : K.lookup f20 = some ⟨oc20, od20, .func (PySem.W.fnOf "_law_back" "_law_back" (defArgs st20) (defBody st20) (defScope st20) .none kV20 dc20 pm20 an20 cd20 ct20), sl20⟩)
    (c20 : PySem.W.codeIn K cd20 "_law_back" = true)
    (k20 : PySem.W.keepIn K (.ref f20) = true)
    (a21 : PySem.W.nsIn K mainGlobals "_law_deed" = some (some (.ref f21)))
    (l21 : K.lookup f21 = some ⟨oc21, od21, .func (PySem.W.fnOf "_law_deed" "_law_deed" (defArgs st21) (defBody st21) (defScope st21) .none kV21 dc21 pm21 an21 cd21 ct21), sl21⟩)
    (c21 : PySem.W.codeIn K cd21 "_law_deed" = true)
    (k21 : PySem.W.keepIn K (.ref f21) = true)
    (a23 : PySem.W.nsIn K mainGlobals "law" = some (some (.ref f23)))
    (l23 : K.lookup f23 = some ⟨oc23, od23, .func (PySem.W.fnOf "law" "law" (defArgs st23) (defBody st23) (defScope st23) .none kV23 dc23 pm23 an23 cd23 ct23), sl23⟩)
    (c23 : PySem.W.codeIn K cd23 "law" = true)
    (k23 : PySem.W.keepIn K (.ref f23) = true)
    (e0 : cd22 = .ref cc0)
    (lC0 : K.lookup cc0 = some ⟨ocC0, odC0, .fields vsC0, slC0⟩)
    (vC0 : vsC0[11]? = some (.ref cP0))
    (hC0 : PySem.W.codeHdIn K cc0 cP0 = true)
    (nC0 : K.lookup cP0 = none)
    (tC0 : h.get? cP0 = some { cls := .none, data := .fields #[] })
    (e1 : cd21 = .ref cc1)
    (lC1 : K.lookup cc1 = some ⟨ocC1, odC1, .fields vsC1, slC1⟩)
    (vC1 : vsC1[11]? = some (.ref cP1))
    (hC1 : PySem.W.codeHdIn K cc1 cP1 = true)
    (nC1 : K.lookup cP1 = none)
    (tC1 : h.get? cP1 = some { cls := .none, data := .fields #[] })
    (np0_1 : cP0 ≠ cP1)
    (bi_abs : PySem.W.nsIn K mainGlobals "abs" = some none)
    (bi_all : PySem.W.nsIn K mainGlobals "all" = some none)
    (bi_int : PySem.W.nsIn K mainGlobals "int" = some none)
    (bi_max : PySem.W.nsIn K mainGlobals "max" = some none)
    (bi_min : PySem.W.nsIn K mainGlobals "min" = some none)
    (bi_range : PySem.W.nsIn K mainGlobals "range" = some none)
    (bi_sorted : PySem.W.nsIn K mainGlobals "sorted" = some none)
    (ag0 : PySem.W.nsIn K mainGlobals "STATES_OF_DOOR" = some (some (.ref g0)))
    (lg0 : K.lookup g0 = some ⟨.type "tuple", none, .seq its0 n0, sl_g0⟩)
    (vg0 : Vals [.str ⟨[99, 108, 111, 115, 101, 100].toArray⟩, .str ⟨[111, 112, 101, 110, 105, 110, 103].toArray⟩, .str ⟨[111, 112, 101, 110].toArray⟩, .str ⟨[99, 108, 111, 115, 105, 110, 103].toArray⟩] its0.toList)
    (zg0 : its0.size ≤ 1000)
    (tcl : PySem.W.isClsIn K C1 = true)
    (ts1 : PySem.W.subIn K (.ref C1) (.ref C1) = some true)
    (lawP : ∀ ns : List Int, ns.length ≤ 63 → (∀ z ∈ ns, Builtin.Int.intBits z ≤ 1048576) → ∃ M, g_law [.fix (ns.map T.int)] [] = .ok (.bl true) M) :
    LamX.LawAtS PySem.Challenge.rw_liftstack_k03_doors_that_move w K (L2.CX PySem.Challenge.pw_liftstack_k03_doors_that_move w) 8 63 "script" mg fa h := by
  have e := hfa.symm.trans (PySem.W.mg_of X G a23)
  have e1 : f23 = fa := by injection e with e; injection e with e; exact e.symm
  subst e1
  have F14 := fun_mk (st := st14) l14 c14 k14
  have b14 := F14.binds (ps := ["cell"]) fun _ _ _ _ _ _ us hl => match us, hl with | [_], _ => rfl
  have F16 := fun_mk (st := st16) l16 c16 k16
  have b16 := F16.binds (ps := ["script", "most"]) fun _ _ _ _ _ _ us hl => match us, hl with | [_, _], _ => rfl
  have F0 := fun_mk (st := st0) l0 c0 k0
  have b0 := F0.binds (ps := ["self", "moves", "stands", "again"]) fun _ _ _ _ _ _ us hl => match us, hl with | [_, _, _, _], _ => rfl
  have F3 := fun_mk (st := st3) l3 c3 k3
  have b3 := F3.binds (ps := ["self", "second"]) fun _ _ _ _ _ _ us hl => match us, hl with | [_, _], _ => rfl
  have F2 := fun_mk (st := st2) l2 c2 k2
  have b2 := F2.binds (ps := ["self"]) fun _ _ _ _ _ _ us hl => match us, hl with | [_], _ => rfl
  have F1 := fun_mk (st := st1) l1 c1 k1
  have b1 := F1.binds (ps := ["self", "now"]) fun _ _ _ _ _ _ us hl => match us, hl with | [_, _], _ => rfl
  have F5 := fun_mk (st := st5) l5 c5 k5
  have b5 := F5.binds (ps := ["self", "now"]) fun _ _ _ _ _ _ us hl => match us, hl with | [_, _], _ => rfl
  have F4 := fun_mk (st := st4) l4 c4 k4
  have b4 := F4.binds (ps := ["self", "now", "is_at_floor"]) fun _ _ _ _ _ _ us hl => match us, hl with | [_, _, _], _ => rfl
  have F9 := fun_mk (st := st9) l9 c9 k9
  have b9 := F9.binds (ps := ["self", "now"]) fun _ _ _ _ _ _ us hl => match us, hl with | [_, _], _ => rfl
  have F11 := fun_mk (st := st11) l11 c11 k11
  have b11 := F11.binds (ps := ["self"]) fun _ _ _ _ _ _ us hl => match us, hl with | [_], _ => rfl
  have F6 := fun_mk (st := st6) l6 c6 k6
  have b6 := F6.binds (ps := ["self", "now"]) fun _ _ _ _ _ _ us hl => match us, hl with | [_, _], _ => rfl
  have F10 := fun_mk (st := st10) l10 c10 k10
  have b10 := F10.binds (ps := ["self", "now"]) fun _ _ _ _ _ _ us hl => match us, hl with | [_, _], _ => rfl
  have F13 := fun_mk (st := st13) l13 c13 k13
  have b13 := F13.binds (ps := ["people", "seconds", "least", "most"]) fun _ _ _ _ _ _ us hl => match us, hl with | [_, _, _, _], _ => rfl
  have F7 := fun_mk (st := st7) l7 c7 k7
  have b7 := F7.binds (ps := ["self", "now", "seconds"]) fun _ _ _ _ _ _ us hl => match us, hl with | [_, _, _], _ => rfl
  have F8 := fun_mk (st := st8) l8 c8 k8
  have b8 := F8.binds (ps := ["self", "now"]) fun _ _ _ _ _ _ us hl => match us, hl with | [_, _], _ => rfl
  have F12 := fun_mk (st := st12) l12 c12 k12
  have b12 := F12.binds (ps := ["doors", "now"]) fun _ _ _ _ _ _ us hl => match us, hl with | [_, _], _ => rfl
  have F17 := fun_mk (st := st17) l17 c17 k17
  have b17 := F17.binds (ps := ["what"]) fun _ _ _ _ _ _ us hl => match us, hl with | [_], _ => rfl
  have F22 := funC_mk (st := st22) l22 c22 k22 e0
  have b22 := F22.fn.binds (ps := []) fun _ _ _ _ _ _ us hl => match us, hl with | [], _ => rfl
  have F15 := fun_mk (st := st15) l15 c15 k15
  have b15 := F15.binds (ps := ["dice", "many"]) fun _ _ _ _ _ _ us hl => match us, hl with | [_, _], _ => rfl
  have F18 := fun_mk (st := st18) l18 c18 k18
  have b18 := F18.binds (ps := ["own"]) fun _ _ _ _ _ _ us hl => match us, hl with | [_], _ => rfl
  have F19 := fun_mk (st := st19) l19 c19 k19
  have b19 := F19.binds (ps := ["own", "now"]) fun _ _ _ _ _ _ us hl => match us, hl with | [_, _], _ => rfl
  have F20 := fun_mk (st := st20) l20 c20 k20
  have b20 := F20.binds (ps := ["own", "now"]) fun _ _ _ _ _ _ us hl => match us, hl with | [_, _], _ => rfl
  have F21 := funC_mk (st := st21) l21 c21 k21 e1
  have b21 := F21.fn.binds (ps := ["dice", "door", "own"]) fun _ _ _ _ _ _ us hl => match us, hl with | [_, _, _], _ => rfl
  have F23 := fun_mk (st := st23) l23 c23 k23
  have b23 := F23.binds (ps := ["script"]) fun _ _ _ _ _ _ us hl => match us, hl with | [_], _ => rfl
  have hex : ∀ c ∈ cs_told, PySem.W.exmOne K (.ref ((TBo (fun i => ([C0, C1, C2] : List Addr).getD i 0) (fun i => ([cP0, cP1] : List Addr).getD i 0)).c c)) (.ref C1) = some true := fun c hc => by
    simp only [List.mem_cons, List.not_mem_nil, or_false] at hc
    rcases hc with rfl
    · exact exm_sub xs1 tcl xt1 ts1
  have told : ToldD K mg (TBo (fun i => ([C0, C1, C2] : List Addr).getD i 0) (fun i => ([cP0, cP1] : List Addr).getD i 0)) "_law_told" cs_told ret_told := told_mk (st := st17) (a := "what") (e := "DoorError") (PySem.W.mg_of X G a17) k17 l17 c17 rfl b17 (⟨rfl, rfl, rfl, by decide +kernel, rfl, by decide +kernel, by decide +kernel⟩ : FnScope ["what"] ["what"] (defScope st17)) rfl rfl rfl (PySem.W.mg_of X G aC1) (by decide) hex (by decide) (by decide)
  have Z : Fx K mg (fun i => ([C0, C1, C2] : List Addr).getD i 0) (fun i => ([f0, f1, f2, f3, f4, f5, f6, f7, f8, f9, f10, f11, f12, f13, f14, f15, f16, f17, f18, f19, f20, f21, f22, f23] : List Addr).getD i 0) (fun i => ([g0] : List Addr).getD i 0) (fun i => ([cc0, cc1] : List Addr).getD i 0) (fun i => ([cP0, cP1] : List Addr).getD i 0) (fun i => ([PySem.W.fnOf "__init__" "Door.__init__" (defArgs st0) (defBody st0) (defScope st0) .none kV0 dc0 pm0 an0 cd0 ct0, PySem.W.fnOf "go_to" "Door.go_to" (defArgs st1) (defBody st1) (defScope st1) .none kV1 dc1 pm1 an1 cd1 ct1, PySem.W.fnOf "next_change" "Door.next_change" (defArgs st2) (defBody st2) (defScope st2) .none kV2 dc2 pm2 an2 cd2 ct2, PySem.W.fnOf "change_at" "Door.change_at" (defArgs st3) (defBody st3) (defScope st3) .none kV3 dc3 pm3 an3 cd3 ct3, PySem.W.fnOf "open_it" "Door.open_it" (defArgs st4) (defBody st4) (defScope st4) .none kV4 dc4 pm4 an4 cd4 ct4, PySem.W.fnOf "turn_back" "Door.turn_back" (defArgs st5) (defBody st5) (defScope st5) .none kV5 dc5 pm5 an5 cd5 ct5, PySem.W.fnOf "in_the_way" "Door.in_the_way" (defArgs st6) (defBody st6) (defScope st6) .none kV6 dc6 pm6 an6 cd6 ct6, PySem.W.fnOf "hold_open" "Door.hold_open" (defArgs st7) (defBody st7) (defScope st7) .none kV7 dc7 pm7 an7 cd7 ct7, PySem.W.fnOf "close_it" "Door.close_it" (defArgs st8) (defBody st8) (defScope st8) .none kV8 dc8 pm8 an8 cd8 ct8, PySem.W.fnOf "how_open" "Door.how_open" (defArgs st9) (defBody st9) (defScope st9) .none kV9 dc9 pm9 an9 cd9 ct9, PySem.W.fnOf "may_move" "Door.may_move" (defArgs st10) (defBody st10) (defScope st10) .none kV10 dc10 pm10 an10 cd10 ct10, PySem.W.fnOf "closed_by" "Door.closed_by" (defArgs st11) (defBody st11) (defScope st11) .none kV11 dc11 pm11 an11 cd11 ct11, PySem.W.fnOf "both_closed" "both_closed" (defArgs st12) (defBody st12) (defScope st12) .none kV12 dc12 pm12 an12 cd12 ct12, PySem.W.fnOf "stand_for" "stand_for" (defArgs st13) (defBody st13) (defScope st13) .none kV13 dc13 pm13 an13 cd13 ct13, PySem.W.fnOf "_law_dice" "_law_dice" (defArgs st14) (defBody st14) (defScope st14) .none kV14 dc14 pm14 an14 cd14 ct14, PySem.W.fnOf "_law_roll" "_law_roll" (defArgs st15) (defBody st15) (defScope st15) .none kV15 dc15 pm15 an15 cd15 ct15, PySem.W.fnOf "_law_rounds" "_law_rounds" (defArgs st16) (defBody st16) (defScope st16) .none kV16 dc16 pm16 an16 cd16 ct16, PySem.W.fnOf "_law_told" "_law_told" (defArgs st17) (defBody st17) (defScope st17) .none kV17 dc17 pm17 an17 cd17 ct17, PySem.W.fnOf "_law_long" "_law_long" (defArgs st18) (defBody st18) (defScope st18) .none kV18 dc18 pm18 an18 cd18 ct18, PySem.W.fnOf "_law_go" "_law_go" (defArgs st19) (defBody st19) (defScope st19) .none kV19 dc19 pm19 an19 cd19 ct19, PySem.W.fnOf "_law_back" "_law_back" (defArgs st20) (defBody st20) (defScope st20) .none kV20 dc20 pm20 an20 cd20 ct20, PySem.W.fnOf "_law_deed" "_law_deed" (defArgs st21) (defBody st21) (defScope st21) .none kV21 dc21 pm21 an21 cd21 ct21, PySem.W.fnOf "_law_plain" "_law_plain" (defArgs st22) (defBody st22) (defScope st22) .none kV22 dc22 pm22 an22 cd22 ct22, PySem.W.fnOf "law" "law" (defArgs st23) (defBody st23) (defScope st23) .none kV23 dc23 pm23 an23 cd23 ct23] : List FuncData).getD i (PySem.W.fnOf "_law_dice" "_law_dice" (defArgs st14) (defBody st14) (defScope st14) .none kV14 dc14 pm14 an14 cd14 ct14)) := ⟨xe0, PySem.W.mg_of X G aC0, xk0, xs0, xt0, xe1, PySem.W.mg_of X G aC1, xk1, xs1, xt1, ⟨pg2, hd2, po2, sa2⟩, ⟨mk2, a0, i0, kc2⟩, PySem.W.mg_of X G aC2, na2_moves, na2_stands, na2_again, na2_state, na2_since, na2_until, na2_agains, na2_is_slow, na2_opened, na2_now, F14, b14, PySem.W.mg_of X G a14, k14, F16, b16, PySem.W.mg_of X G a16, k16, F0, b0, ⟨a0, i0, k0⟩, F3, b3, ⟨a3, i3, k3⟩, F2, b2, ⟨a2, i2, k2⟩, F1, b1, ⟨a1, i1, k1⟩, F5, b5, ⟨a5, i5, k5⟩, F4, b4, ⟨a4, i4, k4⟩, F9, b9, ⟨a9, i9, k9⟩, F11, b11, ⟨a11, i11, k11⟩, F6, b6, ⟨a6, i6, k6⟩, F10, b10, ⟨a10, i10, k10⟩, F13, b13, PySem.W.mg_of X G a13, k13, F7, b7, ⟨a7, i7, k7⟩, F8, b8, ⟨a8, i8, k8⟩, F12, b12, PySem.W.mg_of X G a12, k12, F22, b22, PySem.W.mg_of X G a22, k22, F15, b15, PySem.W.mg_of X G a15, k15, F18, b18, PySem.W.mg_of X G a18, k18, F19, b19, PySem.W.mg_of X G a19, k19, F20, b20, PySem.W.mg_of X G a20, k20, F21, b21, PySem.W.mg_of X G a21, k21, F23, b23, PySem.W.mg_of X G a23, k23, PySem.W.mg_none_of X G bi_abs, PySem.W.mg_none_of X G bi_all, PySem.W.mg_none_of X G bi_int, PySem.W.mg_none_of X G bi_max, PySem.W.mg_none_of X G bi_min, PySem.W.mg_none_of X G bi_range, PySem.W.mg_none_of X G bi_sorted, PySem.W.mg_of X G ag0, ⟨_, _, _, lg0, rfl, rfl, rfl, Nat.le_trans zg0 (by decide), vg0⟩, told, np0_1⟩
  refine ⟨_, [(cc0, cP0), (cc1, cP1)], spM (TBo (fun i => ([C0, C1, C2] : List Addr).getD i 0) (fun i => ([cP0, cP1] : List Addr).getD i 0)) K 1 g_law, (fun p hp => by
      simp only [List.mem_cons, List.not_mem_nil, or_false] at hp
      rcases hp with rfl | rfl
      · exact tC0
      · exact tC1), (fun p hp => by
      simp only [List.mem_cons, List.not_mem_nil, or_false] at hp
      rcases hp with rfl | rfl
      · exact nC0
      · exact nC1), (fun p hp => by
      simp only [List.mem_cons, List.not_mem_nil, or_false] at hp
      rcases hp with rfl | rfl
      · exact PySem.W.codeHd_of_K X hC0
      · exact PySem.W.codeHd_of_K X hC1), fun s v => .of_eq rfl, fun H a ns hlen hbits hH hS => law_sp ?_ hS (lawP ns hlen hbits), fun base _ _ hB => fnlaw (C := (fun i => ([C0, C1, C2] : List Addr).getD i 0)) (f := (fun i => ([f0, f1, f2, f3, f4, f5, f6, f7, f8, f9, f10, f11, f12, f13, f14, f15, f16, f17, f18, f19, f20, f21, f22, f23] : List Addr).getD i 0)) (g := (fun i => ([g0] : List Addr).getD i 0)) (cc := (fun i => ([cc0, cc1] : List Addr).getD i 0)) (cP := (fun i => ([cP0, cP1] : List Addr).getD i 0)) (fd := (fun i => ([PySem.W.fnOf "__init__" "Door.__init__" (defArgs st0) (defBody st0) (defScope st0) .none kV0 dc0 pm0 an0 cd0 ct0, PySem.W.fnOf "go_to" "Door.go_to" (defArgs st1) (defBody st1) (defScope st1) .none kV1 dc1 pm1 an1 cd1 ct1, PySem.W.fnOf "next_change" "Door.next_change" (defArgs st2) (defBody st2) (defScope st2) .none kV2 dc2 pm2 an2 cd2 ct2, PySem.W.fnOf "change_at" "Door.change_at" (defArgs st3) (defBody st3) (defScope st3) .none kV3 dc3 pm3 an3 cd3 ct3, PySem.W.fnOf "open_it" "Door.open_it" (defArgs st4) (defBody st4) (defScope st4) .none kV4 dc4 pm4 an4 cd4 ct4, PySem.W.fnOf "turn_back" "Door.turn_back" (defArgs st5) (defBody st5) (defScope st5) .none kV5 dc5 pm5 an5 cd5 ct5, PySem.W.fnOf "in_the_way" "Door.in_the_way" (defArgs st6) (defBody st6) (defScope st6) .none kV6 dc6 pm6 an6 cd6 ct6, PySem.W.fnOf "hold_open" "Door.hold_open" (defArgs st7) (defBody st7) (defScope st7) .none kV7 dc7 pm7 an7 cd7 ct7, PySem.W.fnOf "close_it" "Door.close_it" (defArgs st8) (defBody st8) (defScope st8) .none kV8 dc8 pm8 an8 cd8 ct8, PySem.W.fnOf "how_open" "Door.how_open" (defArgs st9) (defBody st9) (defScope st9) .none kV9 dc9 pm9 an9 cd9 ct9, PySem.W.fnOf "may_move" "Door.may_move" (defArgs st10) (defBody st10) (defScope st10) .none kV10 dc10 pm10 an10 cd10 ct10, PySem.W.fnOf "closed_by" "Door.closed_by" (defArgs st11) (defBody st11) (defScope st11) .none kV11 dc11 pm11 an11 cd11 ct11, PySem.W.fnOf "both_closed" "both_closed" (defArgs st12) (defBody st12) (defScope st12) .none kV12 dc12 pm12 an12 cd12 ct12, PySem.W.fnOf "stand_for" "stand_for" (defArgs st13) (defBody st13) (defScope st13) .none kV13 dc13 pm13 an13 cd13 ct13, PySem.W.fnOf "_law_dice" "_law_dice" (defArgs st14) (defBody st14) (defScope st14) .none kV14 dc14 pm14 an14 cd14 ct14, PySem.W.fnOf "_law_roll" "_law_roll" (defArgs st15) (defBody st15) (defScope st15) .none kV15 dc15 pm15 an15 cd15 ct15, PySem.W.fnOf "_law_rounds" "_law_rounds" (defArgs st16) (defBody st16) (defScope st16) .none kV16 dc16 pm16 an16 cd16 ct16, PySem.W.fnOf "_law_told" "_law_told" (defArgs st17) (defBody st17) (defScope st17) .none kV17 dc17 pm17 an17 cd17 ct17, PySem.W.fnOf "_law_long" "_law_long" (defArgs st18) (defBody st18) (defScope st18) .none kV18 dc18 pm18 an18 cd18 ct18, PySem.W.fnOf "_law_go" "_law_go" (defArgs st19) (defBody st19) (defScope st19) .none kV19 dc19 pm19 an19 cd19 ct19, PySem.W.fnOf "_law_back" "_law_back" (defArgs st20) (defBody st20) (defScope st20) .none kV20 dc20 pm20 an20 cd20 ct20, PySem.W.fnOf "_law_deed" "_law_deed" (defArgs st21) (defBody st21) (defScope st21) .none kV21 dc21 pm21 an21 cd21 ct21, PySem.W.fnOf "_law_plain" "_law_plain" (defArgs st22) (defBody st22) (defScope st22) .none kV22 dc22 pm22 an22 cd22 ct22, PySem.W.fnOf "law" "law" (defArgs st23) (defBody st23) (defScope st23) .none kV23 dc23 pm23 an23 cd23 ct23] : List FuncData).getD i (PySem.W.fnOf "_law_dice" "_law_dice" (defArgs st14) (defBody st14) (defScope st14) .none kV14 dc14 pm14 an14 cd14 ct14))) Z ⟨trivial, hB (cc0, cP0) (by simp), hB (cc1, cP1) (by simp)⟩⟩
  intro p hp
  simp only [TBo, List.mem_cons, List.not_mem_nil, or_false] at hp
  rcases hp with rfl | rfl
  · exact TabN.nil (hH (cc0, cP0) (by simp))
  · exact TabN.nil (hH (cc1, cP1) (by simp))
end Mi
namespace Mi
open PySem PySem.Spec PyProof.Rows
inductive St4 where
  | cl | og | op | cg
  deriving DecidableEq
def St4.s : St4 → List Nat
  | .cl => [99, 108, 111, 115, 101, 100]
  | .og => [111, 112, 101, 110, 105, 110, 103]
  | .op => [111, 112, 101, 110]
  | .cg => [99, 108, 111, 115, 105, 110, 103]
structure Dr where
  m : Int
  s : Int
  g : Int
  st : St4
  si : Int
  un : Int
  ag : Int
  sl : Bool
  op : Int
  nw : Int
def Dr.ob (d : Dr) : Ob := .ins 2 [.int d.m, .int d.s, .int d.g, .str d.st.s, .int d.si, .int d.un, .int d.ag, .bl d.sl, .int d.op, .int d.nw]
def Dr.long (d : Dr) : Int := d.m * (if d.sl then 2 else 1)
def Dr.nxI (d : Dr) : Int := match d.st with
  | .cl => 0
  | .op => d.un
  | .og => d.si + d.m * 1
  | .cg => d.si + d.m * (if d.sl then 2 else 1)
def Dr.nx (d : Dr) : T := match d.st with
  | .cl => .non
  | _ => .int d.nxI
def Dr.due (d : Dr) (now : Int) : Bool := match d.st with
  | .cl => false
  | _ => decide (d.nxI ≤ now)
def Dr.chg (d : Dr) (t : Int) : Dr := match d.st with
  | .cl => { d with st := .og, si := t }
  | .og => { d with st := .op, si := t, un := t + d.s }
  | .op => { d with st := .cg, si := t }
  | .cg => { d with st := .cl, si := t, ag := 0, sl := false }
def Dr.loop (now : Int) : Nat → Dr → Option Dr
  | 0, _ => none
  | n + 1, d => if d.due now then loop now n (d.chg d.nxI) else some d
theorem next_eq {M : Hs} {i : Nat} {d : Dr} (h : M[i]? = some d.ob) : g_Door_next_change [.ref i] M = .ok d.nx M := by
  obtain ⟨m, s, g, st, si, un, ag, sl, op, nw⟩ := d
  cases st <;> cases sl <;> simp [g_Door_next_change, b_Door_next_change, h, Dr.ob, Dr.nx, Dr.nxI, St4.s, mBody, mSeq, mIf, mBool, mOp2, mOp1, mFld, mVar, mC, okT, Res.bind, Res.st, mRet, mRetN, mSkip, mExp, mSet, mRaise, mIfE, mAnd, mOr, mNot, mOfB, mTru, tru, mAndV, mOrV, mChain, fEqP, deR, dp, teq_ss, teq_ii, teq_bb, teq_nn, teq_sn, teq_ns, teq_in, teq_ni, teq_bn, teq_nb, teq_si, teq_is, teq_sb, teq_bs, teq_ll, teq_tt, teq_ln, teq_tn, teqL_nn, teqL_cc, teqL_nc, teqL_cn, fAdd, fSub, fMul, fDiv, fMod, fPow, fNeg, fLt, fLe, fGt, fGe, fIs, fIsN, isNon, smallI, mTup, mLst, mLstR, mCons, mNil, mApp, mCall, mMeth, mMake, mSetFld, putFld, rdFld, mAugFld, fIAdd, Res.putTo, mSetSub, fPut, fIx, fTix, fstIx, fAbs, fMax2, fMin2, fInt, mBm, isDR, fUpd, dcOf, isRef, lsW, lsOf, dMerge, dPut, dHas, dGet, kEq, isKey, mDct, mPairs, okD, mDctR, mDctR0, mPar, stL, mAsg, gTp, gC, gN, gZ, fInG, mTold, L2.atI, L2.ixN, ft_state, ft_until, ft_since, ft_moves, ft_stands, ft_again, ft_is_slow, ft_agains, ft_opened, ft_now, c_STATES_OF_DOOR, ss_STATES_OF_DOOR]
theorem chg_eq {M : Hs} {i : Nat} {d : Dr} {t : Int} (h : M[i]? = some d.ob) : g_Door_change_at [.ref i, .int t] M = .ok .non (M.set i (d.chg t).ob) := by
  obtain ⟨m, s, g, st, si, un, ag, sl, op, nw⟩ := d
  have gs : ∀ x, (M.set i x)[i]? = some x := fun _ => get_set h
  cases st <;> cases sl <;> simp [g_Door_change_at, b_Door_change_at, h, gs, Dr.ob, Dr.chg, St4.s, mBody, mSeq, mIf, mBool, mOp2, mOp1, mFld, mVar, mC, okT, Res.bind, Res.st, mRet, mRetN, mSkip, mExp, mSet, mRaise, mIfE, mAnd, mOr, mNot, mOfB, mTru, tru, mAndV, mOrV, mChain, fEqP, deR, dp, teq_ss, teq_ii, teq_bb, teq_nn, teq_sn, teq_ns, teq_in, teq_ni, teq_bn, teq_nb, teq_si, teq_is, teq_sb, teq_bs, teq_ll, teq_tt, teq_ln, teq_tn, teqL_nn, teqL_cc, teqL_nc, teqL_cn, fAdd, fSub, fMul, fDiv, fMod, fPow, fNeg, fLt, fLe, fGt, fGe, fIs, fIsN, isNon, smallI, mTup, mLst, mLstR, mCons, mNil, mApp, mCall, mMeth, mMake, mSetFld, putFld, rdFld, mAugFld, fIAdd, Res.putTo, mSetSub, fPut, fIx, fTix, fstIx, fAbs, fMax2, fMin2, fInt, mBm, isDR, fUpd, dcOf, isRef, lsW, lsOf, dMerge, dPut, dHas, dGet, kEq, isKey, mDct, mPairs, okD, mDctR, mDctR0, mPar, stL, mAsg, gTp, gC, gN, gZ, fInG, mTold, L2.atI, L2.ixN, ft_state, ft_until, ft_since, ft_moves, ft_stands, ft_again, ft_is_slow, ft_agains, ft_opened, ft_now, c_STATES_OF_DOOR, ss_STATES_OF_DOOR]
theorem goto_loop {i : Nat} {now : Int} : ∀ (n : Nat) (M : Hs) (d d' : Dr), M[i]? = some d.ob → d.loop now n = some d' →
    whileF (mAnd (mBool (mOp2 (fIsN) (mMeth [(2, g_Door_next_change)] (mVar 0) mNil) (mC .non))) (mBool (mOp2 (fLe) (mMeth [(2, g_Door_next_change)] (mVar 0) mNil) (mVar 1)))) (mExp (mMeth [(2, g_Door_change_at)] (mVar 0) (mCons (mMeth [(2, g_Door_next_change)] (mVar 0) mNil) (mNil)))) n [.ref i, .int now] M
      = .nx [.ref i, .int now] (M.set i d'.ob)
  | 0, M, d, d', h, e => by cases e
  | n + 1, M, d, d', h, e => by
    have hk : M[i]? = some (.ins 2 [.int d.m, .int d.s, .int d.g, .str d.st.s, .int d.si, .int d.un, .int d.ag, .bl d.sl, .int d.op, .int d.nw]) := h
    unfold Dr.loop at e
    by_cases hd : d.due now = true
    · rw [if_pos hd] at e
      have ih := goto_loop n (M.set i (d.chg d.nxI).ob) (d.chg d.nxI) d' (get_set h) e
      obtain ⟨m, s, g, st, si, un, ag, sl, op, nw⟩ := d
      cases st
      · simp [Dr.due] at hd
      all_goals
        have hd' := of_decide_eq_true hd
        unfold whileF
        simp [hk, next_eq h, chg_eq h, Dr.nx, hd', ih, mBody, mSeq, mIf, mBool, mOp2, mOp1, mFld, mVar, mC, okT, Res.bind, Res.st, mRet, mRetN, mSkip, mExp, mSet, mRaise, mIfE, mAnd, mOr, mNot, mOfB, mTru, tru, mAndV, mOrV, mChain, fEqP, deR, dp, teq_ss, teq_ii, teq_bb, teq_nn, teq_sn, teq_ns, teq_in, teq_ni, teq_bn, teq_nb, teq_si, teq_is, teq_sb, teq_bs, teq_ll, teq_tt, teq_ln, teq_tn, teqL_nn, teqL_cc, teqL_nc, teqL_cn, fAdd, fSub, fMul, fDiv, fMod, fPow, fNeg, fLt, fLe, fGt, fGe, fIs, fIsN, isNon, smallI, mTup, mLst, mLstR, mCons, mNil, mApp, mCall, mMeth, mMake, mSetFld, putFld, rdFld, mAugFld, fIAdd, Res.putTo, mSetSub, fPut, fIx, fTix, fstIx, fAbs, fMax2, fMin2, fInt, mBm, isDR, fUpd, dcOf, isRef, lsW, lsOf, dMerge, dPut, dHas, dGet, kEq, isKey, mDct, mPairs, okD, mDctR, mDctR0, mPar, stL, mAsg, gTp, gC, gN, gZ, fInG, mTold, L2.atI, L2.ixN, ft_state, ft_until, ft_since, ft_moves, ft_stands, ft_again, ft_is_slow, ft_agains, ft_opened, ft_now, c_STATES_OF_DOOR, ss_STATES_OF_DOOR]
    · rw [if_neg hd] at e
      cases e
      rw [set_same h]
      obtain ⟨m, s, g, st, si, un, ag, sl, op, nw⟩ := d
      unfold whileF
      cases st
      · simp [hk, next_eq h, Dr.nx, mBody, mSeq, mIf, mBool, mOp2, mOp1, mFld, mVar, mC, okT, Res.bind, Res.st, mRet, mRetN, mSkip, mExp, mSet, mRaise, mIfE, mAnd, mOr, mNot, mOfB, mTru, tru, mAndV, mOrV, mChain, fEqP, deR, dp, teq_ss, teq_ii, teq_bb, teq_nn, teq_sn, teq_ns, teq_in, teq_ni, teq_bn, teq_nb, teq_si, teq_is, teq_sb, teq_bs, teq_ll, teq_tt, teq_ln, teq_tn, teqL_nn, teqL_cc, teqL_nc, teqL_cn, fAdd, fSub, fMul, fDiv, fMod, fPow, fNeg, fLt, fLe, fGt, fGe, fIs, fIsN, isNon, smallI, mTup, mLst, mLstR, mCons, mNil, mApp, mCall, mMeth, mMake, mSetFld, putFld, rdFld, mAugFld, fIAdd, Res.putTo, mSetSub, fPut, fIx, fTix, fstIx, fAbs, fMax2, fMin2, fInt, mBm, isDR, fUpd, dcOf, isRef, lsW, lsOf, dMerge, dPut, dHas, dGet, kEq, isKey, mDct, mPairs, okD, mDctR, mDctR0, mPar, stL, mAsg, gTp, gC, gN, gZ, fInG, mTold, L2.atI, L2.ixN, ft_state, ft_until, ft_since, ft_moves, ft_stands, ft_again, ft_is_slow, ft_agains, ft_opened, ft_now, c_STATES_OF_DOOR, ss_STATES_OF_DOOR]
      all_goals
        have hd' : ¬ (Dr.nxI _ ≤ now) := fun z => hd (decide_eq_true z)
        simp [hk, next_eq h, Dr.nx, hd', mBody, mSeq, mIf, mBool, mOp2, mOp1, mFld, mVar, mC, okT, Res.bind, Res.st, mRet, mRetN, mSkip, mExp, mSet, mRaise, mIfE, mAnd, mOr, mNot, mOfB, mTru, tru, mAndV, mOrV, mChain, fEqP, deR, dp, teq_ss, teq_ii, teq_bb, teq_nn, teq_sn, teq_ns, teq_in, teq_ni, teq_bn, teq_nb, teq_si, teq_is, teq_sb, teq_bs, teq_ll, teq_tt, teq_ln, teq_tn, teqL_nn, teqL_cc, teqL_nc, teqL_cn, fAdd, fSub, fMul, fDiv, fMod, fPow, fNeg, fLt, fLe, fGt, fGe, fIs, fIsN, isNon, smallI, mTup, mLst, mLstR, mCons, mNil, mApp, mCall, mMeth, mMake, mSetFld, putFld, rdFld, mAugFld, fIAdd, Res.putTo, mSetSub, fPut, fIx, fTix, fstIx, fAbs, fMax2, fMin2, fInt, mBm, isDR, fUpd, dcOf, isRef, lsW, lsOf, dMerge, dPut, dHas, dGet, kEq, isKey, mDct, mPairs, okD, mDctR, mDctR0, mPar, stL, mAsg, gTp, gC, gN, gZ, fInG, mTold, L2.atI, L2.ixN, ft_state, ft_until, ft_since, ft_moves, ft_stands, ft_again, ft_is_slow, ft_agains, ft_opened, ft_now, c_STATES_OF_DOOR, ss_STATES_OF_DOOR]
theorem loop_end {now : Int} : ∀ (n : Nat) (d d' : Dr), d.loop now n = some d' → d'.due now = false
  | 0, d, d', e => by cases e
  | n + 1, d, d', e => by
    unfold Dr.loop at e
    by_cases hd : d.due now = true
    · rw [if_pos hd] at e; exact loop_end n _ _ e
    · rw [if_neg hd] at e; cases e; simpa using hd
theorem loop_ok {now : Int} (n : Nat) (d : Dr) : ∃ d', d.loop now (n + 4) = some d' := by
  obtain ⟨m, s, g, st, si, un, ag, sl, op, nw⟩ := d
  cases st <;> simp only [Dr.loop, Dr.chg, Dr.due, Bool.false_eq_true, if_false] <;> repeat' split
  all_goals exact ⟨_, rfl⟩
theorem loop_more {now : Int} : ∀ (n : Nat) (d d' : Dr), d.loop now n = some d' → ∀ k, d.loop now (n + k) = some d'
  | 0, d, d', e, k => by cases e
  | n + 1, d, d', e, k => by
    unfold Dr.loop at e
    rw [Nat.add_right_comm]
    unfold Dr.loop
    by_cases hd : d.due now = true
    · rw [if_pos hd] at e ⊢; exact loop_more n _ _ e k
    · rw [if_neg hd] at e ⊢; exact e
/-- the door as it stands at now -/
def Dr.go (d : Dr) (now : Int) : Dr := { ((d.loop now 4).getD d) with nw := now }
theorem go_loop (d : Dr) (now : Int) (k : Nat) : d.loop now (4 + k) = some ((d.loop now 4).getD d) := by
  obtain ⟨d', e⟩ := loop_ok (now := now) 0 d
  rw [e]
  exact loop_more 4 d d' e k
theorem goto_eq {M : Hs} {i : Nat} {d : Dr} {now : Int} (h : M[i]? = some d.ob) : g_Door_go_to [.ref i, .int now] M = if now < d.nw then .ex 1 M else .ok (.str (d.go now).st.s) (M.set i (d.go now).ob) := by
  have hk : M[i]? = some (.ins 2 [.int d.m, .int d.s, .int d.g, .str d.st.s, .int d.si, .int d.un, .int d.ag, .bl d.sl, .int d.op, .int d.nw]) := h
  by_cases hn : now < d.nw
  · simp [g_Door_go_to, b_Door_go_to, hk, hn, mBody, mSeq, mIf, mBool, mOp2, mOp1, mFld, mVar, mC, okT, Res.bind, Res.st, mRet, mRetN, mSkip, mExp, mSet, mRaise, mIfE, mAnd, mOr, mNot, mOfB, mTru, tru, mAndV, mOrV, mChain, fEqP, deR, dp, teq_ss, teq_ii, teq_bb, teq_nn, teq_sn, teq_ns, teq_in, teq_ni, teq_bn, teq_nb, teq_si, teq_is, teq_sb, teq_bs, teq_ll, teq_tt, teq_ln, teq_tn, teqL_nn, teqL_cc, teqL_nc, teqL_cn, fAdd, fSub, fMul, fDiv, fMod, fPow, fNeg, fLt, fLe, fGt, fGe, fIs, fIsN, isNon, smallI, mTup, mLst, mLstR, mCons, mNil, mApp, mCall, mMeth, mMake, mSetFld, putFld, rdFld, mAugFld, fIAdd, Res.putTo, mSetSub, fPut, fIx, fTix, fstIx, fAbs, fMax2, fMin2, fInt, mBm, isDR, fUpd, dcOf, isRef, lsW, lsOf, dMerge, dPut, dHas, dGet, kEq, isKey, mDct, mPairs, okD, mDctR, mDctR0, mPar, stL, mAsg, gTp, gC, gN, gZ, fInG, mTold, L2.atI, L2.ixN, ft_state, ft_until, ft_since, ft_moves, ft_stands, ft_again, ft_is_slow, ft_agains, ft_opened, ft_now, c_STATES_OF_DOOR, ss_STATES_OF_DOOR]
  · have w := goto_loop 1000000 M d _ h (go_loop d now 999996)
    generalize hd : (d.loop now 4).getD d = d' at w
    have e : d.go now = { d' with nw := now } := by rw [Dr.go, hd]
    have gs : ∀ x, (M.set i x)[i]? = some x := fun _ => get_set h
    have hk2 : d'.ob = .ins 2 [.int d'.m, .int d'.s, .int d'.g, .str d'.st.s, .int d'.si, .int d'.un, .int d'.ag, .bl d'.sl, .int d'.op, .int d'.nw] := rfl
    have hk3 : ({ d' with nw := now } : Dr).ob = .ins 2 [.int d'.m, .int d'.s, .int d'.g, .str d'.st.s, .int d'.si, .int d'.un, .int d'.ag, .bl d'.sl, .int d'.op, .int now] := rfl
    rw [e, hk3]
    rw [hk2] at w
    unfold g_Door_go_to b_Door_go_to mBody mSeq mWhile
    simp [hk, hn, mBody, mSeq, mIf, mBool, mOp2, mOp1, mFld, mVar, mC, okT, Res.bind, Res.st, mRet, mRetN, mSkip, mExp, mSet, mRaise, mIfE, mAnd, mOr, mNot, mOfB, mTru, tru, mAndV, mOrV, mChain, fEqP, deR, dp, teq_ss, teq_ii, teq_bb, teq_nn, teq_sn, teq_ns, teq_in, teq_ni, teq_bn, teq_nb, teq_si, teq_is, teq_sb, teq_bs, teq_ll, teq_tt, teq_ln, teq_tn, teqL_nn, teqL_cc, teqL_nc, teqL_cn, fAdd, fSub, fMul, fDiv, fMod, fPow, fNeg, fLt, fLe, fGt, fGe, fIs, fIsN, isNon, smallI, mTup, mLst, mLstR, mCons, mNil, mApp, mCall, mMeth, mMake, mSetFld, putFld, rdFld, mAugFld, fIAdd, Res.putTo, mSetSub, fPut, fIx, fTix, fstIx, fAbs, fMax2, fMin2, fInt, mBm, isDR, fUpd, dcOf, isRef, lsW, lsOf, dMerge, dPut, dHas, dGet, kEq, isKey, mDct, mPairs, okD, mDctR, mDctR0, mPar, stL, mAsg, gTp, gC, gN, gZ, fInG, mTold, L2.atI, L2.ixN, ft_state, ft_until, ft_since, ft_moves, ft_stands, ft_again, ft_is_slow, ft_agains, ft_opened, ft_now, c_STATES_OF_DOOR, ss_STATES_OF_DOOR] at w ⊢
    simp [w, gs]
end Mi
namespace Mi
open PySem PySem.Spec PyProof.Rows
def Dr.back (d : Dr) (now : Int) : Dr := { d with st := .og, si := now - (d.m - (if d.sl then ((now - d.si) + 1).fdiv 2 else now - d.si)) }
def Dr.opn (d : Dr) (now : Int) : Dr := match d.st with
  | .op => { d with un := now + d.s }
  | .cl => { d with st := .og, si := now, op := d.op + 1 }
  | _ => d.back now
def Dr.way (d : Dr) (now : Int) : Dr := if d.ag < d.g then ({ d with ag := d.ag + 1 } : Dr).back now else if d.sl then d else { d with si := now - 2 * (now - d.si), sl := true }
def Dr.hold (d : Dr) (now sec : Int) : Dr := { d with un := if now + sec > d.un then now + sec else d.un }
def Dr.cls (d : Dr) (now : Int) : Dr := { d with st := .cg, si := now }
def Dr.how (d : Dr) (now : Int) : Int := match d.st with
  | .cl => 0
  | .op => 1000
  | .og => (1000 * (now - d.si)).fdiv (d.m * 1)
  | .cg => (1000 * (d.m * (if d.sl then 2 else 1) - (now - d.si))).fdiv (d.m * (if d.sl then 2 else 1))
def Dr.by_ (d : Dr) : Int := match d.st with
  | .cl => d.nw
  | .cg => d.nxI
  | .op => d.un + d.m * (if d.sl then 2 else 1)
  | .og => d.nxI + d.s + d.m * (if d.sl then 2 else 1)
section
variable {M : Hs} {i : Nat} {d : Dr} {now : Int} (h : M[i]? = some d.ob)
include h
theorem back_eq : g_Door_turn_back [.ref i, .int now] M = .ok .non (M.set i (d.back now).ob) := by
  obtain ⟨m, s, g, st, si, un, ag, sl, op, nw⟩ := d
  have gs : ∀ x, (M.set i x)[i]? = some x := fun _ => get_set h
  cases sl <;> simp [g_Door_turn_back, b_Door_turn_back, h, gs, Dr.ob, Dr.back, St4.s, mBody, mSeq, mIf, mBool, mOp2, mOp1, mFld, mVar, mC, okT, Res.bind, Res.st, mRet, mRetN, mSkip, mExp, mSet, mRaise, mIfE, mAnd, mOr, mNot, mOfB, mTru, tru, mAndV, mOrV, mChain, fEqP, deR, dp, teq_ss, teq_ii, teq_bb, teq_nn, teq_sn, teq_ns, teq_in, teq_ni, teq_bn, teq_nb, teq_si, teq_is, teq_sb, teq_bs, teq_ll, teq_tt, teq_ln, teq_tn, teqL_nn, teqL_cc, teqL_nc, teqL_cn, fAdd, fSub, fMul, fDiv, fMod, fPow, fNeg, fLt, fLe, fGt, fGe, fIs, fIsN, isNon, smallI, mTup, mLst, mLstR, mCons, mNil, mApp, mCall, mMeth, mMake, mSetFld, putFld, rdFld, mAugFld, fIAdd, Res.putTo, mSetSub, fPut, fIx, fTix, fstIx, fAbs, fMax2, fMin2, fInt, mBm, isDR, fUpd, dcOf, isRef, lsW, lsOf, dMerge, dPut, dHas, dGet, kEq, isKey, mDct, mPairs, okD, mDctR, mDctR0, mPar, stL, mAsg, gTp, gC, gN, gZ, fInG, mTold, L2.atI, L2.ixN, ft_state, ft_until, ft_since, ft_moves, ft_stands, ft_again, ft_is_slow, ft_agains, ft_opened, ft_now, c_STATES_OF_DOOR, ss_STATES_OF_DOOR]
theorem goto_ok (hn : ¬ now < d.nw) : g_Door_go_to [.ref i, .int now] M = .ok (.str (d.go now).st.s) (M.set i (d.go now).ob) := by
  rw [goto_eq h, if_neg hn]
theorem open_eq {at_ : Bool} : g_Door_open_it [.ref i, .int now, .bl at_] M = if now < d.nw then .ex 1 M else if at_ = false ∨ (d.go now).st = .og then .ex 1 (M.set i (d.go now).ob) else .ok .non (M.set i ((d.go now).opn now).ob) := by
  have hk : M[i]? = some (.ins 2 [.int d.m, .int d.s, .int d.g, .str d.st.s, .int d.si, .int d.un, .int d.ag, .bl d.sl, .int d.op, .int d.nw]) := h
  by_cases hn : now < d.nw
  · simp [g_Door_open_it, b_Door_open_it, hk, goto_eq h, hn, mBody, mSeq, mIf, mBool, mOp2, mOp1, mFld, mVar, mC, okT, Res.bind, Res.st, mRet, mRetN, mSkip, mExp, mSet, mRaise, mIfE, mAnd, mOr, mNot, mOfB, mTru, tru, mAndV, mOrV, mChain, fEqP, deR, dp, teq_ss, teq_ii, teq_bb, teq_nn, teq_sn, teq_ns, teq_in, teq_ni, teq_bn, teq_nb, teq_si, teq_is, teq_sb, teq_bs, teq_ll, teq_tt, teq_ln, teq_tn, teqL_nn, teqL_cc, teqL_nc, teqL_cn, fAdd, fSub, fMul, fDiv, fMod, fPow, fNeg, fLt, fLe, fGt, fGe, fIs, fIsN, isNon, smallI, mTup, mLst, mLstR, mCons, mNil, mApp, mCall, mMeth, mMake, mSetFld, putFld, rdFld, mAugFld, fIAdd, Res.putTo, mSetSub, fPut, fIx, fTix, fstIx, fAbs, fMax2, fMin2, fInt, mBm, isDR, fUpd, dcOf, isRef, lsW, lsOf, dMerge, dPut, dHas, dGet, kEq, isKey, mDct, mPairs, okD, mDctR, mDctR0, mPar, stL, mAsg, gTp, gC, gN, gZ, fInG, mTold, L2.atI, L2.ixN, ft_state, ft_until, ft_since, ft_moves, ft_stands, ft_again, ft_is_slow, ft_agains, ft_opened, ft_now, c_STATES_OF_DOOR, ss_STATES_OF_DOOR]
  · have e := goto_ok h hn
    have gs : ∀ x, (M.set i x)[i]? = some x := fun _ => get_set h
    have tb := fun d' : Dr => back_eq (now := now) (d := d') (get_set (y := d'.ob) h)
    rw [if_neg hn]
    generalize d.go now = d' at e
    have tb := tb d'
    obtain ⟨m, s, g, st, si, un, ag, sl, op, nw⟩ := d'
    cases at_ <;> cases st <;> simp only [Dr.ob, St4.s, Dr.opn] at e tb ⊢ <;> simp [g_Door_open_it, b_Door_open_it, hk, e, gs, tb, List.set_set, mBody, mSeq, mIf, mBool, mOp2, mOp1, mFld, mVar, mC, okT, Res.bind, Res.st, mRet, mRetN, mSkip, mExp, mSet, mRaise, mIfE, mAnd, mOr, mNot, mOfB, mTru, tru, mAndV, mOrV, mChain, fEqP, deR, dp, teq_ss, teq_ii, teq_bb, teq_nn, teq_sn, teq_ns, teq_in, teq_ni, teq_bn, teq_nb, teq_si, teq_is, teq_sb, teq_bs, teq_ll, teq_tt, teq_ln, teq_tn, teqL_nn, teqL_cc, teqL_nc, teqL_cn, fAdd, fSub, fMul, fDiv, fMod, fPow, fNeg, fLt, fLe, fGt, fGe, fIs, fIsN, isNon, smallI, mTup, mLst, mLstR, mCons, mNil, mApp, mCall, mMeth, mMake, mSetFld, putFld, rdFld, mAugFld, fIAdd, Res.putTo, mSetSub, fPut, fIx, fTix, fstIx, fAbs, fMax2, fMin2, fInt, mBm, isDR, fUpd, dcOf, isRef, lsW, lsOf, dMerge, dPut, dHas, dGet, kEq, isKey, mDct, mPairs, okD, mDctR, mDctR0, mPar, stL, mAsg, gTp, gC, gN, gZ, fInG, mTold, L2.atI, L2.ixN, ft_state, ft_until, ft_since, ft_moves, ft_stands, ft_again, ft_is_slow, ft_agains, ft_opened, ft_now, c_STATES_OF_DOOR, ss_STATES_OF_DOOR]
theorem way_eq : g_Door_in_the_way [.ref i, .int now] M = if now < d.nw then .ex 1 M else if (d.go now).st = .cg then .ok (.bl (decide ((d.go now).ag < (d.go now).g))) (M.set i ((d.go now).way now).ob) else .ex 1 (M.set i (d.go now).ob) := by
  have hk : M[i]? = some (.ins 2 [.int d.m, .int d.s, .int d.g, .str d.st.s, .int d.si, .int d.un, .int d.ag, .bl d.sl, .int d.op, .int d.nw]) := h
  by_cases hn : now < d.nw
  · simp [g_Door_in_the_way, b_Door_in_the_way, hk, goto_eq h, hn, mBody, mSeq, mIf, mBool, mOp2, mOp1, mFld, mVar, mC, okT, Res.bind, Res.st, mRet, mRetN, mSkip, mExp, mSet, mRaise, mIfE, mAnd, mOr, mNot, mOfB, mTru, tru, mAndV, mOrV, mChain, fEqP, deR, dp, teq_ss, teq_ii, teq_bb, teq_nn, teq_sn, teq_ns, teq_in, teq_ni, teq_bn, teq_nb, teq_si, teq_is, teq_sb, teq_bs, teq_ll, teq_tt, teq_ln, teq_tn, teqL_nn, teqL_cc, teqL_nc, teqL_cn, fAdd, fSub, fMul, fDiv, fMod, fPow, fNeg, fLt, fLe, fGt, fGe, fIs, fIsN, isNon, smallI, mTup, mLst, mLstR, mCons, mNil, mApp, mCall, mMeth, mMake, mSetFld, putFld, rdFld, mAugFld, fIAdd, Res.putTo, mSetSub, fPut, fIx, fTix, fstIx, fAbs, fMax2, fMin2, fInt, mBm, isDR, fUpd, dcOf, isRef, lsW, lsOf, dMerge, dPut, dHas, dGet, kEq, isKey, mDct, mPairs, okD, mDctR, mDctR0, mPar, stL, mAsg, gTp, gC, gN, gZ, fInG, mTold, L2.atI, L2.ixN, ft_state, ft_until, ft_since, ft_moves, ft_stands, ft_again, ft_is_slow, ft_agains, ft_opened, ft_now, c_STATES_OF_DOOR, ss_STATES_OF_DOOR]
  · have e := goto_ok h hn
    have gs : ∀ x, (M.set i x)[i]? = some x := fun _ => get_set h
    have tb := fun d' : Dr => back_eq (now := now) (d := d') (get_set (y := d'.ob) h)
    rw [if_neg hn]
    generalize d.go now = d' at e
    have tb := tb { d' with ag := d'.ag + 1 }
    obtain ⟨m, s, g, st, si, un, ag, sl, op, nw⟩ := d'
    by_cases hg : ag < g
    · cases st <;> simp only [Dr.ob, St4.s, Dr.way, hg] at e tb ⊢ <;> simp [g_Door_in_the_way, b_Door_in_the_way, hk, e, gs, tb, hg, List.set_set, mBody, mSeq, mIf, mBool, mOp2, mOp1, mFld, mVar, mC, okT, Res.bind, Res.st, mRet, mRetN, mSkip, mExp, mSet, mRaise, mIfE, mAnd, mOr, mNot, mOfB, mTru, tru, mAndV, mOrV, mChain, fEqP, deR, dp, teq_ss, teq_ii, teq_bb, teq_nn, teq_sn, teq_ns, teq_in, teq_ni, teq_bn, teq_nb, teq_si, teq_is, teq_sb, teq_bs, teq_ll, teq_tt, teq_ln, teq_tn, teqL_nn, teqL_cc, teqL_nc, teqL_cn, fAdd, fSub, fMul, fDiv, fMod, fPow, fNeg, fLt, fLe, fGt, fGe, fIs, fIsN, isNon, smallI, mTup, mLst, mLstR, mCons, mNil, mApp, mCall, mMeth, mMake, mSetFld, putFld, rdFld, mAugFld, fIAdd, Res.putTo, mSetSub, fPut, fIx, fTix, fstIx, fAbs, fMax2, fMin2, fInt, mBm, isDR, fUpd, dcOf, isRef, lsW, lsOf, dMerge, dPut, dHas, dGet, kEq, isKey, mDct, mPairs, okD, mDctR, mDctR0, mPar, stL, mAsg, gTp, gC, gN, gZ, fInG, mTold, L2.atI, L2.ixN, ft_state, ft_until, ft_since, ft_moves, ft_stands, ft_again, ft_is_slow, ft_agains, ft_opened, ft_now, c_STATES_OF_DOOR, ss_STATES_OF_DOOR]
    · cases sl <;> cases st <;> simp only [Dr.ob, St4.s, Dr.way, hg] at e ⊢ <;> simp [g_Door_in_the_way, b_Door_in_the_way, hk, e, gs, hg, List.set_set, mBody, mSeq, mIf, mBool, mOp2, mOp1, mFld, mVar, mC, okT, Res.bind, Res.st, mRet, mRetN, mSkip, mExp, mSet, mRaise, mIfE, mAnd, mOr, mNot, mOfB, mTru, tru, mAndV, mOrV, mChain, fEqP, deR, dp, teq_ss, teq_ii, teq_bb, teq_nn, teq_sn, teq_ns, teq_in, teq_ni, teq_bn, teq_nb, teq_si, teq_is, teq_sb, teq_bs, teq_ll, teq_tt, teq_ln, teq_tn, teqL_nn, teqL_cc, teqL_nc, teqL_cn, fAdd, fSub, fMul, fDiv, fMod, fPow, fNeg, fLt, fLe, fGt, fGe, fIs, fIsN, isNon, smallI, mTup, mLst, mLstR, mCons, mNil, mApp, mCall, mMeth, mMake, mSetFld, putFld, rdFld, mAugFld, fIAdd, Res.putTo, mSetSub, fPut, fIx, fTix, fstIx, fAbs, fMax2, fMin2, fInt, mBm, isDR, fUpd, dcOf, isRef, lsW, lsOf, dMerge, dPut, dHas, dGet, kEq, isKey, mDct, mPairs, okD, mDctR, mDctR0, mPar, stL, mAsg, gTp, gC, gN, gZ, fInG, mTold, L2.atI, L2.ixN, ft_state, ft_until, ft_since, ft_moves, ft_stands, ft_again, ft_is_slow, ft_agains, ft_opened, ft_now, c_STATES_OF_DOOR, ss_STATES_OF_DOOR]
theorem hold_eq {sec : Int} : g_Door_hold_open [.ref i, .int now, .int sec] M = if now < d.nw then .ex 1 M else if (d.go now).st = .op ∧ ¬ sec < 1 then .ok .non (M.set i ((d.go now).hold now sec).ob) else .ex 1 (M.set i (d.go now).ob) := by
  have hk : M[i]? = some (.ins 2 [.int d.m, .int d.s, .int d.g, .str d.st.s, .int d.si, .int d.un, .int d.ag, .bl d.sl, .int d.op, .int d.nw]) := h
  by_cases hn : now < d.nw
  · simp [g_Door_hold_open, b_Door_hold_open, hk, goto_eq h, hn, mBody, mSeq, mIf, mBool, mOp2, mOp1, mFld, mVar, mC, okT, Res.bind, Res.st, mRet, mRetN, mSkip, mExp, mSet, mRaise, mIfE, mAnd, mOr, mNot, mOfB, mTru, tru, mAndV, mOrV, mChain, fEqP, deR, dp, teq_ss, teq_ii, teq_bb, teq_nn, teq_sn, teq_ns, teq_in, teq_ni, teq_bn, teq_nb, teq_si, teq_is, teq_sb, teq_bs, teq_ll, teq_tt, teq_ln, teq_tn, teqL_nn, teqL_cc, teqL_nc, teqL_cn, fAdd, fSub, fMul, fDiv, fMod, fPow, fNeg, fLt, fLe, fGt, fGe, fIs, fIsN, isNon, smallI, mTup, mLst, mLstR, mCons, mNil, mApp, mCall, mMeth, mMake, mSetFld, putFld, rdFld, mAugFld, fIAdd, Res.putTo, mSetSub, fPut, fIx, fTix, fstIx, fAbs, fMax2, fMin2, fInt, mBm, isDR, fUpd, dcOf, isRef, lsW, lsOf, dMerge, dPut, dHas, dGet, kEq, isKey, mDct, mPairs, okD, mDctR, mDctR0, mPar, stL, mAsg, gTp, gC, gN, gZ, fInG, mTold, L2.atI, L2.ixN, ft_state, ft_until, ft_since, ft_moves, ft_stands, ft_again, ft_is_slow, ft_agains, ft_opened, ft_now, c_STATES_OF_DOOR, ss_STATES_OF_DOOR]
  · have e := goto_ok h hn
    have gs : ∀ x, (M.set i x)[i]? = some x := fun _ => get_set h
    rw [if_neg hn]
    generalize d.go now = d' at e
    obtain ⟨m, s, g, st, si, un, ag, sl, op, nw⟩ := d'
    by_cases hs : sec < 1
    · cases st <;> simp only [Dr.ob, St4.s, Dr.hold] at e ⊢ <;> simp [g_Door_hold_open, b_Door_hold_open, hk, e, gs, hs, List.set_set, mBody, mSeq, mIf, mBool, mOp2, mOp1, mFld, mVar, mC, okT, Res.bind, Res.st, mRet, mRetN, mSkip, mExp, mSet, mRaise, mIfE, mAnd, mOr, mNot, mOfB, mTru, tru, mAndV, mOrV, mChain, fEqP, deR, dp, teq_ss, teq_ii, teq_bb, teq_nn, teq_sn, teq_ns, teq_in, teq_ni, teq_bn, teq_nb, teq_si, teq_is, teq_sb, teq_bs, teq_ll, teq_tt, teq_ln, teq_tn, teqL_nn, teqL_cc, teqL_nc, teqL_cn, fAdd, fSub, fMul, fDiv, fMod, fPow, fNeg, fLt, fLe, fGt, fGe, fIs, fIsN, isNon, smallI, mTup, mLst, mLstR, mCons, mNil, mApp, mCall, mMeth, mMake, mSetFld, putFld, rdFld, mAugFld, fIAdd, Res.putTo, mSetSub, fPut, fIx, fTix, fstIx, fAbs, fMax2, fMin2, fInt, mBm, isDR, fUpd, dcOf, isRef, lsW, lsOf, dMerge, dPut, dHas, dGet, kEq, isKey, mDct, mPairs, okD, mDctR, mDctR0, mPar, stL, mAsg, gTp, gC, gN, gZ, fInG, mTold, L2.atI, L2.ixN, ft_state, ft_until, ft_since, ft_moves, ft_stands, ft_again, ft_is_slow, ft_agains, ft_opened, ft_now, c_STATES_OF_DOOR, ss_STATES_OF_DOOR]
    · cases st <;> simp only [Dr.ob, St4.s, Dr.hold] at e ⊢ <;> simp [g_Door_hold_open, b_Door_hold_open, hk, e, gs, hs, List.set_set, mBody, mSeq, mIf, mBool, mOp2, mOp1, mFld, mVar, mC, okT, Res.bind, Res.st, mRet, mRetN, mSkip, mExp, mSet, mRaise, mIfE, mAnd, mOr, mNot, mOfB, mTru, tru, mAndV, mOrV, mChain, fEqP, deR, dp, teq_ss, teq_ii, teq_bb, teq_nn, teq_sn, teq_ns, teq_in, teq_ni, teq_bn, teq_nb, teq_si, teq_is, teq_sb, teq_bs, teq_ll, teq_tt, teq_ln, teq_tn, teqL_nn, teqL_cc, teqL_nc, teqL_cn, fAdd, fSub, fMul, fDiv, fMod, fPow, fNeg, fLt, fLe, fGt, fGe, fIs, fIsN, isNon, smallI, mTup, mLst, mLstR, mCons, mNil, mApp, mCall, mMeth, mMake, mSetFld, putFld, rdFld, mAugFld, fIAdd, Res.putTo, mSetSub, fPut, fIx, fTix, fstIx, fAbs, fMax2, fMin2, fInt, mBm, isDR, fUpd, dcOf, isRef, lsW, lsOf, dMerge, dPut, dHas, dGet, kEq, isKey, mDct, mPairs, okD, mDctR, mDctR0, mPar, stL, mAsg, gTp, gC, gN, gZ, fInG, mTold, L2.atI, L2.ixN, ft_state, ft_until, ft_since, ft_moves, ft_stands, ft_again, ft_is_slow, ft_agains, ft_opened, ft_now, c_STATES_OF_DOOR, ss_STATES_OF_DOOR]
theorem close_eq : g_Door_close_it [.ref i, .int now] M = if now < d.nw then .ex 1 M else if (d.go now).st = .op then .ok .non (M.set i ((d.go now).cls now).ob) else .ex 1 (M.set i (d.go now).ob) := by
  have hk : M[i]? = some (.ins 2 [.int d.m, .int d.s, .int d.g, .str d.st.s, .int d.si, .int d.un, .int d.ag, .bl d.sl, .int d.op, .int d.nw]) := h
  by_cases hn : now < d.nw
  · simp [g_Door_close_it, b_Door_close_it, hk, goto_eq h, hn, mBody, mSeq, mIf, mBool, mOp2, mOp1, mFld, mVar, mC, okT, Res.bind, Res.st, mRet, mRetN, mSkip, mExp, mSet, mRaise, mIfE, mAnd, mOr, mNot, mOfB, mTru, tru, mAndV, mOrV, mChain, fEqP, deR, dp, teq_ss, teq_ii, teq_bb, teq_nn, teq_sn, teq_ns, teq_in, teq_ni, teq_bn, teq_nb, teq_si, teq_is, teq_sb, teq_bs, teq_ll, teq_tt, teq_ln, teq_tn, teqL_nn, teqL_cc, teqL_nc, teqL_cn, fAdd, fSub, fMul, fDiv, fMod, fPow, fNeg, fLt, fLe, fGt, fGe, fIs, fIsN, isNon, smallI, mTup, mLst, mLstR, mCons, mNil, mApp, mCall, mMeth, mMake, mSetFld, putFld, rdFld, mAugFld, fIAdd, Res.putTo, mSetSub, fPut, fIx, fTix, fstIx, fAbs, fMax2, fMin2, fInt, mBm, isDR, fUpd, dcOf, isRef, lsW, lsOf, dMerge, dPut, dHas, dGet, kEq, isKey, mDct, mPairs, okD, mDctR, mDctR0, mPar, stL, mAsg, gTp, gC, gN, gZ, fInG, mTold, L2.atI, L2.ixN, ft_state, ft_until, ft_since, ft_moves, ft_stands, ft_again, ft_is_slow, ft_agains, ft_opened, ft_now, c_STATES_OF_DOOR, ss_STATES_OF_DOOR]
  · have e := goto_ok h hn
    have gs : ∀ x, (M.set i x)[i]? = some x := fun _ => get_set h
    rw [if_neg hn]
    generalize d.go now = d' at e
    obtain ⟨m, s, g, st, si, un, ag, sl, op, nw⟩ := d'
    cases st <;> simp only [Dr.ob, St4.s, Dr.cls] at e ⊢ <;> simp [g_Door_close_it, b_Door_close_it, hk, e, gs, List.set_set, mBody, mSeq, mIf, mBool, mOp2, mOp1, mFld, mVar, mC, okT, Res.bind, Res.st, mRet, mRetN, mSkip, mExp, mSet, mRaise, mIfE, mAnd, mOr, mNot, mOfB, mTru, tru, mAndV, mOrV, mChain, fEqP, deR, dp, teq_ss, teq_ii, teq_bb, teq_nn, teq_sn, teq_ns, teq_in, teq_ni, teq_bn, teq_nb, teq_si, teq_is, teq_sb, teq_bs, teq_ll, teq_tt, teq_ln, teq_tn, teqL_nn, teqL_cc, teqL_nc, teqL_cn, fAdd, fSub, fMul, fDiv, fMod, fPow, fNeg, fLt, fLe, fGt, fGe, fIs, fIsN, isNon, smallI, mTup, mLst, mLstR, mCons, mNil, mApp, mCall, mMeth, mMake, mSetFld, putFld, rdFld, mAugFld, fIAdd, Res.putTo, mSetSub, fPut, fIx, fTix, fstIx, fAbs, fMax2, fMin2, fInt, mBm, isDR, fUpd, dcOf, isRef, lsW, lsOf, dMerge, dPut, dHas, dGet, kEq, isKey, mDct, mPairs, okD, mDctR, mDctR0, mPar, stL, mAsg, gTp, gC, gN, gZ, fInG, mTold, L2.atI, L2.ixN, ft_state, ft_until, ft_since, ft_moves, ft_stands, ft_again, ft_is_slow, ft_agains, ft_opened, ft_now, c_STATES_OF_DOOR, ss_STATES_OF_DOOR]
theorem may_eq (hn : ¬ now < d.nw) : g_Door_may_move [.ref i, .int now] M = .ok (.bl (decide ((d.go now).st = .cl))) (M.set i (d.go now).ob) := by
  have hk : M[i]? = some (.ins 2 [.int d.m, .int d.s, .int d.g, .str d.st.s, .int d.si, .int d.un, .int d.ag, .bl d.sl, .int d.op, .int d.nw]) := h
  have e := goto_ok h hn
  generalize d.go now = d' at e
  obtain ⟨m, s, g, st, si, un, ag, sl, op, nw⟩ := d'
  cases st <;> simp only [Dr.ob, St4.s] at e ⊢ <;> simp [g_Door_may_move, b_Door_may_move, hk, e, mBody, mSeq, mIf, mBool, mOp2, mOp1, mFld, mVar, mC, okT, Res.bind, Res.st, mRet, mRetN, mSkip, mExp, mSet, mRaise, mIfE, mAnd, mOr, mNot, mOfB, mTru, tru, mAndV, mOrV, mChain, fEqP, deR, dp, teq_ss, teq_ii, teq_bb, teq_nn, teq_sn, teq_ns, teq_in, teq_ni, teq_bn, teq_nb, teq_si, teq_is, teq_sb, teq_bs, teq_ll, teq_tt, teq_ln, teq_tn, teqL_nn, teqL_cc, teqL_nc, teqL_cn, fAdd, fSub, fMul, fDiv, fMod, fPow, fNeg, fLt, fLe, fGt, fGe, fIs, fIsN, isNon, smallI, mTup, mLst, mLstR, mCons, mNil, mApp, mCall, mMeth, mMake, mSetFld, putFld, rdFld, mAugFld, fIAdd, Res.putTo, mSetSub, fPut, fIx, fTix, fstIx, fAbs, fMax2, fMin2, fInt, mBm, isDR, fUpd, dcOf, isRef, lsW, lsOf, dMerge, dPut, dHas, dGet, kEq, isKey, mDct, mPairs, okD, mDctR, mDctR0, mPar, stL, mAsg, gTp, gC, gN, gZ, fInG, mTold, L2.atI, L2.ixN, ft_state, ft_until, ft_since, ft_moves, ft_stands, ft_again, ft_is_slow, ft_agains, ft_opened, ft_now, c_STATES_OF_DOOR, ss_STATES_OF_DOOR]
theorem how_eq (hn : ¬ now < d.nw) (hm : 1 ≤ (d.go now).m) (hm2 : (d.go now).m ≤ 1000) : g_Door_how_open [.ref i, .int now] M = .ok (.int ((d.go now).how now)) (M.set i (d.go now).ob) := by
  have hk : M[i]? = some (.ins 2 [.int d.m, .int d.s, .int d.g, .str d.st.s, .int d.si, .int d.un, .int d.ag, .bl d.sl, .int d.op, .int d.nw]) := h
  have e := goto_ok h hn
  have gs : ∀ x, (M.set i x)[i]? = some x := fun _ => get_set h
  generalize d.go now = d' at e hm hm2
  obtain ⟨m, s, g, st, si, un, ag, sl, op, nw⟩ := d'
  have h1 : m ≠ 0 := by dsimp only at hm; omega
  have h2 : m * 2 ≠ 0 := by omega
  have h3 : m.natAbs < 1073741824 := by dsimp only at hm hm2; omega
  have h4 : (m * 2).natAbs < 1073741824 := by dsimp only at hm hm2; omega
  cases st <;> cases sl <;> simp only [Dr.ob, St4.s, Dr.how] at e ⊢ <;> simp [g_Door_how_open, b_Door_how_open, hk, e, gs, h1, h2, h3, h4, mBody, mSeq, mIf, mBool, mOp2, mOp1, mFld, mVar, mC, okT, Res.bind, Res.st, mRet, mRetN, mSkip, mExp, mSet, mRaise, mIfE, mAnd, mOr, mNot, mOfB, mTru, tru, mAndV, mOrV, mChain, fEqP, deR, dp, teq_ss, teq_ii, teq_bb, teq_nn, teq_sn, teq_ns, teq_in, teq_ni, teq_bn, teq_nb, teq_si, teq_is, teq_sb, teq_bs, teq_ll, teq_tt, teq_ln, teq_tn, teqL_nn, teqL_cc, teqL_nc, teqL_cn, fAdd, fSub, fMul, fDiv, fMod, fPow, fNeg, fLt, fLe, fGt, fGe, fIs, fIsN, isNon, smallI, mTup, mLst, mLstR, mCons, mNil, mApp, mCall, mMeth, mMake, mSetFld, putFld, rdFld, mAugFld, fIAdd, Res.putTo, mSetSub, fPut, fIx, fTix, fstIx, fAbs, fMax2, fMin2, fInt, mBm, isDR, fUpd, dcOf, isRef, lsW, lsOf, dMerge, dPut, dHas, dGet, kEq, isKey, mDct, mPairs, okD, mDctR, mDctR0, mPar, stL, mAsg, gTp, gC, gN, gZ, fInG, mTold, L2.atI, L2.ixN, ft_state, ft_until, ft_since, ft_moves, ft_stands, ft_again, ft_is_slow, ft_agains, ft_opened, ft_now, c_STATES_OF_DOOR, ss_STATES_OF_DOOR]
theorem by_eq : g_Door_closed_by [.ref i] M = .ok (.int d.by_) M := by
  have hx := next_eq h
  obtain ⟨m, s, g, st, si, un, ag, sl, op, nw⟩ := d
  cases st <;> cases sl <;> simp only [Dr.ob, St4.s, Dr.nx, Dr.nxI] at h hx ⊢ <;> simp [g_Door_closed_by, b_Door_closed_by, h, hx, Dr.by_, Dr.nxI, mBody, mSeq, mIf, mBool, mOp2, mOp1, mFld, mVar, mC, okT, Res.bind, Res.st, mRet, mRetN, mSkip, mExp, mSet, mRaise, mIfE, mAnd, mOr, mNot, mOfB, mTru, tru, mAndV, mOrV, mChain, fEqP, deR, dp, teq_ss, teq_ii, teq_bb, teq_nn, teq_sn, teq_ns, teq_in, teq_ni, teq_bn, teq_nb, teq_si, teq_is, teq_sb, teq_bs, teq_ll, teq_tt, teq_ln, teq_tn, teqL_nn, teqL_cc, teqL_nc, teqL_cn, fAdd, fSub, fMul, fDiv, fMod, fPow, fNeg, fLt, fLe, fGt, fGe, fIs, fIsN, isNon, smallI, mTup, mLst, mLstR, mCons, mNil, mApp, mCall, mMeth, mMake, mSetFld, putFld, rdFld, mAugFld, fIAdd, Res.putTo, mSetSub, fPut, fIx, fTix, fstIx, fAbs, fMax2, fMin2, fInt, mBm, isDR, fUpd, dcOf, isRef, lsW, lsOf, dMerge, dPut, dHas, dGet, kEq, isKey, mDct, mPairs, okD, mDctR, mDctR0, mPar, stL, mAsg, gTp, gC, gN, gZ, fInG, mTold, L2.atI, L2.ixN, ft_state, ft_until, ft_since, ft_moves, ft_stands, ft_again, ft_is_slow, ft_agains, ft_opened, ft_now, c_STATES_OF_DOOR, ss_STATES_OF_DOOR]
end
end Mi
namespace Mi
open PySem PySem.Spec PyProof.Rows
/-! ### the dice -/
theorem roll_eq {M : Hs} {r : Nat} {a b c many : Int} (h : M[r]? = some (.lst [.int a, .int b, .int c])) (h0 : 0 < many) (h1 : many ≤ 100000000) :
    ∃ k a' b' c', 0 ≤ k ∧ k < many ∧ g_law_roll [.ref r, .int many] M = .ok (.int k) (M.set r (.lst [.int a', .int b', .int c'])) := by
  have gs : ∀ x, (M.set r x)[r]? = some x := fun _ => get_set h
  have n0 : many ≠ 0 := by omega
  have n1 : many.natAbs < 1073741824 := by omega
  have n2 : ¬ 100000000 < many := by omega
  have md : ∀ x : Int, 0 ≤ x.fmod many ∧ x.fmod many < many := fun x => ⟨Int.fmod_nonneg_of_pos x h0, Int.fmod_lt_of_pos x h0⟩
  by_cases c2 : c = 2
  · refine ⟨a.fmod many, a.fdiv many, b, c, (md _).1, (md _).2, ?_⟩
    simp [g_law_roll, g_law_roll_n, b_law_roll, h, c2, n0, n1, lsOf, lsW, mBody, mSeq, mIf, mBool, mOp2, mOp1, mFld, mVar, mC, okT, Res.bind, Res.st, mRet, mRetN, mSkip, mExp, mSet, mRaise, mIfE, mAnd, mOr, mNot, mOfB, mTru, tru, mAndV, mOrV, mChain, fEqP, deR, dp, teq_ss, teq_ii, teq_bb, teq_nn, teq_sn, teq_ns, teq_in, teq_ni, teq_bn, teq_nb, teq_si, teq_is, teq_sb, teq_bs, teq_ll, teq_tt, teq_ln, teq_tn, teqL_nn, teqL_cc, teqL_nc, teqL_cn, fAdd, fSub, fMul, fDiv, fMod, fPow, fNeg, fLt, fLe, fGt, fGe, fIs, fIsN, isNon, smallI, mTup, mLst, mLstR, mCons, mNil, mApp, mCall, mMeth, mMake, mSetFld, putFld, rdFld, mAugFld, fIAdd, Res.putTo, mSetSub, fPut, fIx, fTix, fstIx, fAbs, fMax2, fMin2, fInt, mBm, isDR, fUpd, dcOf, isRef, dMerge, dPut, dHas, dGet, kEq, isKey, mDct, mPairs, okD, mDctR, mDctR0, mPar, stL, mAsg, gTp, gC, gN, gZ, fInG, mTold, L2.atI, L2.ixN, ft_state, ft_until, ft_since, ft_moves, ft_stands, ft_again, ft_is_slow, ft_agains, ft_opened, ft_now, c_STATES_OF_DOOR, ss_STATES_OF_DOOR]
  · by_cases c1 : c = 1 ∧ 0 < a
    · refine ⟨a.fmod many, a.fdiv many, b, c, (md _).1, (md _).2, ?_⟩
      simp [g_law_roll, g_law_roll_n, b_law_roll, h, c1.1, c1.2, n0, n1, lsOf, lsW, mBody, mSeq, mIf, mBool, mOp2, mOp1, mFld, mVar, mC, okT, Res.bind, Res.st, mRet, mRetN, mSkip, mExp, mSet, mRaise, mIfE, mAnd, mOr, mNot, mOfB, mTru, tru, mAndV, mOrV, mChain, fEqP, deR, dp, teq_ss, teq_ii, teq_bb, teq_nn, teq_sn, teq_ns, teq_in, teq_ni, teq_bn, teq_nb, teq_si, teq_is, teq_sb, teq_bs, teq_ll, teq_tt, teq_ln, teq_tn, teqL_nn, teqL_cc, teqL_nc, teqL_cn, fAdd, fSub, fMul, fDiv, fMod, fPow, fNeg, fLt, fLe, fGt, fGe, fIs, fIsN, isNon, smallI, mTup, mLst, mLstR, mCons, mNil, mApp, mCall, mMeth, mMake, mSetFld, putFld, rdFld, mAugFld, fIAdd, Res.putTo, mSetSub, fPut, fIx, fTix, fstIx, fAbs, fMax2, fMin2, fInt, mBm, isDR, fUpd, dcOf, isRef, dMerge, dPut, dHas, dGet, kEq, isKey, mDct, mPairs, okD, mDctR, mDctR0, mPar, stL, mAsg, gTp, gC, gN, gZ, fInG, mTold, L2.atI, L2.ixN, ft_state, ft_until, ft_since, ft_moves, ft_stands, ft_again, ft_is_slow, ft_agains, ft_opened, ft_now, c_STATES_OF_DOOR, ss_STATES_OF_DOOR]
    · refine ⟨((a * 48271 + b * 69621 + 11).fmod 2147483647).fdiv 7 |>.fmod many, (a * 48271 + b * 69621 + 11).fmod 2147483647, b + 1, 0, (md _).1, (md _).2, ?_⟩
      by_cases c3 : c = 1
      · have c4 : ¬ 0 < a := fun z => c1 ⟨c3, z⟩
        simp [g_law_roll, g_law_roll_n, b_law_roll, h, gs, c3, c4, n0, n1, n2, lsOf, lsW, List.set_set, mBody, mSeq, mIf, mBool, mOp2, mOp1, mFld, mVar, mC, okT, Res.bind, Res.st, mRet, mRetN, mSkip, mExp, mSet, mRaise, mIfE, mAnd, mOr, mNot, mOfB, mTru, tru, mAndV, mOrV, mChain, fEqP, deR, dp, teq_ss, teq_ii, teq_bb, teq_nn, teq_sn, teq_ns, teq_in, teq_ni, teq_bn, teq_nb, teq_si, teq_is, teq_sb, teq_bs, teq_ll, teq_tt, teq_ln, teq_tn, teqL_nn, teqL_cc, teqL_nc, teqL_cn, fAdd, fSub, fMul, fDiv, fMod, fPow, fNeg, fLt, fLe, fGt, fGe, fIs, fIsN, isNon, smallI, mTup, mLst, mLstR, mCons, mNil, mApp, mCall, mMeth, mMake, mSetFld, putFld, rdFld, mAugFld, fIAdd, Res.putTo, mSetSub, fPut, fIx, fTix, fstIx, fAbs, fMax2, fMin2, fInt, mBm, isDR, fUpd, dcOf, isRef, dMerge, dPut, dHas, dGet, kEq, isKey, mDct, mPairs, okD, mDctR, mDctR0, mPar, stL, mAsg, gTp, gC, gN, gZ, fInG, mTold, L2.atI, L2.ixN, ft_state, ft_until, ft_since, ft_moves, ft_stands, ft_again, ft_is_slow, ft_agains, ft_opened, ft_now, c_STATES_OF_DOOR, ss_STATES_OF_DOOR]
      · simp [g_law_roll, g_law_roll_n, b_law_roll, h, gs, c2, c3, n0, n1, n2, lsOf, lsW, List.set_set, mBody, mSeq, mIf, mBool, mOp2, mOp1, mFld, mVar, mC, okT, Res.bind, Res.st, mRet, mRetN, mSkip, mExp, mSet, mRaise, mIfE, mAnd, mOr, mNot, mOfB, mTru, tru, mAndV, mOrV, mChain, fEqP, deR, dp, teq_ss, teq_ii, teq_bb, teq_nn, teq_sn, teq_ns, teq_in, teq_ni, teq_bn, teq_nb, teq_si, teq_is, teq_sb, teq_bs, teq_ll, teq_tt, teq_ln, teq_tn, teqL_nn, teqL_cc, teqL_nc, teqL_cn, fAdd, fSub, fMul, fDiv, fMod, fPow, fNeg, fLt, fLe, fGt, fGe, fIs, fIsN, isNon, smallI, mTup, mLst, mLstR, mCons, mNil, mApp, mCall, mMeth, mMake, mSetFld, putFld, rdFld, mAugFld, fIAdd, Res.putTo, mSetSub, fPut, fIx, fTix, fstIx, fAbs, fMax2, fMin2, fInt, mBm, isDR, fUpd, dcOf, isRef, dMerge, dPut, dHas, dGet, kEq, isKey, mDct, mPairs, okD, mDctR, mDctR0, mPar, stL, mAsg, gTp, gC, gN, gZ, fInG, mTold, L2.atI, L2.ixN, ft_state, ft_until, ft_since, ft_moves, ft_stands, ft_again, ft_is_slow, ft_agains, ft_opened, ft_now, c_STATES_OF_DOOR, ss_STATES_OF_DOOR]
end Mi
namespace Mi
open PySem PySem.Spec PyProof.Rows
/-! ### the law's own account -/
def Dr.kv (d : Dr) : List (T × T) := [(.str [109, 111, 118, 101, 115], .int d.m), (.str [115, 116, 97, 110, 100, 115], .int d.s), (.str [97, 103, 97, 105, 110], .int d.g), (.str [115, 116, 97, 116, 101], .str d.st.s), (.str [115, 105, 110, 99, 101], .int d.si),
  (.str [117, 110, 116, 105, 108], .int d.un), (.str [97, 103, 97, 105, 110, 115], .int d.ag), (.str [115, 108, 111, 119], .bl d.sl), (.str [111, 112, 101, 110, 101, 100], .int d.op), (.str [110, 111, 119], .int d.nw)]
def Dr.longT (d : Dr) : T := match d.st with
  | .cl => .non
  | .op => .int (d.un - d.si)
  | .og => .int (d.m * 1)
  | .cg => .int (d.m * (if d.sl then 2 else 1))
section
variable {M : Hs} {o : Nat} {d : Dr} {now : Int} (h : M[o]? = some (.dct d.kv))
include h
theorem long_eq : g_law_long [.ref o] M = .ok d.longT M := by
  obtain ⟨m, s, g, st, si, un, ag, sl, op, nw⟩ := d
  cases st <;> cases sl <;> simp [g_law_long, b_law_long, h, Dr.kv, Dr.longT, St4.s, mBody, mSeq, mIf, mBool, mOp2, mOp1, mFld, mVar, mC, okT, Res.bind, Res.st, mRet, mRetN, mSkip, mExp, mSet, mRaise, mIfE, mAnd, mOr, mNot, mOfB, mTru, tru, mAndV, mOrV, mChain, fEqP, deR, dp, teq_ss, teq_ii, teq_bb, teq_nn, teq_sn, teq_ns, teq_in, teq_ni, teq_bn, teq_nb, teq_si, teq_is, teq_sb, teq_bs, teq_ll, teq_tt, teq_ln, teq_tn, teqL_nn, teqL_cc, teqL_nc, teqL_cn, fAdd, fSub, fMul, fDiv, fMod, fPow, fNeg, fLt, fLe, fGt, fGe, fIs, fIsN, isNon, smallI, mTup, mLst, mLstR, mCons, mNil, mApp, mCall, mMeth, mMake, mSetFld, putFld, rdFld, mAugFld, fIAdd, Res.putTo, mSetSub, fPut, fIx, fTix, fstIx, fAbs, fMax2, fMin2, fInt, mBm, isDR, fUpd, dcOf, isRef, dMerge, dPut, dHas, dGet, kEq, isKey, mDct, mPairs, okD, mDctR, mDctR0, mPar, stL, mAsg, gTp, gC, gN, gZ, fInG, mTold, L2.atI, L2.ixN, ft_state, ft_until, ft_since, ft_moves, ft_stands, ft_again, ft_is_slow, ft_agains, ft_opened, ft_now, c_STATES_OF_DOOR, ss_STATES_OF_DOOR]
theorem lback_eq : g_law_back [.ref o, .int now] M = .ok .non (M.set o (.dct (d.back now).kv)) := by
  obtain ⟨m, s, g, st, si, un, ag, sl, op, nw⟩ := d
  have e1 : now - m + -((-(now - si)).fdiv 2) = now - (m - (now - si + 1).fdiv 2) := by
    rw [Int.fdiv_eq_ediv_of_nonneg _ (by decide), Int.fdiv_eq_ediv_of_nonneg _ (by decide)]
    omega
  have e2 : now - m + (now - si) = now - (m - (now - si)) := by omega
  cases sl <;> simp [g_law_back, b_law_back, h, Dr.kv, Dr.back, St4.s, e1, e2, mBody, mSeq, mIf, mBool, mOp2, mOp1, mFld, mVar, mC, okT, Res.bind, Res.st, mRet, mRetN, mSkip, mExp, mSet, mRaise, mIfE, mAnd, mOr, mNot, mOfB, mTru, tru, mAndV, mOrV, mChain, fEqP, deR, dp, teq_ss, teq_ii, teq_bb, teq_nn, teq_sn, teq_ns, teq_in, teq_ni, teq_bn, teq_nb, teq_si, teq_is, teq_sb, teq_bs, teq_ll, teq_tt, teq_ln, teq_tn, teqL_nn, teqL_cc, teqL_nc, teqL_cn, fAdd, fSub, fMul, fDiv, fMod, fPow, fNeg, fLt, fLe, fGt, fGe, fIs, fIsN, isNon, smallI, mTup, mLst, mLstR, mCons, mNil, mApp, mCall, mMeth, mMake, mSetFld, putFld, rdFld, mAugFld, fIAdd, Res.putTo, mSetSub, fPut, fIx, fTix, fstIx, fAbs, fMax2, fMin2, fInt, mBm, isDR, fUpd, dcOf, isRef, dMerge, dPut, dHas, dGet, kEq, isKey, mDct, mPairs, okD, mDctR, mDctR0, mPar, stL, mAsg, gTp, gC, gN, gZ, fInG, mTold, L2.atI, L2.ixN, ft_state, ft_until, ft_since, ft_moves, ft_stands, ft_again, ft_is_slow, ft_agains, ft_opened, ft_now, c_STATES_OF_DOOR, ss_STATES_OF_DOOR]
end
def ownCond : TM := mAnd (mBool (mOp2 (fEqP true) (mOp2 fIx (mVar 0) (mC (.str [115, 116, 97, 116, 101]))) (mC (.str [99, 108, 111, 115, 101, 100])))) (mBool (mOp2 (fLe) (mOp2 fAdd (mOp2 fIx (mVar 0) (mC (.str [115, 105, 110, 99, 101]))) (mCall g_law_long (mCons (mVar 0) (mNil)))) (mVar 1)))
def ownBody : SM := mSeq (mSet 2 (mOp2 fAdd (mOp2 fIx (mVar 0) (mC (.str [115, 105, 110, 99, 101]))) (mCall g_law_long (mCons (mVar 0) (mNil))))) (mSeq (mSet 3 (mOp2 fIx (mDct [(mC (.str [111, 112, 101, 110, 105, 110, 103]), mC (.str [111, 112, 101, 110])), (mC (.str [111, 112, 101, 110]), mC (.str [99, 108, 111, 115, 105, 110, 103])), (mC (.str [99, 108, 111, 115, 105, 110, 103]), mC (.str [99, 108, 111, 115, 101, 100]))]) (mOp2 fIx (mVar 0) (mC (.str [115, 116, 97, 116, 101]))))) (mSeq (mExp (mBm isDR fUpd (mVar 0) (mCons (mDct [(mC (.str [115, 116, 97, 116, 101]), mVar 3), (mC (.str [115, 105, 110, 99, 101]), mVar 2)]) (mNil)))) (mSeq (mExp (mBm isDR fUpd (mVar 0) (mCons (mIfE (mBool (mOp2 (fEqP false) (mVar 3) (mC (.str [111, 112, 101, 110])))) (mDct [(mC (.str [117, 110, 116, 105, 108]), mOp2 fAdd (mVar 2) (mOp2 fIx (mVar 0) (mC (.str [115, 116, 97, 110, 100, 115]))))]) (mC (.dct []))) (mNil)))) (mExp (mBm isDR fUpd (mVar 0) (mCons (mIfE (mBool (mOp2 (fEqP false) (mVar 3) (mC (.str [99, 108, 111, 115, 101, 100])))) (mDct [(mC (.str [97, 103, 97, 105, 110, 115]), mC (.int 0)), (mC (.str [115, 108, 111, 119]), mC (.bl false))]) (mC (.dct []))) (mNil)))))))
theorem b_go_eq : b_law_go = mSeq (mWhile 1000000 ownCond ownBody) (mSetSub (mVar 0) (mC (.str [110, 111, 119])) (mVar 1)) := rfl
theorem ownCond_eq {M : Hs} {o : Nat} {d : Dr} {now : Int} {b f : T} (h : M[o]? = some (.dct d.kv)) : ownCond [.ref o, .int now, b, f] M = .ok (d.due now) M := by
  have hl := long_eq h
  obtain ⟨m, s, g, st, si, un, ag, sl, op, nw⟩ := d
  have e : si + (un - si) = un := by omega
  cases st <;> cases sl <;> simp only [Dr.kv, Dr.longT, St4.s, Dr.due, Dr.nxI] at h hl ⊢ <;> simp [ownCond, h, hl, e, mBody, mSeq, mIf, mBool, mOp2, mOp1, mFld, mVar, mC, okT, Res.bind, Res.st, mRet, mRetN, mSkip, mExp, mSet, mRaise, mIfE, mAnd, mOr, mNot, mOfB, mTru, tru, mAndV, mOrV, mChain, fEqP, deR, dp, teq_ss, teq_ii, teq_bb, teq_nn, teq_sn, teq_ns, teq_in, teq_ni, teq_bn, teq_nb, teq_si, teq_is, teq_sb, teq_bs, teq_ll, teq_tt, teq_ln, teq_tn, teqL_nn, teqL_cc, teqL_nc, teqL_cn, fAdd, fSub, fMul, fDiv, fMod, fPow, fNeg, fLt, fLe, fGt, fGe, fIs, fIsN, isNon, smallI, mTup, mLst, mLstR, mCons, mNil, mApp, mCall, mMeth, mMake, mSetFld, putFld, rdFld, mAugFld, fIAdd, Res.putTo, mSetSub, fPut, fIx, fTix, fstIx, fAbs, fMax2, fMin2, fInt, mBm, isDR, fUpd, dcOf, isRef, dMerge, dPut, dHas, dGet, kEq, isKey, mDct, mPairs, okD, mDctR, mDctR0, mPar, stL, mAsg, gTp, gC, gN, gZ, fInG, mTold, L2.atI, L2.ixN, ft_state, ft_until, ft_since, ft_moves, ft_stands, ft_again, ft_is_slow, ft_agains, ft_opened, ft_now, c_STATES_OF_DOOR, ss_STATES_OF_DOOR] <;> exact decide_eq_decide.mpr Iff.rfl
theorem ownBody_eq {M : Hs} {o : Nat} {d : Dr} {now : Int} {b f : T} (h : M[o]? = some (.dct d.kv)) (hd : d.due now = true) : ∃ b' f', ownBody [.ref o, .int now, b, f] M = .nx [.ref o, .int now, b', f'] (M.set o (.dct (d.chg d.nxI).kv)) := by
  have hl := long_eq h
  have gs : ∀ x, (M.set o x)[o]? = some x := fun _ => get_set h
  refine ⟨.int d.nxI, .str (d.chg d.nxI).st.s, ?_⟩
  obtain ⟨m, s, g, st, si, un, ag, sl, op, nw⟩ := d
  have e : si + (un - si) = un := by omega
  cases st <;> cases sl <;> simp only [Dr.kv, Dr.longT, St4.s, Dr.nxI, Dr.chg] at h hl ⊢ <;> first | (simp [Dr.due] at hd; done) | simp [ownBody, h, hl, e, gs, List.set_set, mBody, mSeq, mIf, mBool, mOp2, mOp1, mFld, mVar, mC, okT, Res.bind, Res.st, mRet, mRetN, mSkip, mExp, mSet, mRaise, mIfE, mAnd, mOr, mNot, mOfB, mTru, tru, mAndV, mOrV, mChain, fEqP, deR, dp, teq_ss, teq_ii, teq_bb, teq_nn, teq_sn, teq_ns, teq_in, teq_ni, teq_bn, teq_nb, teq_si, teq_is, teq_sb, teq_bs, teq_ll, teq_tt, teq_ln, teq_tn, teqL_nn, teqL_cc, teqL_nc, teqL_cn, fAdd, fSub, fMul, fDiv, fMod, fPow, fNeg, fLt, fLe, fGt, fGe, fIs, fIsN, isNon, smallI, mTup, mLst, mLstR, mCons, mNil, mApp, mCall, mMeth, mMake, mSetFld, putFld, rdFld, mAugFld, fIAdd, Res.putTo, mSetSub, fPut, fIx, fTix, fstIx, fAbs, fMax2, fMin2, fInt, mBm, isDR, fUpd, dcOf, isRef, dMerge, dPut, dHas, dGet, kEq, isKey, mDct, mPairs, okD, mDctR, mDctR0, mPar, stL, mAsg, gTp, gC, gN, gZ, fInG, mTold, L2.atI, L2.ixN, ft_state, ft_until, ft_since, ft_moves, ft_stands, ft_again, ft_is_slow, ft_agains, ft_opened, ft_now, c_STATES_OF_DOOR, ss_STATES_OF_DOOR]
theorem own_loop {o : Nat} {now : Int} : ∀ (n : Nat) (M : Hs) (d d' : Dr) (b f : T), M[o]? = some (.dct d.kv) → d.loop now n = some d' → ∃ b' f', whileF ownCond ownBody n [.ref o, .int now, b, f] M = .nx [.ref o, .int now, b', f'] (M.set o (.dct d'.kv))
  | 0, M, d, d', b, f, h, e => by cases e
  | n + 1, M, d, d', b, f, h, e => by
    unfold Dr.loop at e
    by_cases hd : d.due now = true
    · rw [if_pos hd] at e
      obtain ⟨b1, f1, h1⟩ := ownBody_eq (b := b) (f := f) h hd
      obtain ⟨b2, f2, h2⟩ := own_loop n (M.set o (.dct (d.chg d.nxI).kv)) (d.chg d.nxI) d' b1 f1 (get_set h) e
      refine ⟨b2, f2, ?_⟩
      unfold whileF
      simp [ownCond_eq h, hd, h1, h2, Res.st]
    · rw [if_neg hd] at e
      cases e
      refine ⟨b, f, ?_⟩
      rw [set_same h]
      unfold whileF
      simp [ownCond_eq h, hd, Res.st]
theorem lgo_eq {M : Hs} {o : Nat} {d : Dr} {now : Int} (h : M[o]? = some (.dct d.kv)) : g_law_go [.ref o, .int now] M = .ok .non (M.set o (.dct (d.go now).kv)) := by
  obtain ⟨b, f, w⟩ := own_loop 1000000 M d _ .un .un h (go_loop d now 999996)
  have gs : ∀ x, (M.set o x)[o]? = some x := fun _ => get_set h
  have e : d.go now = { ((d.loop now 4).getD d) with nw := now } := rfl
  rw [e]
  generalize (d.loop now 4).getD d = d' at w
  have w2 : mWhile 1000000 ownCond ownBody [.ref o, .int now, .un, .un] M = _ := w
  have hl : 10 < lineN := by decide
  obtain ⟨m, s, g, st, si, un, ag, sl, op, nw⟩ := d'
  unfold g_law_go
  rw [b_go_eq]
  simp only [Dr.kv] at w2 ⊢
  simp [w2, gs, hl, List.set_set, mBody, mSeq, mIf, mBool, mOp2, mOp1, mFld, mVar, mC, okT, Res.bind, Res.st, mRet, mRetN, mSkip, mExp, mSet, mRaise, mIfE, mAnd, mOr, mNot, mOfB, mTru, tru, mAndV, mOrV, mChain, fEqP, deR, dp, teq_ss, teq_ii, teq_bb, teq_nn, teq_sn, teq_ns, teq_in, teq_ni, teq_bn, teq_nb, teq_si, teq_is, teq_sb, teq_bs, teq_ll, teq_tt, teq_ln, teq_tn, teqL_nn, teqL_cc, teqL_nc, teqL_cn, fAdd, fSub, fMul, fDiv, fMod, fPow, fNeg, fLt, fLe, fGt, fGe, fIs, fIsN, isNon, smallI, mTup, mLst, mLstR, mCons, mNil, mApp, mCall, mMeth, mMake, mSetFld, putFld, rdFld, mAugFld, fIAdd, Res.putTo, mSetSub, fPut, fIx, fTix, fstIx, fAbs, fMax2, fMin2, fInt, mBm, isDR, fUpd, dcOf, isRef, dMerge, dPut, dHas, dGet, kEq, isKey, mDct, mPairs, okD, mDctR, mDctR0, mPar, stL, mAsg, gTp, gC, gN, gZ, fInG, mTold, L2.atI, L2.ixN, ft_state, ft_until, ft_since, ft_moves, ft_stands, ft_again, ft_is_slow, ft_agains, ft_opened, ft_now, c_STATES_OF_DOOR, ss_STATES_OF_DOOR]
end Mi
namespace Mi
open PySem PySem.Spec PyProof.Rows
theorem roll_c (X : Hs) (a b c : Int) {many : Int} (h0 : 0 < many) (h1 : many ≤ 100000000) : ∃ k a' b' c', 0 ≤ k ∧ k < many ∧ g_law_roll [.ref 0, .int many] (.lst [.int a, .int b, .int c] :: X) = .ok (.int k) (.lst [.int a', .int b', .int c'] :: X) :=
  roll_eq (M := .lst [.int a, .int b, .int c] :: X) (r := 0) rfl h0 h1
theorem kv_m (d : Dr) : dGet d.kv (.str [109, 111, 118, 101, 115]) = some (.int d.m) := rfl
theorem kv_s (d : Dr) : dGet d.kv (.str [115, 116, 97, 110, 100, 115]) = some (.int d.s) := rfl
theorem kv_g (d : Dr) : dGet d.kv (.str [97, 103, 97, 105, 110]) = some (.int d.g) := rfl
theorem kv_st (d : Dr) : dGet d.kv (.str [115, 116, 97, 116, 101]) = some (.str d.st.s) := rfl
theorem kv_si (d : Dr) : dGet d.kv (.str [115, 105, 110, 99, 101]) = some (.int d.si) := rfl
theorem kv_un (d : Dr) : dGet d.kv (.str [117, 110, 116, 105, 108]) = some (.int d.un) := rfl
theorem kv_ag (d : Dr) : dGet d.kv (.str [97, 103, 97, 105, 110, 115]) = some (.int d.ag) := rfl
theorem kv_sl (d : Dr) : dGet d.kv (.str [115, 108, 111, 119]) = some (.bl d.sl) := rfl
theorem kv_op (d : Dr) : dGet d.kv (.str [111, 112, 101, 110, 101, 100]) = some (.int d.op) := rfl
theorem kv_nw (d : Dr) : dGet d.kv (.str [110, 111, 119]) = some (.int d.nw) := rfl
theorem kv_len (d : Dr) : d.kv.length = 10 := rfl
theorem kp_un (d : Dr) (x : Int) : dPut d.kv (.str [117, 110, 116, 105, 108]) (.int x) = ({ d with un := x } : Dr).kv := rfl
theorem kp_ag (d : Dr) (x : Int) : dPut d.kv (.str [97, 103, 97, 105, 110, 115]) (.int x) = ({ d with ag := x } : Dr).kv := rfl
theorem ku_nil (d : Dr) : dMerge d.kv [] = d.kv := rfl
theorem ku_un (d : Dr) (x : Int) : dMerge d.kv (dMerge [] [(.str [117, 110, 116, 105, 108], .int x)]) = ({ d with un := x } : Dr).kv := rfl
theorem ku_cl (d : Dr) (x : Int) : dMerge d.kv (dMerge [] [(.str [115, 116, 97, 116, 101], .str [99, 108, 111, 115, 105, 110, 103]), (.str [115, 105, 110, 99, 101], .int x)]) = (d.cls x).kv := rfl
theorem ku_op (d : Dr) (x y : Int) : dMerge d.kv (dMerge [] [(.str [115, 116, 97, 116, 101], .str [111, 112, 101, 110, 105, 110, 103]), (.str [115, 105, 110, 99, 101], .int x), (.str [111, 112, 101, 110, 101, 100], .int y)]) = ({ d with st := .og, si := x, op := y } : Dr).kv := rfl
theorem ku_sl (d : Dr) (x : Int) : dMerge d.kv (dMerge [] [(.str [115, 105, 110, 99, 101], .int x), (.str [115, 108, 111, 119], .bl true)]) = ({ d with si := x, sl := true } : Dr).kv := rfl
theorem kl_un (x : T) : (dMerge [] [(.str [117, 110, 116, 105, 108], x)]).length = 1 := rfl
theorem kl_cl (x y : T) : (dMerge [] [(.str [115, 116, 97, 116, 101], x), (.str [115, 105, 110, 99, 101], y)]).length = 2 := rfl
theorem kl_op (x y z : T) : (dMerge [] [(.str [115, 116, 97, 116, 101], x), (.str [115, 105, 110, 99, 101], y), (.str [111, 112, 101, 110, 101, 100], z)]).length = 3 := rfl
theorem kl_sl (x y : T) : (dMerge [] [(.str [115, 105, 110, 99, 101], x), (.str [115, 108, 111, 119], y)]).length = 2 := rfl
theorem isR_ob (d : Dr) : ∀ c fs, d.ob = .ins c fs → c = 2 := fun c fs h => by cases h; rfl
theorem st_s (s t : St4) : (s.s = t.s) = (s = t) := by cases s <;> cases t <;> simp [St4.s]
theorem chg_ms (d : Dr) (t : Int) : (d.chg t).m = d.m ∧ (d.chg t).s = d.s := by
  unfold Dr.chg
  split <;> exact ⟨rfl, rfl⟩
theorem loop_ms {now : Int} : ∀ (n : Nat) (d d' : Dr), d.loop now n = some d' → d'.m = d.m ∧ d'.s = d.s
  | 0, d, d', e => by cases e
  | n + 1, d, d', e => by
    unfold Dr.loop at e
    split at e
    · have := loop_ms n _ _ e
      rw [this.1, this.2]
      exact chg_ms _ _
    · cases e; exact ⟨rfl, rfl⟩
theorem go_ms (d : Dr) (now : Int) : (d.go now).m = d.m ∧ (d.go now).s = d.s := loop_ms (4 + 0) d ((d.loop now 4).getD d) (go_loop d now 0)
theorem go_nw (d : Dr) (now : Int) : (d.go now).nw = now := rfl
theorem back_ms (d : Dr) (now : Int) : (d.back now).m = d.m ∧ (d.back now).s = d.s ∧ (d.back now).nw = d.nw := ⟨rfl, rfl, rfl⟩
/-- what the deed leaves -/
def Good (r : Res T) (rest : Hs) (d : Dr) : Prop := ∃ a b c d', r = .ok (.bl true) (.lst [.int a, .int b, .int c] :: Dr.ob d' :: .dct (Dr.kv d') :: rest) ∧ d'.m = d.m ∧ d'.s = d.s ∧ d.nw ≤ d'.nw
section
variable {a b c : Int} {d : Dr} {rest : Hs} {k1 k2 k3 a1 b1 c1 a2 b2' c2 a3 b3 c3 now : Int}
    (e1 : g_law_roll [.ref 0, .int 12] (.lst [.int a, .int b, .int c] :: d.ob :: .dct d.kv :: rest) = .ok (.int k1) (.lst [.int a1, .int b1, .int c1] :: d.ob :: .dct d.kv :: rest))
    (e2 : g_law_roll [.ref 0, .int 4] (.lst [.int a1, .int b1, .int c1] :: d.ob :: .dct d.kv :: rest) = .ok (.int k2) (.lst [.int a2, .int b2', .int c2] :: d.ob :: .dct d.kv :: rest))
    (e3 : g_law_roll [.ref 0, .int 16] (.lst [.int a2, .int b2', .int c2] :: d.ob :: .dct d.kv :: rest) = .ok (.int k3) (.lst [.int a3, .int b3, .int c3] :: d.ob :: .dct d.kv :: rest))
    (hnow : d.nw + k2 - 4 * b2 (decide (k3 = 0)) = now)
include e1 e2 e3 hnow
theorem deed_late (hn : now < d.nw) : Good (g_law_deed [.ref 0, .ref 1, .ref 2] (.lst [.int a, .int b, .int c] :: d.ob :: .dct d.kv :: rest)) rest d := by
  refine ⟨a3, b3, c3, d, ?_, rfl, rfl, Int.le_refl _⟩
  have g1 := goto_eq (M := .lst [.int a3, .int b3, .int c3] :: d.ob :: .dct d.kv :: rest) (i := 1) (d := d) (now := now) rfl
  have g2 := open_eq (M := .lst [.int a3, .int b3, .int c3] :: d.ob :: .dct d.kv :: rest) (i := 1) (d := d) (now := now) (at_ := true) rfl
  have g3 := close_eq (M := .lst [.int a3, .int b3, .int c3] :: d.ob :: .dct d.kv :: rest) (i := 1) (d := d) (now := now) rfl
  rw [if_pos hn] at g1 g2 g3
  obtain ⟨fs, ob⟩ : ∃ fs, d.ob = .ins 2 fs := ⟨_, rfl⟩
  have hl : 3 ≤ lineN := by decide
  rw [ob] at e1 e2 e3 g1 g2 g3 ⊢
  simp [g_law_deed, b_law_deed, e1, e2, e3, kv_nw, hnow, g1, g2, g3, hn, hl, List.replicate, mBody, mSeq, mIf, mBool, mOp2, mOp1, mFld, mVar, mC, okT, Res.bind, Res.st, mRet, mRetN, mSkip, mExp, mSet, mRaise, mIfE, mAnd, mOr, mNot, mOfB, mTru, tru, mAndV, mOrV, mChain, fEqP, deR, dp, teq_ss, teq_ii, teq_bb, teq_nn, teq_sn, teq_ns, teq_in, teq_ni, teq_bn, teq_nb, teq_si, teq_is, teq_sb, teq_bs, teq_ll, teq_tt, teq_ln, teq_tn, teqL_nn, teqL_cc, teqL_nc, teqL_cn, fAdd, fSub, fMul, fDiv, fMod, fPow, fNeg, fLt, fLe, fGt, fGe, fIs, fIsN, isNon, smallI, mTup, mLst, mLstR, mCons, mNil, mApp, mCall, mMeth, mMake, mSetFld, putFld, rdFld, mAugFld, fIAdd, Res.putTo, mSetSub, fPut, fIx, fTix, fstIx, fAbs, fMax2, fMin2, fInt, mBm, isDR, fUpd, dcOf, isRef, lsW, lsOf, kEq, isKey, mDct, mPairs, okD, mDctR, mDctR0, mPar, stL, mAsg, gTp, gC, gN, gZ, fInG, mTold, L2.atI, L2.ixN, ft_state, ft_until, ft_since, ft_moves, ft_stands, ft_again, ft_is_slow, ft_agains, ft_opened, ft_now, c_STATES_OF_DOOR, ss_STATES_OF_DOOR]
theorem deed_go (hn : ¬ now < d.nw) (hs : k1 < 3) : Good (g_law_deed [.ref 0, .ref 1, .ref 2] (.lst [.int a, .int b, .int c] :: d.ob :: .dct d.kv :: rest)) rest d := by
  have lg : g_law_go [.ref 2, .int now] (.lst [.int a3, .int b3, .int c3] :: d.ob :: .dct d.kv :: rest) = .ok .non (.lst [.int a3, .int b3, .int c3] :: d.ob :: .dct (d.go now).kv :: rest) := lgo_eq (o := 2) rfl
  have gt : g_Door_go_to [.ref 1, .int now] (.lst [.int a3, .int b3, .int c3] :: d.ob :: .dct (d.go now).kv :: rest) = .ok (.str (d.go now).st.s) (.lst [.int a3, .int b3, .int c3] :: (d.go now).ob :: .dct (d.go now).kv :: rest) := goto_ok (i := 1) rfl hn
  refine ⟨a3, b3, c3, d.go now, ?_, (go_ms _ _).1, (go_ms _ _).2, by rw [go_nw]; omega⟩
  generalize d.go now = D at lg gt
  obtain ⟨fs, ob⟩ : ∃ fs, d.ob = .ins 2 fs := ⟨_, rfl⟩
  rw [ob] at e1 e2 e3 gt lg ⊢
  simp [g_law_deed, b_law_deed, e1, e2, e3, kv_nw, kv_st, hnow, lg, gt, hn, hs, mBody, mSeq, mIf, mBool, mOp2, mOp1, mFld, mVar, mC, okT, Res.bind, Res.st, mRet, mRetN, mSkip, mExp, mSet, mRaise, mIfE, mAnd, mOr, mNot, mOfB, mTru, tru, mAndV, mOrV, mChain, fEqP, deR, dp, teq_ss, teq_ii, teq_bb, teq_nn, teq_sn, teq_ns, teq_in, teq_ni, teq_bn, teq_nb, teq_si, teq_is, teq_sb, teq_bs, teq_ll, teq_tt, teq_ln, teq_tn, teqL_nn, teqL_cc, teqL_nc, teqL_cn, fAdd, fSub, fMul, fDiv, fMod, fPow, fNeg, fLt, fLe, fGt, fGe, fIs, fIsN, isNon, smallI, mTup, mLst, mLstR, mCons, mNil, mApp, mCall, mMeth, mMake, mSetFld, putFld, rdFld, mAugFld, fIAdd, Res.putTo, mSetSub, fPut, fIx, fTix, fstIx, fAbs, fMax2, fMin2, fInt, mBm, isDR, fUpd, dcOf, isRef, lsW, lsOf, kEq, isKey, mDct, mPairs, okD, mDctR, mDctR0, mPar, stL, mAsg, gTp, gC, gN, gZ, fInG, mTold, L2.atI, L2.ixN, ft_state, ft_until, ft_since, ft_moves, ft_stands, ft_again, ft_is_slow, ft_agains, ft_opened, ft_now, c_STATES_OF_DOOR, ss_STATES_OF_DOOR]
theorem deed_open (hn : ¬ now < d.nw) (hs : ¬ k1 < 3) (hs2 : k1 < 7) : Good (g_law_deed [.ref 0, .ref 1, .ref 2] (.lst [.int a, .int b, .int c] :: d.ob :: .dct d.kv :: rest)) rest d := by
  have lg : g_law_go [.ref 2, .int now] (.lst [.int a3, .int b3, .int c3] :: d.ob :: .dct d.kv :: rest) = .ok .non (.lst [.int a3, .int b3, .int c3] :: d.ob :: .dct (d.go now).kv :: rest) := lgo_eq (o := 2) rfl
  obtain ⟨k4, a4, b4, c4, _, _, e4⟩ := roll_c (d.ob :: .dct (d.go now).kv :: rest) a3 b3 c3 (many := 5) (by decide) (by decide)
  have go : ∀ (X : Ob) (at_ : Bool), g_Door_open_it [.ref 1, .int now, .bl at_] (.lst [.int a4, .int b4, .int c4] :: d.ob :: X :: rest) = if at_ = false ∨ (d.go now).st = .og then .ex 1 (.lst [.int a4, .int b4, .int c4] :: (d.go now).ob :: X :: rest) else .ok .non (.lst [.int a4, .int b4, .int c4] :: ((d.go now).opn now).ob :: X :: rest) := fun X at_ => by
    rw [open_eq (M := .lst [.int a4, .int b4, .int c4] :: d.ob :: X :: rest) (i := 1) rfl, if_neg hn]
    rfl
  have lb : ∀ D : Dr, g_law_back [.ref 2, .int now] (.lst [.int a4, .int b4, .int c4] :: d.ob :: .dct D.kv :: rest) = .ok .non (.lst [.int a4, .int b4, .int c4] :: d.ob :: .dct (D.back now).kv :: rest) := fun D => lback_eq (o := 2) rfl
  have gm := go_ms d now
  have gn := go_nw d now
  generalize d.go now = D at lg go e4 gm gn
  have hl : 10 < lineN := by decide
  have hnw : d.nw ≤ now := by omega
  obtain ⟨fs, ob⟩ : ∃ fs, d.ob = .ins 2 fs := ⟨_, rfl⟩
  rw [ob] at e1 e2 e3 go lg e4 ⊢
  simp only [ob] at lb
  by_cases h4 : 0 < k4
  · refine ⟨a4, b4, c4, if D.st = .og then D else D.opn now, ?_⟩
    cases hst : D.st <;> simp [g_law_deed, b_law_deed, e1, e2, e3, e4, kv_nw, kv_st, kv_s, kv_op, kp_un, ku_op, kv_len, kl_un, kl_cl, kl_op, kl_sl, hnow, lg, go, lb, hn, hs, hs2, h4, hst, hl, St4.s, Dr.opn, gm, gn, hnw, back_ms, mBody, mSeq, mIf, mBool, mOp2, mOp1, mFld, mVar, mC, okT, Res.bind, Res.st, mRet, mRetN, mSkip, mExp, mSet, mRaise, mIfE, mAnd, mOr, mNot, mOfB, mTru, tru, mAndV, mOrV, mChain, fEqP, deR, dp, teq_ss, teq_ii, teq_bb, teq_nn, teq_sn, teq_ns, teq_in, teq_ni, teq_bn, teq_nb, teq_si, teq_is, teq_sb, teq_bs, teq_ll, teq_tt, teq_ln, teq_tn, teqL_nn, teqL_cc, teqL_nc, teqL_cn, fAdd, fSub, fMul, fDiv, fMod, fPow, fNeg, fLt, fLe, fGt, fGe, fIs, fIsN, isNon, smallI, mTup, mLst, mLstR, mCons, mNil, mApp, mCall, mMeth, mMake, mSetFld, putFld, rdFld, mAugFld, fIAdd, Res.putTo, mSetSub, fPut, fIx, fTix, fstIx, fAbs, fMax2, fMin2, fInt, mBm, isDR, fUpd, dcOf, isRef, lsW, lsOf, kEq, isKey, mDct, mPairs, okD, mDctR, mDctR0, mPar, stL, mAsg, gTp, gC, gN, gZ, fInG, mTold, L2.atI, L2.ixN, ft_state, ft_until, ft_since, ft_moves, ft_stands, ft_again, ft_is_slow, ft_agains, ft_opened, ft_now, c_STATES_OF_DOOR, ss_STATES_OF_DOOR]
  · refine ⟨a4, b4, c4, D, ?_⟩
    cases hst : D.st <;> simp [g_law_deed, b_law_deed, e1, e2, e3, e4, kv_nw, kv_st, kv_s, kv_op, kp_un, ku_op, kv_len, kl_un, kl_cl, kl_op, kl_sl, hnow, lg, go, lb, hn, hs, hs2, h4, hst, hl, St4.s, Dr.opn, gm, gn, hnw, mBody, mSeq, mIf, mBool, mOp2, mOp1, mFld, mVar, mC, okT, Res.bind, Res.st, mRet, mRetN, mSkip, mExp, mSet, mRaise, mIfE, mAnd, mOr, mNot, mOfB, mTru, tru, mAndV, mOrV, mChain, fEqP, deR, dp, teq_ss, teq_ii, teq_bb, teq_nn, teq_sn, teq_ns, teq_in, teq_ni, teq_bn, teq_nb, teq_si, teq_is, teq_sb, teq_bs, teq_ll, teq_tt, teq_ln, teq_tn, teqL_nn, teqL_cc, teqL_nc, teqL_cn, fAdd, fSub, fMul, fDiv, fMod, fPow, fNeg, fLt, fLe, fGt, fGe, fIs, fIsN, isNon, smallI, mTup, mLst, mLstR, mCons, mNil, mApp, mCall, mMeth, mMake, mSetFld, putFld, rdFld, mAugFld, fIAdd, Res.putTo, mSetSub, fPut, fIx, fTix, fstIx, fAbs, fMax2, fMin2, fInt, mBm, isDR, fUpd, dcOf, isRef, lsW, lsOf, kEq, isKey, mDct, mPairs, okD, mDctR, mDctR0, mPar, stL, mAsg, gTp, gC, gN, gZ, fInG, mTold, L2.atI, L2.ixN, ft_state, ft_until, ft_since, ft_moves, ft_stands, ft_again, ft_is_slow, ft_agains, ft_opened, ft_now, c_STATES_OF_DOOR, ss_STATES_OF_DOOR]
theorem deed_way (hn : ¬ now < d.nw) (hs : ¬ k1 < 3) (hs2 : ¬ k1 < 7) (hs3 : k1 < 10) : Good (g_law_deed [.ref 0, .ref 1, .ref 2] (.lst [.int a, .int b, .int c] :: d.ob :: .dct d.kv :: rest)) rest d := by
  have lg : g_law_go [.ref 2, .int now] (.lst [.int a3, .int b3, .int c3] :: d.ob :: .dct d.kv :: rest) = .ok .non (.lst [.int a3, .int b3, .int c3] :: d.ob :: .dct (d.go now).kv :: rest) := lgo_eq (o := 2) rfl
  have go : ∀ (X : Ob), g_Door_in_the_way [.ref 1, .int now] (.lst [.int a3, .int b3, .int c3] :: d.ob :: X :: rest) = if (d.go now).st = .cg then .ok (.bl (decide ((d.go now).ag < (d.go now).g))) (.lst [.int a3, .int b3, .int c3] :: ((d.go now).way now).ob :: X :: rest) else .ex 1 (.lst [.int a3, .int b3, .int c3] :: (d.go now).ob :: X :: rest) := fun X => by
    rw [way_eq (M := .lst [.int a3, .int b3, .int c3] :: d.ob :: X :: rest) (i := 1) rfl, if_neg hn]
    rfl
  have lb : ∀ D : Dr, g_law_back [.ref 2, .int now] (.lst [.int a3, .int b3, .int c3] :: d.ob :: .dct D.kv :: rest) = .ok .non (.lst [.int a3, .int b3, .int c3] :: d.ob :: .dct (D.back now).kv :: rest) := fun D => lback_eq (o := 2) rfl
  have gm := go_ms d now
  have gn := go_nw d now
  generalize d.go now = D at lg go gm gn
  have hl : 10 < lineN := by decide
  have hnw : d.nw ≤ now := by omega
  obtain ⟨fs, ob⟩ : ∃ fs, d.ob = .ins 2 fs := ⟨_, rfl⟩
  rw [ob] at e1 e2 e3 go lg ⊢
  simp only [ob] at lb
  refine ⟨a3, b3, c3, if D.st = .cg then D.way now else D, ?_⟩
  by_cases hg : D.ag < D.g
  · cases hst : D.st <;> simp [g_law_deed, b_law_deed, e1, e2, e3, kv_nw, kv_st, kv_ag, kv_g, kv_sl, kv_si, kp_ag, ku_sl, kv_len, kl_un, kl_cl, kl_op, kl_sl, hnow, lg, go, lb, hn, hs, hs2, hs3, hst, hg, hl, St4.s, Dr.way, gm, gn, hnw, back_ms, mBody, mSeq, mIf, mBool, mOp2, mOp1, mFld, mVar, mC, okT, Res.bind, Res.st, mRet, mRetN, mSkip, mExp, mSet, mRaise, mIfE, mAnd, mOr, mNot, mOfB, mTru, tru, mAndV, mOrV, mChain, fEqP, deR, dp, teq_ss, teq_ii, teq_bb, teq_nn, teq_sn, teq_ns, teq_in, teq_ni, teq_bn, teq_nb, teq_si, teq_is, teq_sb, teq_bs, teq_ll, teq_tt, teq_ln, teq_tn, teqL_nn, teqL_cc, teqL_nc, teqL_cn, fAdd, fSub, fMul, fDiv, fMod, fPow, fNeg, fLt, fLe, fGt, fGe, fIs, fIsN, isNon, smallI, mTup, mLst, mLstR, mCons, mNil, mApp, mCall, mMeth, mMake, mSetFld, putFld, rdFld, mAugFld, fIAdd, Res.putTo, mSetSub, fPut, fIx, fTix, fstIx, fAbs, fMax2, fMin2, fInt, mBm, isDR, fUpd, dcOf, isRef, lsW, lsOf, kEq, isKey, mDct, mPairs, okD, mDctR, mDctR0, mPar, stL, mAsg, gTp, gC, gN, gZ, fInG, mTold, L2.atI, L2.ixN, ft_state, ft_until, ft_since, ft_moves, ft_stands, ft_again, ft_is_slow, ft_agains, ft_opened, ft_now, c_STATES_OF_DOOR, ss_STATES_OF_DOOR]
  · cases hsl : D.sl <;> cases hst : D.st <;> simp [g_law_deed, b_law_deed, e1, e2, e3, kv_nw, kv_st, kv_ag, kv_g, kv_sl, kv_si, kp_ag, ku_sl, kv_len, kl_un, kl_cl, kl_op, kl_sl, hnow, lg, go, lb, hn, hs, hs2, hs3, hst, hsl, hg, hl, St4.s, Dr.way, gm, gn, hnw, back_ms, mBody, mSeq, mIf, mBool, mOp2, mOp1, mFld, mVar, mC, okT, Res.bind, Res.st, mRet, mRetN, mSkip, mExp, mSet, mRaise, mIfE, mAnd, mOr, mNot, mOfB, mTru, tru, mAndV, mOrV, mChain, fEqP, deR, dp, teq_ss, teq_ii, teq_bb, teq_nn, teq_sn, teq_ns, teq_in, teq_ni, teq_bn, teq_nb, teq_si, teq_is, teq_sb, teq_bs, teq_ll, teq_tt, teq_ln, teq_tn, teqL_nn, teqL_cc, teqL_nc, teqL_cn, fAdd, fSub, fMul, fDiv, fMod, fPow, fNeg, fLt, fLe, fGt, fGe, fIs, fIsN, isNon, smallI, mTup, mLst, mLstR, mCons, mNil, mApp, mCall, mMeth, mMake, mSetFld, putFld, rdFld, mAugFld, fIAdd, Res.putTo, mSetSub, fPut, fIx, fTix, fstIx, fAbs, fMax2, fMin2, fInt, mBm, isDR, fUpd, dcOf, isRef, lsW, lsOf, kEq, isKey, mDct, mPairs, okD, mDctR, mDctR0, mPar, stL, mAsg, gTp, gC, gN, gZ, fInG, mTold, L2.atI, L2.ixN, ft_state, ft_until, ft_since, ft_moves, ft_stands, ft_again, ft_is_slow, ft_agains, ft_opened, ft_now, c_STATES_OF_DOOR, ss_STATES_OF_DOOR]
theorem deed_hold (hn : ¬ now < d.nw) (hs : ¬ k1 < 3) (hs2 : ¬ k1 < 7) (hs3 : ¬ k1 < 10) (hs4 : k1 = 10) : Good (g_law_deed [.ref 0, .ref 1, .ref 2] (.lst [.int a, .int b, .int c] :: d.ob :: .dct d.kv :: rest)) rest d := by
  have lg : g_law_go [.ref 2, .int now] (.lst [.int a3, .int b3, .int c3] :: d.ob :: .dct d.kv :: rest) = .ok .non (.lst [.int a3, .int b3, .int c3] :: d.ob :: .dct (d.go now).kv :: rest) := lgo_eq (o := 2) rfl
  obtain ⟨k4, a4, b4, c4, k40, _, e4⟩ := roll_c (d.ob :: .dct (d.go now).kv :: rest) a3 b3 c3 (many := 9) (by decide) (by decide)
  have go : ∀ (X : Ob), g_Door_hold_open [.ref 1, .int now, .int k4] (.lst [.int a4, .int b4, .int c4] :: d.ob :: X :: rest) = if (d.go now).st = .op ∧ ¬ k4 < 1 then .ok .non (.lst [.int a4, .int b4, .int c4] :: ((d.go now).hold now k4).ob :: X :: rest) else .ex 1 (.lst [.int a4, .int b4, .int c4] :: (d.go now).ob :: X :: rest) := fun X => by
    rw [hold_eq (M := .lst [.int a4, .int b4, .int c4] :: d.ob :: X :: rest) (i := 1) rfl, if_neg hn]
    rfl
  have gm := go_ms d now
  have gn := go_nw d now
  generalize d.go now = D at lg go e4 gm gn
  have hl : 10 < lineN := by decide
  have hnw : d.nw ≤ now := by omega
  obtain ⟨fs, ob⟩ : ∃ fs, d.ob = .ins 2 fs := ⟨_, rfl⟩
  rw [ob] at e1 e2 e3 e4 go lg ⊢
  subst hs4
  by_cases h4 : 0 < k4
  · have h5 : ¬ k4 < 1 := by omega
    refine ⟨a4, b4, c4, if D.st = .op then D.hold now k4 else D, ?_⟩
    cases hst : D.st <;> simp [g_law_deed, b_law_deed, e1, e2, e3, e4, kv_nw, kv_st, kv_un, ku_un, ku_nil, kv_len, kl_un, kl_cl, kl_op, kl_sl, hnow, lg, go, hn, h4, h5, hst, hl, St4.s, Dr.hold, gm, gn, hnw, mBody, mSeq, mIf, mBool, mOp2, mOp1, mFld, mVar, mC, okT, Res.bind, Res.st, mRet, mRetN, mSkip, mExp, mSet, mRaise, mIfE, mAnd, mOr, mNot, mOfB, mTru, tru, mAndV, mOrV, mChain, fEqP, deR, dp, teq_ss, teq_ii, teq_bb, teq_nn, teq_sn, teq_ns, teq_in, teq_ni, teq_bn, teq_nb, teq_si, teq_is, teq_sb, teq_bs, teq_ll, teq_tt, teq_ln, teq_tn, teqL_nn, teqL_cc, teqL_nc, teqL_cn, fAdd, fSub, fMul, fDiv, fMod, fPow, fNeg, fLt, fLe, fGt, fGe, fIs, fIsN, isNon, smallI, mTup, mLst, mLstR, mCons, mNil, mApp, mCall, mMeth, mMake, mSetFld, putFld, rdFld, mAugFld, fIAdd, Res.putTo, mSetSub, fPut, fIx, fTix, fstIx, fAbs, fMax2, fMin2, fInt, mBm, isDR, fUpd, dcOf, isRef, lsW, lsOf, kEq, isKey, mDct, mPairs, okD, mDctR, mDctR0, mPar, stL, mAsg, gTp, gC, gN, gZ, fInG, mTold, L2.atI, L2.ixN, ft_state, ft_until, ft_since, ft_moves, ft_stands, ft_again, ft_is_slow, ft_agains, ft_opened, ft_now, c_STATES_OF_DOOR, ss_STATES_OF_DOOR]
  · have h5 : k4 < 1 := by omega
    refine ⟨a4, b4, c4, D, ?_⟩
    cases hst : D.st <;> simp [g_law_deed, b_law_deed, e1, e2, e3, e4, kv_nw, kv_st, kv_un, ku_un, ku_nil, kv_len, kl_un, kl_cl, kl_op, kl_sl, hnow, lg, go, hn, h4, h5, hst, hl, St4.s, Dr.hold, gm, gn, hnw, mBody, mSeq, mIf, mBool, mOp2, mOp1, mFld, mVar, mC, okT, Res.bind, Res.st, mRet, mRetN, mSkip, mExp, mSet, mRaise, mIfE, mAnd, mOr, mNot, mOfB, mTru, tru, mAndV, mOrV, mChain, fEqP, deR, dp, teq_ss, teq_ii, teq_bb, teq_nn, teq_sn, teq_ns, teq_in, teq_ni, teq_bn, teq_nb, teq_si, teq_is, teq_sb, teq_bs, teq_ll, teq_tt, teq_ln, teq_tn, teqL_nn, teqL_cc, teqL_nc, teqL_cn, fAdd, fSub, fMul, fDiv, fMod, fPow, fNeg, fLt, fLe, fGt, fGe, fIs, fIsN, isNon, smallI, mTup, mLst, mLstR, mCons, mNil, mApp, mCall, mMeth, mMake, mSetFld, putFld, rdFld, mAugFld, fIAdd, Res.putTo, mSetSub, fPut, fIx, fTix, fstIx, fAbs, fMax2, fMin2, fInt, mBm, isDR, fUpd, dcOf, isRef, lsW, lsOf, kEq, isKey, mDct, mPairs, okD, mDctR, mDctR0, mPar, stL, mAsg, gTp, gC, gN, gZ, fInG, mTold, L2.atI, L2.ixN, ft_state, ft_until, ft_since, ft_moves, ft_stands, ft_again, ft_is_slow, ft_agains, ft_opened, ft_now, c_STATES_OF_DOOR, ss_STATES_OF_DOOR]
theorem deed_close (hn : ¬ now < d.nw) (hs : ¬ k1 < 3) (hs2 : ¬ k1 < 7) (hs3 : ¬ k1 < 10) (hs4 : ¬ k1 = 10) : Good (g_law_deed [.ref 0, .ref 1, .ref 2] (.lst [.int a, .int b, .int c] :: d.ob :: .dct d.kv :: rest)) rest d := by
  have lg : g_law_go [.ref 2, .int now] (.lst [.int a3, .int b3, .int c3] :: d.ob :: .dct d.kv :: rest) = .ok .non (.lst [.int a3, .int b3, .int c3] :: d.ob :: .dct (d.go now).kv :: rest) := lgo_eq (o := 2) rfl
  have go : ∀ (X : Ob), g_Door_close_it [.ref 1, .int now] (.lst [.int a3, .int b3, .int c3] :: d.ob :: X :: rest) = if (d.go now).st = .op then .ok .non (.lst [.int a3, .int b3, .int c3] :: ((d.go now).cls now).ob :: X :: rest) else .ex 1 (.lst [.int a3, .int b3, .int c3] :: (d.go now).ob :: X :: rest) := fun X => by
    rw [close_eq (M := .lst [.int a3, .int b3, .int c3] :: d.ob :: X :: rest) (i := 1) rfl, if_neg hn]
    rfl
  have gm := go_ms d now
  have gn := go_nw d now
  generalize d.go now = D at lg go gm gn
  have hl : 10 < lineN := by decide
  have hnw : d.nw ≤ now := by omega
  obtain ⟨fs, ob⟩ : ∃ fs, d.ob = .ins 2 fs := ⟨_, rfl⟩
  rw [ob] at e1 e2 e3 go lg ⊢
  refine ⟨a3, b3, c3, if D.st = .op then D.cls now else D, ?_⟩
  cases hst : D.st <;> simp [g_law_deed, b_law_deed, e1, e2, e3, kv_nw, kv_st, ku_cl, ku_nil, kv_len, kl_un, kl_cl, kl_op, kl_sl, hnow, lg, go, hn, hs, hs2, hs3, hs4, hst, hl, St4.s, Dr.cls, gm, gn, hnw, mBody, mSeq, mIf, mBool, mOp2, mOp1, mFld, mVar, mC, okT, Res.bind, Res.st, mRet, mRetN, mSkip, mExp, mSet, mRaise, mIfE, mAnd, mOr, mNot, mOfB, mTru, tru, mAndV, mOrV, mChain, fEqP, deR, dp, teq_ss, teq_ii, teq_bb, teq_nn, teq_sn, teq_ns, teq_in, teq_ni, teq_bn, teq_nb, teq_si, teq_is, teq_sb, teq_bs, teq_ll, teq_tt, teq_ln, teq_tn, teqL_nn, teqL_cc, teqL_nc, teqL_cn, fAdd, fSub, fMul, fDiv, fMod, fPow, fNeg, fLt, fLe, fGt, fGe, fIs, fIsN, isNon, smallI, mTup, mLst, mLstR, mCons, mNil, mApp, mCall, mMeth, mMake, mSetFld, putFld, rdFld, mAugFld, fIAdd, Res.putTo, mSetSub, fPut, fIx, fTix, fstIx, fAbs, fMax2, fMin2, fInt, mBm, isDR, fUpd, dcOf, isRef, lsW, lsOf, kEq, isKey, mDct, mPairs, okD, mDctR, mDctR0, mPar, stL, mAsg, gTp, gC, gN, gZ, fInG, mTold, L2.atI, L2.ixN, ft_state, ft_until, ft_since, ft_moves, ft_stands, ft_again, ft_is_slow, ft_agains, ft_opened, ft_now, c_STATES_OF_DOOR, ss_STATES_OF_DOOR]
end
theorem deed_eq (a b c : Int) (d : Dr) (rest : Hs) : Good (g_law_deed [.ref 0, .ref 1, .ref 2] (.lst [.int a, .int b, .int c] :: d.ob :: .dct d.kv :: rest)) rest d := by
  obtain ⟨k1, a1, b1, c1, _, _, e1⟩ := roll_c (d.ob :: .dct d.kv :: rest) a b c (many := 12) (by decide) (by decide)
  obtain ⟨k2, a2, b2', c2, _, _, e2⟩ := roll_c (d.ob :: .dct d.kv :: rest) a1 b1 c1 (many := 4) (by decide) (by decide)
  obtain ⟨k3, a3, b3, c3, _, _, e3⟩ := roll_c (d.ob :: .dct d.kv :: rest) a2 b2' c2 (many := 16) (by decide) (by decide)
  by_cases hn : d.nw + k2 - 4 * b2 (decide (k3 = 0)) < d.nw
  · exact deed_late e1 e2 e3 rfl hn
  by_cases s1 : k1 < 3
  · exact deed_go e1 e2 e3 rfl hn s1
  by_cases s2 : k1 < 7
  · exact deed_open e1 e2 e3 rfl hn s1 s2
  by_cases s3 : k1 < 10
  · exact deed_way e1 e2 e3 rfl hn s1 s2 s3
  by_cases s4 : k1 = 10
  · exact deed_hold e1 e2 e3 rfl hn s1 s2 s3 s4
  · exact deed_close e1 e2 e3 rfl hn s1 s2 s3 s4
end Mi
namespace Mi
open PySem PySem.Spec PyProof.Rows
def inner : SM := mSeq (mIf (mOr (mNot (mTru (mCall g_law_deed (mCons (mVar 2) (mCons (mVar 3) (mCons (mVar 13) (mNil))))))) (mOr (mBool (mOp2 (fEqP true) (mTup (mCons (mFld ft_state (mVar 3)) (mCons (mFld ft_now (mVar 3)) (mCons (mFld ft_opened (mVar 3)) (mCons (mFld ft_agains (mVar 3)) (mCons (mFld ft_is_slow (mVar 3)) (mNil))))))) (mTup (mCons (mOp2 fIx (mVar 13) (mC (.str [115, 116, 97, 116, 101]))) (mCons (mOp2 fIx (mVar 13) (mC (.str [110, 111, 119]))) (mCons (mOp2 fIx (mVar 13) (mC (.str [111, 112, 101, 110, 101, 100]))) (mCons (mOp2 fIx (mVar 13) (mC (.str [97, 103, 97, 105, 110, 115]))) (mCons (mOp2 fIx (mVar 13) (mC (.str [115, 108, 111, 119]))) (mNil))))))))) (mAnd (mBool (mOp2 (fEqP true) (mOp2 fIx (mVar 13) (mC (.str [115, 116, 97, 116, 101]))) (mC (.str [99, 108, 111, 115, 101, 100])))) (mBool (mOp2 (fEqP true) (mFld ft_since (mVar 3)) (mOp2 fIx (mVar 13) (mC (.str [115, 105, 110, 99, 101])))))))) (mRet (mC (.bl false))) (mSkip)) (mSeq (mExp (mCall g_law_go (mCons (mVar 13) (mCons (mOp2 fIx (mVar 13) (mC (.str [110, 111, 119]))) (mNil))))) (mSeq (mIf (mBool (mOp2 (fEqP true) (mMeth [(2, g_Door_go_to)] (mVar 3) (mCons (mOp2 fIx (mVar 13) (mC (.str [110, 111, 119]))) (mNil))) (mOp2 fIx (mVar 13) (mC (.str [115, 116, 97, 116, 101]))))) (mRet (mC (.bl false))) (mSkip)) (mSeq (mPar [10, 4] (mCons (mOp2 fIx (mVar 13) (mC (.str [110, 111, 119]))) (mCons (mOp2 fSub (mOp2 fIx (mVar 13) (mC (.str [110, 111, 119]))) (mOp2 fIx (mVar 13) (mC (.str [115, 105, 110, 99, 101])))) (mNil)))) (mSeq (mSet 20 (mIfE (mBool (mOp2 (fInG false) (mOp2 fIx (mVar 13) (mC (.str [115, 116, 97, 116, 101]))) (mLst (mCons (mC (.str [111, 112, 101, 110, 105, 110, 103])) (mCons (mC (.str [99, 108, 111, 115, 105, 110, 103])) (mNil)))))) (mCall g_law_long (mCons (mVar 13) (mNil))) (mC (.int 1)))) (mSeq (mSet 14 (mIfE (mBool (mOp2 (fEqP false) (mOp2 fIx (mVar 13) (mC (.str [115, 116, 97, 116, 101]))) (mC (.str [111, 112, 101, 110, 105, 110, 103])))) (mVar 4) (mOp2 fSub (mVar 20) (mVar 4)))) (mSeq (mSet 11 (mIfE (mBool (mOp2 (fEqP false) (mOp2 fIx (mVar 13) (mC (.str [115, 116, 97, 116, 101]))) (mC (.str [99, 108, 111, 115, 101, 100])))) (mC (.int 0)) (mIfE (mBool (mOp2 (fEqP false) (mOp2 fIx (mVar 13) (mC (.str [115, 116, 97, 116, 101]))) (mC (.str [111, 112, 101, 110])))) (mC (.int 1000)) (mOp2 fDiv (mOp2 fMul (mC (.int 1000)) (mVar 14)) (mVar 20))))) (mSeq (mSet 7 (mOp2 fIx (mDct [(mC (.str [99, 108, 111, 115, 101, 100]), mC (.int 0)), (mC (.str [111, 112, 101, 110]), mOp2 fAdd (mOp2 fSub (mOp2 fIx (mVar 13) (mC (.str [117, 110, 116, 105, 108]))) (mVar 10)) (mOp2 fMul (mVar 9) (mIfE (mTru (mOp2 fIx (mVar 13) (mC (.str [115, 108, 111, 119])))) (mC (.int 2)) (mC (.int 1))))), (mC (.str [99, 108, 111, 115, 105, 110, 103]), mOp2 fSub (mOrV (mCall g_law_long (mCons (mVar 13) (mNil))) (mC (.int 0))) (mVar 4)), (mC (.str [111, 112, 101, 110, 105, 110, 103]), mOp2 fAdd (mOp2 fAdd (mOp2 fSub (mVar 9) (mVar 4)) (mVar 18)) (mOp2 fMul (mVar 9) (mIfE (mTru (mOp2 fIx (mVar 13) (mC (.str [115, 108, 111, 119])))) (mC (.int 2)) (mC (.int 1)))))]) (mOp2 fIx (mVar 13) (mC (.str [115, 116, 97, 116, 101]))))) (mSeq (mIf (mBool (mOp2 (fEqP true) (mMeth [(2, g_Door_how_open)] (mVar 3) (mCons (mVar 10) (mNil))) (mVar 11))) (mRet (mC (.bl false))) (mSkip)) (mSeq (mIf (mOr (mBool (mOp2 (fEqP true) (mMeth [(2, g_Door_may_move)] (mVar 3) (mCons (mVar 10) (mNil))) (mOp2 (fEqP false) (mOp2 fIx (mVar 13) (mC (.str [115, 116, 97, 116, 101]))) (mC (.str [99, 108, 111, 115, 101, 100]))))) (mBool (mOp2 (fEqP true) (mMeth [(2, g_Door_closed_by)] (mVar 3) mNil) (mOp2 fAdd (mVar 10) (mVar 7))))) (mRet (mC (.bl false))) (mSkip)) (mIf (mBool (mOp2 (fEqP true) (mMeth [(2, g_Door_next_change)] (mVar 3) mNil) (mIfE (mBool (mOp2 (fEqP false) (mOp2 fIx (mVar 13) (mC (.str [115, 116, 97, 116, 101]))) (mC (.str [99, 108, 111, 115, 101, 100])))) (mC .non) (mOp2 fAdd (mOp2 fIx (mVar 13) (mC (.str [115, 105, 110, 99, 101]))) (mCall g_law_long (mCons (mVar 13) (mNil))))))) (mRet (mC (.bl false))) (mSkip)))))))))))
def tail3 : SM := mSeq (mSet 12 (mMake 2 10 g_Door_init (mCons (mC (.int 1)) (mCons (mC (.int 1)) (mCons (mC (.int 1)) (mNil)))))) (mSeq (mSet 5 (mOp2 fAdd (mOp2 fIx (mVar 13) (mC (.str [110, 111, 119]))) (mCall g_law_roll (mCons (mVar 2) (mCons (mC (.int 9)) (mNil)))))) (mSeq (mIf (mBool (mOp2 (fEqP false) (mCall g_law_roll (mCons (mVar 2) (mCons (mC (.int 2)) (mNil)))) (mC (.int 0)))) (mExp (mMeth [(2, g_Door_open_it)] (mVar 12) (mCons (mC (.int 0)) (mCons (mC (.bl true)) (mNil))))) (mSkip)) (mSeq (mSet 17 (mCall g_both_closed (mCons (mTup (mCons (mVar 3) (mCons (mVar 12) (mNil)))) (mCons (mVar 5) (mNil))))) (mSeq (mIf (mOr (mBool (mOp2 (fEqP true) (mVar 17) (mAndV (mOp2 (fEqP false) (mFld ft_state (mVar 3)) (mC (.str [99, 108, 111, 115, 101, 100]))) (mOp2 (fEqP false) (mFld ft_state (mVar 12)) (mC (.str [99, 108, 111, 115, 101, 100])))))) (mBool (mOp2 (fEqP true) (mTup (mCons (mFld ft_now (mVar 3)) (mCons (mFld ft_now (mVar 12)) (mNil)))) (mTup (mCons (mVar 5) (mCons (mVar 5) (mNil))))))) (mRet (mC (.bl false))) (mSkip)) (mSeq (mPar [15, 16, 6] (mCons (mCall g_law_roll (mCons (mVar 2) (mCons (mC (.int 9)) (mNil)))) (mCons (mCall g_law_roll (mCons (mVar 2) (mCons (mC (.int 4)) (mNil)))) (mCons (mOp2 fAdd (mC (.int 1)) (mCall g_law_roll (mCons (mVar 2) (mCons (mC (.int 6)) (mNil))))) (mNil))))) (mSeq (mSet 8 (mOp2 fAdd (mVar 6) (mCall g_law_roll (mCons (mVar 2) (mCons (mC (.int 9)) (mNil)))))) (mIf (mBool (mOp2 (fEqP true) (mCall g_stand_for (mCons (mVar 15) (mCons (mVar 16) (mCons (mVar 6) (mCons (mVar 8) (mNil)))))) (mOp2 fIx (mApp fSortedI (mCons (mLst (mCons (mVar 6) (mCons (mVar 8) (mCons (mOp2 fMul (mVar 15) (mVar 16)) (mNil))))) (mNil))) (mC (.int 1))))) (mRet (mC (.bl false))) (mSkip))))))))
def outer : SM := mSeq (mPar [9, 18, 1] (mCons (mOp2 fAdd (mC (.int 1)) (mCall g_law_roll (mCons (mVar 2) (mCons (mC (.int 4)) (mNil))))) (mCons (mOp2 fAdd (mC (.int 1)) (mCall g_law_roll (mCons (mVar 2) (mCons (mC (.int 6)) (mNil))))) (mCons (mCall g_law_roll (mCons (mVar 2) (mCons (mC (.int 3)) (mNil)))) (mNil))))) (mSeq (mPar [3, 13] (mCons (mMake 2 10 g_Door_init (mCons (mVar 9) (mCons (mVar 18) (mCons (mVar 1) (mNil))))) (mCons (mDctR [(mC (.str [109, 111, 118, 101, 115]), mVar 9), (mC (.str [115, 116, 97, 110, 100, 115]), mVar 18), (mC (.str [97, 103, 97, 105, 110]), mVar 1), (mC (.str [115, 116, 97, 116, 101]), mC (.str [99, 108, 111, 115, 101, 100])), (mC (.str [115, 105, 110, 99, 101]), mC (.int 0)), (mC (.str [117, 110, 116, 105, 108]), mC (.int 0)), (mC (.str [97, 103, 97, 105, 110, 115]), mC (.int 0)), (mC (.str [115, 108, 111, 119]), mC (.bl false)), (mC (.str [111, 112, 101, 110, 101, 100]), mC (.int 0)), (mC (.str [110, 111, 119]), mC (.int 0))]) (mNil)))) (mSeq (mFor (mIA rngV1 (mCons (mCall g_law_roll (mCons (mVar 2) (mCons (mC (.int 30)) (mNil)))) (mNil))) (gN 19) inner) tail3))
theorem b_law_eq : b_law = mSeq (mFor (mIV (mCall g_law_rounds (mCons (mVar 0) (mCons (mC (.int 1)) (mNil))))) (gN 2) outer) (mRet (mCall g_law_plain mNil)) := rfl

theorem st_cl : St4.cl.s = [99, 108, 111, 115, 101, 100] := rfl
theorem st_og : St4.og.s = [111, 112, 101, 110, 105, 110, 103] := rfl
theorem st_op : St4.op.s = [111, 112, 101, 110] := rfl
theorem st_cg : St4.cg.s = [99, 108, 111, 115, 105, 110, 103] := rfl
theorem d4_cl (a b c e : T) : dGet (dMerge [] [(.str [99, 108, 111, 115, 101, 100], a), (.str [111, 112, 101, 110], b), (.str [99, 108, 111, 115, 105, 110, 103], c), (.str [111, 112, 101, 110, 105, 110, 103], e)]) (.str [99, 108, 111, 115, 101, 100]) = some a := rfl
theorem d4_op (a b c e : T) : dGet (dMerge [] [(.str [99, 108, 111, 115, 101, 100], a), (.str [111, 112, 101, 110], b), (.str [99, 108, 111, 115, 105, 110, 103], c), (.str [111, 112, 101, 110, 105, 110, 103], e)]) (.str [111, 112, 101, 110]) = some b := rfl
theorem d4_cg (a b c e : T) : dGet (dMerge [] [(.str [99, 108, 111, 115, 101, 100], a), (.str [111, 112, 101, 110], b), (.str [99, 108, 111, 115, 105, 110, 103], c), (.str [111, 112, 101, 110, 105, 110, 103], e)]) (.str [99, 108, 111, 115, 105, 110, 103]) = some c := rfl
theorem d4_og (a b c e : T) : dGet (dMerge [] [(.str [99, 108, 111, 115, 101, 100], a), (.str [111, 112, 101, 110], b), (.str [99, 108, 111, 115, 105, 110, 103], c), (.str [111, 112, 101, 110, 105, 110, 103], e)]) (.str [111, 112, 101, 110, 105, 110, 103]) = some e := rfl
theorem due_nw (d : Dr) (t x : Int) : ({ d with nw := x } : Dr).due t = d.due t := by
  cases d with
  | mk m s g st si un ag sl op nw => cases st <;> rfl
theorem go_idem (d : Dr) (t : Int) : (d.go t).go t = d.go t := by
  have e := loop_end 4 d ((d.loop t 4).getD d) (go_loop d t 0)
  generalize (d.loop t 4).getD d = x at e
  have h : d.go t = d.go t := rfl
  have key : ∀ y : Dr, y.due t = false → y.nw = t → y.go t = y := fun y h1 h2 => by
    unfold Dr.go
    have : y.loop t 4 = some y := by unfold Dr.loop; rw [h1]; rfl
    rw [this]
    cases y
    simp only [Option.getD_some] at h2 ⊢
    subst h2
    rfl
  refine key _ ?_ rfl
  rw [Dr.go, due_nw]
  exact loop_end 4 d _ (go_loop d t 0)
theorem inner_eq {a b c m s : Int} {d : Dr} (hm : d.m = m) (hs : d.s = s) (h1 : 1 ≤ m) (h4 : m ≤ 4) (x0 x1 g x5 x6 l x8 n op x12 p x15 x16 x17 st w : T) :
    ∃ a' b' c' d' g' l' n' op' p' w', inner [x0, x1, .ref 0, .ref 1, g, x5, x6, l, x8, .int m, n, op, x12, .ref 2, p, x15, x16, x17, .int s, st, w] (.lst [.int a, .int b, .int c] :: d.ob :: .dct d.kv :: []) =
      .nx [x0, x1, .ref 0, .ref 1, g', x5, x6, l', x8, .int m, n', op', x12, .ref 2, p', x15, x16, x17, .int s, st, w'] (.lst [.int a', .int b', .int c'] :: Dr.ob d' :: .dct (Dr.kv d') :: []) ∧ d'.m = m ∧ d'.s = s ∧ d.nw ≤ d'.nw := by
  obtain ⟨a1, b1, c1, d1, e1, hm1, hs1, hn1⟩ := deed_eq a b c d []
  have lg : g_law_go [.ref 2, .int d1.nw] (.lst [.int a1, .int b1, .int c1] :: d1.ob :: .dct d1.kv :: []) = .ok .non (.lst [.int a1, .int b1, .int c1] :: d1.ob :: .dct (d1.go d1.nw).kv :: []) := lgo_eq (o := 2) rfl
  have gt : g_Door_go_to [.ref 1, .int d1.nw] (.lst [.int a1, .int b1, .int c1] :: d1.ob :: .dct (d1.go d1.nw).kv :: []) = .ok (.str (d1.go d1.nw).st.s) (.lst [.int a1, .int b1, .int c1] :: (d1.go d1.nw).ob :: .dct (d1.go d1.nw).kv :: []) := goto_ok (i := 1) rfl (Int.lt_irrefl _)
  have gm := go_ms d1 d1.nw
  have gn := go_nw d1 d1.nw
  have hid := go_idem d1 d1.nw
  have ob1 : d1.ob = .ins 2 [.int d1.m, .int d1.s, .int d1.g, .str d1.st.s, .int d1.si, .int d1.un, .int d1.ag, .bl d1.sl, .int d1.op, .int d1.nw] := rfl
  generalize d1.go d1.nw = D at lg gt gm gn hid
  have hDm : D.m = m := by rw [gm.1, hm1, hm]
  have hDs : D.s = s := by rw [gm.2, hs1, hs]
  have hnl : ¬ d1.nw < D.nw := by rw [gn]; exact Int.lt_irrefl _
  have hw := how_eq (M := .lst [.int a1, .int b1, .int c1] :: D.ob :: .dct D.kv :: []) (i := 1) (d := D) (now := d1.nw) rfl hnl (by rw [hid, hDm]; exact h1) (by rw [hid, hDm]; omega)
  have my := may_eq (M := .lst [.int a1, .int b1, .int c1] :: D.ob :: .dct D.kv :: []) (i := 1) (d := D) (now := d1.nw) rfl hnl
  have by_ := by_eq (M := .lst [.int a1, .int b1, .int c1] :: D.ob :: .dct D.kv :: []) (i := 1) (d := D) rfl
  have nx := next_eq (M := .lst [.int a1, .int b1, .int c1] :: D.ob :: .dct D.kv :: []) (i := 1) (d := D) rfl
  have lo : ∀ L X : Ob, g_law_long [.ref 2] (L :: X :: .dct D.kv :: []) = .ok D.longT (L :: X :: .dct D.kv :: []) := fun L X => long_eq (M := L :: X :: .dct D.kv :: []) (o := 2) (d := D) rfl
  rw [hid] at hw my
  have st1 : ∀ X : Ob, (Ob.lst [.int a1, .int b1, .int c1] :: D.ob :: .dct D.kv :: []).set 1 D.ob = Ob.lst [.int a1, .int b1, .int c1] :: D.ob :: .dct D.kv :: [] := fun _ => rfl
  rw [st1 D.ob] at hw my
  have n0 : m ≠ 0 := by omega
  have n1 : m.natAbs < 1073741824 := by omega
  have n2 : m * 2 ≠ 0 := by omega
  have n3 : (m * 2).natAbs < 1073741824 := by omega
  have n4 : (m != 0) = true := by simpa using n0
  have n5 : (m * 2 != 0) = true := by simpa using n2
  have oD : D.ob = .ins 2 [.int D.m, .int D.s, .int D.g, .str D.st.s, .int D.si, .int D.un, .int D.ag, .bl D.sl, .int D.op, .int D.nw] := rfl
  rw [ob1] at e1 lg gt
  rw [oD] at gt hw my by_ nx
  have hle : d.nw ≤ d1.nw := hn1
  refine ⟨a1, b1, c1, D, ?_⟩
  cases hst : D.st with
  | cl =>
    have q1 : D.by_ = d1.nw := by simp [Dr.by_, hst, gn]
    have q2 : D.how d1.nw = 0 := by simp [Dr.how, hst]
    have q3 : D.nx = .non := by simp [Dr.nx, hst]
    refine ⟨.int (d1.nw - D.si), .int 0, .int d1.nw, .int 0, .int (1 - (d1.nw - D.si)), .int 1, ?_, hDm, hDs, by rw [gn]; exact hle⟩
    rw [oD]
    cases hsl : D.sl <;> simp only [hDm, hDs, hst, hsl, gn, st_cl, st_og, st_op, st_cg] at gt hw my by_ nx <;> simp [inner, d4_cl, d4_op, d4_cg, d4_og, n4, n5, e1, lg, gt, hw, my, by_, nx, lo, q1, q2, q3, Dr.longT, kv_st, kv_nw, kv_op, kv_ag, kv_sl, kv_si, kv_un, gn, hst, hsl, st_cl, st_og, st_op, st_cg, hDm, hDs, mBody, mSeq, mIf, mBool, mOp2, mOp1, mFld, mVar, mC, okT, Res.bind, Res.st, mRet, mRetN, mSkip, mExp, mSet, mRaise, mIfE, mAnd, mOr, mNot, mOfB, mTru, tru, mAndV, mOrV, mChain, fEqP, deR, dp, teq_ss, teq_ii, teq_bb, teq_nn, teq_sn, teq_ns, teq_in, teq_ni, teq_bn, teq_nb, teq_si, teq_is, teq_sb, teq_bs, teq_ll, teq_tt, teq_ln, teq_tn, teqL_nn, teqL_cc, teqL_nc, teqL_cn, fAdd, fSub, fMul, fDiv, fMod, fPow, fNeg, fLt, fLe, fGt, fGe, fIs, fIsN, isNon, smallI, mTup, mLst, mLstR, mCons, mNil, mApp, mCall, mMeth, mMake, mSetFld, putFld, rdFld, mAugFld, fIAdd, Res.putTo, mSetSub, fPut, fIx, fTix, fstIx, fAbs, fMax2, fMin2, fInt, mBm, isDR, fUpd, dcOf, isRef, lsW, lsOf, kEq, isKey, mDct, mPairs, okD, mDctR, mDctR0, mPar, stL, mAsg, gTp, gC, gN, gZ, fInG, mTold, L2.atI, L2.ixN, ft_state, ft_until, ft_since, ft_moves, ft_stands, ft_again, ft_is_slow, ft_agains, ft_opened, ft_now, c_STATES_OF_DOOR, ss_STATES_OF_DOOR]
  | og =>
    have q1 : D.by_ = D.si + m * 1 + s + m * (if D.sl then 2 else 1) := by simp [Dr.by_, Dr.nxI, hst, hDm, hDs]
    have q2 : D.how d1.nw = (1000 * (d1.nw - D.si)).fdiv m := by simp [Dr.how, hst, hDm]
    have q3 : D.nx = .int (D.si + m * 1) := by simp [Dr.nx, Dr.nxI, hst, hDm]
    have q4 : d1.nw + (m - (d1.nw - D.si) + s + m) = D.si + m + s + m := by omega
    have q5 : d1.nw + (m - (d1.nw - D.si) + s + m * 2) = D.si + m + s + m * 2 := by omega
    refine ⟨.int (d1.nw - D.si), .int (m - (d1.nw - D.si) + s + m * (if D.sl then 2 else 1)), .int d1.nw, .int ((1000 * (d1.nw - D.si)).fdiv m), .int (d1.nw - D.si), .int m, ?_, hDm, hDs, by rw [gn]; exact hle⟩
    rw [oD]
    cases hsl : D.sl <;> simp only [hDm, hDs, hst, hsl, gn, st_cl, st_og, st_op, st_cg] at gt hw my by_ nx <;> simp [inner, d4_cl, d4_op, d4_cg, d4_og, n4, n5, e1, lg, gt, hw, my, by_, nx, lo, q1, q2, q3, q4, q5, n0, n1, Dr.longT, kv_st, kv_nw, kv_op, kv_ag, kv_sl, kv_si, kv_un, gn, hst, hsl, st_cl, st_og, st_op, st_cg, hDm, hDs, mBody, mSeq, mIf, mBool, mOp2, mOp1, mFld, mVar, mC, okT, Res.bind, Res.st, mRet, mRetN, mSkip, mExp, mSet, mRaise, mIfE, mAnd, mOr, mNot, mOfB, mTru, tru, mAndV, mOrV, mChain, fEqP, deR, dp, teq_ss, teq_ii, teq_bb, teq_nn, teq_sn, teq_ns, teq_in, teq_ni, teq_bn, teq_nb, teq_si, teq_is, teq_sb, teq_bs, teq_ll, teq_tt, teq_ln, teq_tn, teqL_nn, teqL_cc, teqL_nc, teqL_cn, fAdd, fSub, fMul, fDiv, fMod, fPow, fNeg, fLt, fLe, fGt, fGe, fIs, fIsN, isNon, smallI, mTup, mLst, mLstR, mCons, mNil, mApp, mCall, mMeth, mMake, mSetFld, putFld, rdFld, mAugFld, fIAdd, Res.putTo, mSetSub, fPut, fIx, fTix, fstIx, fAbs, fMax2, fMin2, fInt, mBm, isDR, fUpd, dcOf, isRef, lsW, lsOf, kEq, isKey, mDct, mPairs, okD, mDctR, mDctR0, mPar, stL, mAsg, gTp, gC, gN, gZ, fInG, mTold, L2.atI, L2.ixN, ft_state, ft_until, ft_since, ft_moves, ft_stands, ft_again, ft_is_slow, ft_agains, ft_opened, ft_now, c_STATES_OF_DOOR, ss_STATES_OF_DOOR]
  | op =>
    have q1 : D.by_ = D.un + m * (if D.sl then 2 else 1) := by simp [Dr.by_, hst, hDm]
    have q2 : D.how d1.nw = 1000 := by simp [Dr.how, hst]
    have q3 : D.nx = .int D.un := by simp [Dr.nx, Dr.nxI, hst]
    have q4 : d1.nw + (D.un - d1.nw + m) = D.un + m := by omega
    have q5 : d1.nw + (D.un - d1.nw + m * 2) = D.un + m * 2 := by omega
    have q6 : D.si + (D.un - D.si) = D.un := by omega
    refine ⟨.int (d1.nw - D.si), .int (D.un - d1.nw + m * (if D.sl then 2 else 1)), .int d1.nw, .int 1000, .int (1 - (d1.nw - D.si)), .int 1, ?_, hDm, hDs, by rw [gn]; exact hle⟩
    rw [oD]
    cases hsl : D.sl <;> cases hz : (D.un - D.si != 0) <;> simp only [hDm, hDs, hst, hsl, gn, st_cl, st_og, st_op, st_cg] at gt hw my by_ nx <;> simp [inner, d4_cl, d4_op, d4_cg, d4_og, n4, n5, e1, lg, gt, hw, my, by_, nx, lo, q1, q2, q3, q4, q5, q6, hz, Dr.longT, kv_st, kv_nw, kv_op, kv_ag, kv_sl, kv_si, kv_un, gn, hst, hsl, st_cl, st_og, st_op, st_cg, hDm, hDs, mBody, mSeq, mIf, mBool, mOp2, mOp1, mFld, mVar, mC, okT, Res.bind, Res.st, mRet, mRetN, mSkip, mExp, mSet, mRaise, mIfE, mAnd, mOr, mNot, mOfB, mTru, tru, mAndV, mOrV, mChain, fEqP, deR, dp, teq_ss, teq_ii, teq_bb, teq_nn, teq_sn, teq_ns, teq_in, teq_ni, teq_bn, teq_nb, teq_si, teq_is, teq_sb, teq_bs, teq_ll, teq_tt, teq_ln, teq_tn, teqL_nn, teqL_cc, teqL_nc, teqL_cn, fAdd, fSub, fMul, fDiv, fMod, fPow, fNeg, fLt, fLe, fGt, fGe, fIs, fIsN, isNon, smallI, mTup, mLst, mLstR, mCons, mNil, mApp, mCall, mMeth, mMake, mSetFld, putFld, rdFld, mAugFld, fIAdd, Res.putTo, mSetSub, fPut, fIx, fTix, fstIx, fAbs, fMax2, fMin2, fInt, mBm, isDR, fUpd, dcOf, isRef, lsW, lsOf, kEq, isKey, mDct, mPairs, okD, mDctR, mDctR0, mPar, stL, mAsg, gTp, gC, gN, gZ, fInG, mTold, L2.atI, L2.ixN, ft_state, ft_until, ft_since, ft_moves, ft_stands, ft_again, ft_is_slow, ft_agains, ft_opened, ft_now, c_STATES_OF_DOOR, ss_STATES_OF_DOOR]
  | cg =>
    have q1 : D.by_ = D.si + m * (if D.sl then 2 else 1) := by simp [Dr.by_, Dr.nxI, hst, hDm]
    have q2 : D.how d1.nw = (1000 * (m * (if D.sl then 2 else 1) - (d1.nw - D.si))).fdiv (m * (if D.sl then 2 else 1)) := by simp [Dr.how, hst, hDm]
    have q3 : D.nx = .int (D.si + m * (if D.sl then 2 else 1)) := by simp [Dr.nx, Dr.nxI, hst, hDm]
    have q4 : d1.nw + (m - (d1.nw - D.si)) = D.si + m := by omega
    have q5 : d1.nw + (m * 2 - (d1.nw - D.si)) = D.si + m * 2 := by omega
    refine ⟨.int (d1.nw - D.si), .int (m * (if D.sl then 2 else 1) - (d1.nw - D.si)), .int d1.nw, .int ((1000 * (m * (if D.sl then 2 else 1) - (d1.nw - D.si))).fdiv (m * (if D.sl then 2 else 1))), .int (m * (if D.sl then 2 else 1) - (d1.nw - D.si)), .int (m * (if D.sl then 2 else 1)), ?_, hDm, hDs, by rw [gn]; exact hle⟩
    rw [oD]
    cases hsl : D.sl <;> simp only [hDm, hDs, hst, hsl, gn, st_cl, st_og, st_op, st_cg] at gt hw my by_ nx <;> simp [inner, d4_cl, d4_op, d4_cg, d4_og, n4, n5, e1, lg, gt, hw, my, by_, nx, lo, q1, q2, q3, q4, q5, n0, n1, n2, n3, Dr.longT, kv_st, kv_nw, kv_op, kv_ag, kv_sl, kv_si, kv_un, gn, hst, hsl, st_cl, st_og, st_op, st_cg, hDm, hDs, mBody, mSeq, mIf, mBool, mOp2, mOp1, mFld, mVar, mC, okT, Res.bind, Res.st, mRet, mRetN, mSkip, mExp, mSet, mRaise, mIfE, mAnd, mOr, mNot, mOfB, mTru, tru, mAndV, mOrV, mChain, fEqP, deR, dp, teq_ss, teq_ii, teq_bb, teq_nn, teq_sn, teq_ns, teq_in, teq_ni, teq_bn, teq_nb, teq_si, teq_is, teq_sb, teq_bs, teq_ll, teq_tt, teq_ln, teq_tn, teqL_nn, teqL_cc, teqL_nc, teqL_cn, fAdd, fSub, fMul, fDiv, fMod, fPow, fNeg, fLt, fLe, fGt, fGe, fIs, fIsN, isNon, smallI, mTup, mLst, mLstR, mCons, mNil, mApp, mCall, mMeth, mMake, mSetFld, putFld, rdFld, mAugFld, fIAdd, Res.putTo, mSetSub, fPut, fIx, fTix, fstIx, fAbs, fMax2, fMin2, fInt, mBm, isDR, fUpd, dcOf, isRef, lsW, lsOf, kEq, isKey, mDct, mPairs, okD, mDctR, mDctR0, mPar, stL, mAsg, gTp, gC, gN, gZ, fInG, mTold, L2.atI, L2.ixN, ft_state, ft_until, ft_since, ft_moves, ft_stands, ft_again, ft_is_slow, ft_agains, ft_opened, ft_now, c_STATES_OF_DOOR, ss_STATES_OF_DOOR]
end Mi
namespace Mi
open PySem PySem.Spec PyProof.Rows
def Dr.new (m s g : Int) : Dr := ⟨m, s, g, .cl, 0, 0, 0, false, 0, 0⟩
theorem init_eq {M : Hs} {i : Nat} {m s g : Int} (h : M[i]? = some (.ins 2 (List.replicate 10 .un))) (h1 : 1 ≤ m) (h2 : 1 ≤ s) (h3 : 0 ≤ g) : g_Door_init [.ref i, .int m, .int s, .int g] M = .ok .non (M.set i (Dr.new m s g).ob) := by
  have gs : ∀ x, (M.set i x)[i]? = some x := fun _ => get_set h
  have n1 : ¬ (if s < m then s else m) < 1 := by split <;> omega
  have n2 : ¬ g < 0 := by omega
  have h' : M[i]? = some (.ins 2 [.un, .un, .un, .un, .un, .un, .un, .un, .un, .un]) := h
  simp [g_Door_init, b_Door_init, h', gs, n1, n2, Dr.ob, Dr.new, St4.s, List.set_set, mBody, mSeq, mIf, mBool, mOp2, mOp1, mFld, mVar, mC, okT, Res.bind, Res.st, mRet, mRetN, mSkip, mExp, mSet, mRaise, mIfE, mAnd, mOr, mNot, mOfB, mTru, tru, mAndV, mOrV, mChain, fEqP, deR, dp, teq_ss, teq_ii, teq_bb, teq_nn, teq_sn, teq_ns, teq_in, teq_ni, teq_bn, teq_nb, teq_si, teq_is, teq_sb, teq_bs, teq_ll, teq_tt, teq_ln, teq_tn, teqL_nn, teqL_cc, teqL_nc, teqL_cn, fAdd, fSub, fMul, fDiv, fMod, fPow, fNeg, fLt, fLe, fGt, fGe, fIs, fIsN, isNon, smallI, mTup, mLst, mLstR, mCons, mNil, mApp, mCall, mMeth, mMake, mSetFld, putFld, rdFld, mAugFld, fIAdd, Res.putTo, mSetSub, fPut, fIx, fTix, fstIx, fAbs, fMax2, fMin2, fInt, mBm, isDR, fUpd, dcOf, isRef, lsW, lsOf, kEq, isKey, mDct, mPairs, okD, mDctR, mDctR0, mPar, stL, mAsg, gTp, gC, gN, gZ, fInG, mTold, L2.atI, L2.ixN, ft_state, ft_until, ft_since, ft_moves, ft_stands, ft_again, ft_is_slow, ft_agains, ft_opened, ft_now, c_STATES_OF_DOOR, ss_STATES_OF_DOOR]
theorem stand_eq {M : Hs} {p s l m : Int} (h1 : 0 ≤ p) (h2 : 0 ≤ s) (h3 : 1 ≤ l) (h4 : l ≤ m) (h5 : p < 100) : g_stand_for [.int p, .int s, .int l, .int m] M = .ok (.int (if (if p * s < m then p * s else m) > l then (if p * s < m then p * s else m) else l)) M := by
  have n1 : ¬ (if s < p then s else p) < 0 := by split <;> omega
  have n2 : ¬ l < 1 := by omega
  have n3 : ¬ m < l := by omega
  have n4 : -18446744073709551616 < p ∧ p < 18446744073709551616 := by omega
  simp [g_stand_for, b_stand_for, n1, n2, n3, n4, mBody, mSeq, mIf, mBool, mOp2, mOp1, mFld, mVar, mC, okT, Res.bind, Res.st, mRet, mRetN, mSkip, mExp, mSet, mRaise, mIfE, mAnd, mOr, mNot, mOfB, mTru, tru, mAndV, mOrV, mChain, fEqP, deR, dp, teq_ss, teq_ii, teq_bb, teq_nn, teq_sn, teq_ns, teq_in, teq_ni, teq_bn, teq_nb, teq_si, teq_is, teq_sb, teq_bs, teq_ll, teq_tt, teq_ln, teq_tn, teqL_nn, teqL_cc, teqL_nc, teqL_cn, fAdd, fSub, fMul, fDiv, fMod, fPow, fNeg, fLt, fLe, fGt, fGe, fIs, fIsN, isNon, smallI, mTup, mLst, mLstR, mCons, mNil, mApp, mCall, mMeth, mMake, mSetFld, putFld, rdFld, mAugFld, fIAdd, Res.putTo, mSetSub, fPut, fIx, fTix, fstIx, fAbs, fMax2, fMin2, fInt, mBm, isDR, fUpd, dcOf, isRef, lsW, lsOf, kEq, isKey, mDct, mPairs, okD, mDctR, mDctR0, mPar, stL, mAsg, gTp, gC, gN, gZ, fInG, mTold, L2.atI, L2.ixN, ft_state, ft_until, ft_since, ft_moves, ft_stands, ft_again, ft_is_slow, ft_agains, ft_opened, ft_now, c_STATES_OF_DOOR, ss_STATES_OF_DOOR]
theorem mid_eq {l m x : Int} (h : l ≤ m) : sortI [l, m, x] = if x ≤ l then [x, l, m] else if x ≤ m then [l, x, m] else [l, m, x] := by
  simp only [sortI, insI]
  repeat' split
  all_goals (simp only [insI])
  repeat' split
  all_goals first | rfl | (exfalso; omega) | (simp only [List.cons.injEq, and_true, true_and]; omega)
theorem mid_ex {l m x : Int} (h : l ≤ m) : ∃ u w, sortI [l, m, x] = [u, if (if x < m then x else m) > l then (if x < m then x else m) else l, w] := by
  rw [mid_eq h]
  repeat' split
  all_goals first | exact ⟨_, _, rfl⟩ | (exfalso; omega) | (refine ⟨l, m, ?_⟩; simp only [List.cons.injEq, and_true, true_and]; omega) | (refine ⟨l, x, ?_⟩; simp only [List.cons.injEq, and_true, true_and]; omega)
theorem st_is (s : St4) : (s.s = [99, 108, 111, 115, 101, 100]) = (s = .cl) := by cases s <;> simp [St4.s]
theorem both_eq {L X : Ob} {d e : Dr} {t : Int} (h1 : d.nw ≤ t) (h2 : e.nw ≤ t) : g_both_closed [.tup [.ref 1, .ref 3], .int t] [L, d.ob, X, e.ob] = .ok (.bl (decide ((d.go t).st = .cl) && decide ((e.go t).st = .cl))) [L, (d.go t).ob, X, (e.go t).ob] := by
  have m1 : g_Door_may_move [.ref 1, .int t] [L, d.ob, X, e.ob] = .ok (.bl (decide ((d.go t).st = .cl))) [L, (d.go t).ob, X, e.ob] := may_eq (i := 1) rfl (by omega)
  have m2 : g_Door_may_move [.ref 3, .int t] [L, (d.go t).ob, X, e.ob] = .ok (.bl (decide ((e.go t).st = .cl))) [L, (d.go t).ob, X, (e.go t).ob] := may_eq (M := [L, (d.go t).ob, X, e.ob]) (i := 3) rfl (by omega)
  have n1 : ¬ t < d.nw := by omega
  have n2 : ¬ t < e.nw := by omega
  generalize d.go t = D at m1 m2
  generalize e.go t = E at m1 m2
  have o1 : d.ob = .ins 2 [.int d.m, .int d.s, .int d.g, .str d.st.s, .int d.si, .int d.un, .int d.ag, .bl d.sl, .int d.op, .int d.nw] := rfl
  have o2 : e.ob = .ins 2 [.int e.m, .int e.s, .int e.g, .str e.st.s, .int e.si, .int e.un, .int e.ag, .bl e.sl, .int e.op, .int e.nw] := rfl
  have o3 : D.ob = .ins 2 [.int D.m, .int D.s, .int D.g, .str D.st.s, .int D.si, .int D.un, .int D.ag, .bl D.sl, .int D.op, .int D.nw] := rfl
  have hl : 2 ≤ lineN := by decide
  rw [o1, o2] at m1 ⊢
  rw [o3] at m1 m2 ⊢
  rw [o2] at m2
  simp [g_both_closed, b_both_closed, m1, m2, n1, n2, hl, mFor, mIV, srcV, forS, forL, mLC, lcK, lcS, lcL, lcT, wipeT, mYes, fAll, bools?, mBody, mSeq, mIf, mBool, mOp2, mOp1, mFld, mVar, mC, okT, Res.bind, Res.st, mRet, mRetN, mSkip, mExp, mSet, mRaise, mIfE, mAnd, mOr, mNot, mOfB, mTru, tru, mAndV, mOrV, mChain, fEqP, deR, dp, teq_ss, teq_ii, teq_bb, teq_nn, teq_sn, teq_ns, teq_in, teq_ni, teq_bn, teq_nb, teq_si, teq_is, teq_sb, teq_bs, teq_ll, teq_tt, teq_ln, teq_tn, teqL_nn, teqL_cc, teqL_nc, teqL_cn, fAdd, fSub, fMul, fDiv, fMod, fPow, fNeg, fLt, fLe, fGt, fGe, fIs, fIsN, isNon, smallI, mTup, mLst, mLstR, mCons, mNil, mApp, mCall, mMeth, mMake, mSetFld, putFld, rdFld, mAugFld, fIAdd, Res.putTo, mSetSub, fPut, fIx, fTix, fstIx, fAbs, fMax2, fMin2, fInt, mBm, isDR, fUpd, dcOf, isRef, lsW, lsOf, kEq, isKey, mDct, mPairs, okD, mDctR, mDctR0, mPar, stL, mAsg, gTp, gC, gN, gZ, fInG, mTold, L2.atI, L2.ixN, ft_state, ft_until, ft_since, ft_moves, ft_stands, ft_again, ft_is_slow, ft_agains, ft_opened, ft_now, c_STATES_OF_DOOR, ss_STATES_OF_DOOR]

theorem tail_eq {a b c m s : Int} {d : Dr} (h0 : 0 ≤ d.nw) (x0 x1 g x5 x6 l x8 n op x12 p x15 x16 x17 st w y9 y18 : T) :
    ∃ τ M0 M1 M2 M3, tail3 [x0, x1, .ref 0, .ref 1, g, x5, x6, l, x8, y9, n, op, x12, .ref 2, p, x15, x16, x17, y18, st, w] [.lst [.int a, .int b, .int c], d.ob, .dct d.kv] = .nx τ [M0, M1, M2, M3] := by
  have i1 : g_Door_init [.ref 3, .int 1, .int 1, .int 1] [.lst [.int a, .int b, .int c], d.ob, .dct d.kv, .ins 2 (List.replicate 10 .un)] = .ok .non [.lst [.int a, .int b, .int c], d.ob, .dct d.kv, (Dr.new 1 1 1).ob] := init_eq (i := 3) rfl (by decide) (by decide) (by decide)
  obtain ⟨k1, a1, b1, c1, k10, k11, e1⟩ := roll_c [d.ob, .dct d.kv, (Dr.new 1 1 1).ob] a b c (many := 9) (by decide) (by decide)
  obtain ⟨k2, a2, b2', c2, k20, k21, e2⟩ := roll_c [d.ob, .dct d.kv, (Dr.new 1 1 1).ob] a1 b1 c1 (many := 2) (by decide) (by decide)
  have op1 : g_Door_open_it [.ref 3, .int 0, .bl true] [.lst [.int a2, .int b2', .int c2], d.ob, .dct d.kv, (Dr.new 1 1 1).ob] = .ok .non [.lst [.int a2, .int b2', .int c2], d.ob, .dct d.kv, (((Dr.new 1 1 1).go 0).opn 0).ob] := by
    rw [open_eq (i := 3) (d := Dr.new 1 1 1) rfl, if_neg (by decide), if_neg (by intro z; rcases z with z | z <;> revert z <;> decide)]
    rfl
  have n1 : (((Dr.new 1 1 1).go 0).opn 0).nw = 0 := rfl
  have n2 : (Dr.new 1 1 1).nw = 0 := rfl
  obtain ⟨o, ho⟩ : ∃ o : Dr, o = if k2 = 0 then (((Dr.new 1 1 1).go 0).opn 0) else Dr.new 1 1 1 := ⟨_, rfl⟩
  have on : o.nw = 0 := by rw [ho]; split <;> rfl
  have bo := both_eq (L := .lst [.int a2, .int b2', .int c2]) (X := .dct d.kv) (d := d) (e := o) (t := d.nw + k1) (by omega) (by omega)
  obtain ⟨k3, a3, b3, c3, k30, k31, e3⟩ := roll_c [(d.go (d.nw + k1)).ob, .dct d.kv, (o.go (d.nw + k1)).ob] a2 b2' c2 (many := 9) (by decide) (by decide)
  obtain ⟨k4, a4, b4, c4, k40, k41, e4⟩ := roll_c [(d.go (d.nw + k1)).ob, .dct d.kv, (o.go (d.nw + k1)).ob] a3 b3 c3 (many := 4) (by decide) (by decide)
  obtain ⟨k5, a5, b5, c5, k50, k51, e5⟩ := roll_c [(d.go (d.nw + k1)).ob, .dct d.kv, (o.go (d.nw + k1)).ob] a4 b4 c4 (many := 6) (by decide) (by decide)
  obtain ⟨k6, a6, b6, c6, k60, k61, e6⟩ := roll_c [(d.go (d.nw + k1)).ob, .dct d.kv, (o.go (d.nw + k1)).ob] a5 b5 c5 (many := 9) (by decide) (by decide)
  have sf := stand_eq (M := [.lst [.int a6, .int b6, .int c6], (d.go (d.nw + k1)).ob, .dct d.kv, (o.go (d.nw + k1)).ob]) (p := k3) (s := k4) (l := 1 + k5) (m := 1 + k5 + k6) k30 k40 (by omega) (by omega) (by omega)
  obtain ⟨u, w2, md⟩ := mid_ex (l := 1 + k5) (m := 1 + k5 + k6) (x := k3 * k4) (by omega)
  generalize (if (if k3 * k4 < 1 + k5 + k6 then k3 * k4 else 1 + k5 + k6) > 1 + k5 then (if k3 * k4 < 1 + k5 + k6 then k3 * k4 else 1 + k5 + k6) else 1 + k5) = vv at sf md
  have g1 := go_nw d (d.nw + k1)
  have g2 := go_nw o (d.nw + k1)
  have sm : -18446744073709551616 < k3 ∧ k3 < 18446744073709551616 := by omega
  generalize d.go (d.nw + k1) = D at bo e3 e4 e5 e6 sf g1
  generalize o.go (d.nw + k1) = O at bo e3 e4 e5 e6 sf g2
  have oD : D.ob = .ins 2 [.int D.m, .int D.s, .int D.g, .str D.st.s, .int D.si, .int D.un, .int D.ag, .bl D.sl, .int D.op, .int D.nw] := rfl
  have oO : O.ob = .ins 2 [.int O.m, .int O.s, .int O.g, .str O.st.s, .int O.si, .int O.un, .int O.ag, .bl O.sl, .int O.op, .int O.nw] := rfl
  obtain ⟨fs, of⟩ : ∃ fs, (Dr.new 1 1 1).ob = .ins 2 fs := ⟨_, rfl⟩
  obtain ⟨gs, og⟩ : ∃ fs, o.ob = .ins 2 fs := ⟨_, rfl⟩
  have hR : List.replicate 10 T.un = [.un, .un, .un, .un, .un, .un, .un, .un, .un, .un] := rfl
  refine ⟨[x0, x1, .ref 0, .ref 1, g, .int (d.nw + k1), .int (1 + k5), l, .int (1 + k5 + k6), y9, n, op, .ref 3, .ref 2, p, .int k3, .int k4, .bl (decide (D.st = .cl) && decide (O.st = .cl)), y18, st, w], .lst [.int a6, .int b6, .int c6], D.ob, .dct d.kv, O.ob, ?_⟩
  simp only [oD, oO] at bo e3 e4 e5 e6 sf ⊢
  by_cases hk : k2 = 0
  · rw [if_pos hk] at ho
    subst ho
    rw [of, hR] at i1
    rw [of] at e1 e2 op1
    by_cases h1 : D.st = .cl <;> simp only [h1, g1, g2] at bo e3 e4 e5 e6 sf <;> simp [tail3, i1, e1, e2, e3, e4, e5, e6, op1, bo, sf, md, kv_nw, hk, h1, g1, g2, sm, st_is, fSortedI, lsI, intsT, mBody, mSeq, mIf, mBool, mOp2, mOp1, mFld, mVar, mC, okT, Res.bind, Res.st, mRet, mRetN, mSkip, mExp, mSet, mRaise, mIfE, mAnd, mOr, mNot, mOfB, mTru, tru, mAndV, mOrV, mChain, fEqP, deR, dp, teq_ss, teq_ii, teq_bb, teq_nn, teq_sn, teq_ns, teq_in, teq_ni, teq_bn, teq_nb, teq_si, teq_is, teq_sb, teq_bs, teq_ll, teq_tt, teq_ln, teq_tn, teqL_nn, teqL_cc, teqL_nc, teqL_cn, fAdd, fSub, fMul, fDiv, fMod, fPow, fNeg, fLt, fLe, fGt, fGe, fIs, fIsN, isNon, smallI, mTup, mLst, mLstR, mCons, mNil, mApp, mCall, mMeth, mMake, mSetFld, putFld, rdFld, mAugFld, fIAdd, Res.putTo, mSetSub, fPut, fIx, fTix, fstIx, fAbs, fMax2, fMin2, fInt, mBm, isDR, fUpd, dcOf, isRef, lsW, lsOf, kEq, isKey, mDct, mPairs, okD, mDctR, mDctR0, mPar, stL, mAsg, gTp, gC, gN, gZ, fInG, mTold, L2.atI, L2.ixN, ft_state, ft_until, ft_since, ft_moves, ft_stands, ft_again, ft_is_slow, ft_agains, ft_opened, ft_now, c_STATES_OF_DOOR, ss_STATES_OF_DOOR]
  · rw [if_neg hk] at ho
    subst ho
    rw [of, hR] at i1
    rw [of] at e1 e2 bo
    by_cases h1 : D.st = .cl <;> simp only [h1, g1, g2] at bo e3 e4 e5 e6 sf <;> simp [tail3, i1, e1, e2, e3, e4, e5, e6, bo, sf, md, kv_nw, hk, h1, g1, g2, sm, st_is, fSortedI, lsI, intsT, mBody, mSeq, mIf, mBool, mOp2, mOp1, mFld, mVar, mC, okT, Res.bind, Res.st, mRet, mRetN, mSkip, mExp, mSet, mRaise, mIfE, mAnd, mOr, mNot, mOfB, mTru, tru, mAndV, mOrV, mChain, fEqP, deR, dp, teq_ss, teq_ii, teq_bb, teq_nn, teq_sn, teq_ns, teq_in, teq_ni, teq_bn, teq_nb, teq_si, teq_is, teq_sb, teq_bs, teq_ll, teq_tt, teq_ln, teq_tn, teqL_nn, teqL_cc, teqL_nc, teqL_cn, fAdd, fSub, fMul, fDiv, fMod, fPow, fNeg, fLt, fLe, fGt, fGe, fIs, fIsN, isNon, smallI, mTup, mLst, mLstR, mCons, mNil, mApp, mCall, mMeth, mMake, mSetFld, putFld, rdFld, mAugFld, fIAdd, Res.putTo, mSetSub, fPut, fIx, fTix, fstIx, fAbs, fMax2, fMin2, fInt, mBm, isDR, fUpd, dcOf, isRef, lsW, lsOf, kEq, isKey, mDct, mPairs, okD, mDctR, mDctR0, mPar, stL, mAsg, gTp, gC, gN, gZ, fInG, mTold, L2.atI, L2.ixN, ft_state, ft_until, ft_since, ft_moves, ft_stands, ft_again, ft_is_slow, ft_agains, ft_opened, ft_now, c_STATES_OF_DOOR, ss_STATES_OF_DOOR]

theorem rounds_eq (ns : List Int) : ∃ a b c, g_law_rounds [.fix (ns.map T.int), .int 1] [] = .ok (.lst [.ref 0]) [.lst [.int a, .int b, .int c]] := by
  have dice : ∀ n : Int, ∃ a b c, g_law_dice [.int n] [] = .ok (.ref 0) [.lst [.int a, .int b, .int c]] := fun n => by
    by_cases h1 : -10 < n
    · by_cases h2 : n < 10
      · exact ⟨_, _, _, by simp [g_law_dice, b_law_dice, h1, h2, mBody, mSeq, mIf, mBool, mOp2, mOp1, mFld, mVar, mC, okT, Res.bind, Res.st, mRet, mRetN, mSkip, mExp, mSet, mRaise, mIfE, mAnd, mOr, mNot, mOfB, mTru, tru, mAndV, mOrV, mChain, fEqP, deR, dp, teq_ss, teq_ii, teq_bb, teq_nn, teq_sn, teq_ns, teq_in, teq_ni, teq_bn, teq_nb, teq_si, teq_is, teq_sb, teq_bs, teq_ll, teq_tt, teq_ln, teq_tn, teqL_nn, teqL_cc, teqL_nc, teqL_cn, fAdd, fSub, fMul, fDiv, fMod, fPow, fNeg, fLt, fLe, fGt, fGe, fIs, fIsN, isNon, smallI, mTup, mLst, mLstR, mCons, mNil, mApp, mCall, mMeth, mMake, mSetFld, putFld, rdFld, mAugFld, fIAdd, Res.putTo, mSetSub, fPut, fIx, fTix, fstIx, fAbs, fMax2, fMin2, fInt, mBm, isDR, fUpd, dcOf, isRef, lsW, lsOf, kEq, isKey, mDct, mPairs, okD, mDctR, mDctR0, mPar, stL, mAsg, gTp, gC, gN, gZ, fInG, mTold, L2.atI, L2.ixN, ft_state, ft_until, ft_since, ft_moves, ft_stands, ft_again, ft_is_slow, ft_agains, ft_opened, ft_now, c_STATES_OF_DOOR, ss_STATES_OF_DOOR]; exact ⟨rfl, rfl, rfl⟩⟩
      · exact ⟨_, _, _, by simp [g_law_dice, b_law_dice, h1, h2, mBody, mSeq, mIf, mBool, mOp2, mOp1, mFld, mVar, mC, okT, Res.bind, Res.st, mRet, mRetN, mSkip, mExp, mSet, mRaise, mIfE, mAnd, mOr, mNot, mOfB, mTru, tru, mAndV, mOrV, mChain, fEqP, deR, dp, teq_ss, teq_ii, teq_bb, teq_nn, teq_sn, teq_ns, teq_in, teq_ni, teq_bn, teq_nb, teq_si, teq_is, teq_sb, teq_bs, teq_ll, teq_tt, teq_ln, teq_tn, teqL_nn, teqL_cc, teqL_nc, teqL_cn, fAdd, fSub, fMul, fDiv, fMod, fPow, fNeg, fLt, fLe, fGt, fGe, fIs, fIsN, isNon, smallI, mTup, mLst, mLstR, mCons, mNil, mApp, mCall, mMeth, mMake, mSetFld, putFld, rdFld, mAugFld, fIAdd, Res.putTo, mSetSub, fPut, fIx, fTix, fstIx, fAbs, fMax2, fMin2, fInt, mBm, isDR, fUpd, dcOf, isRef, lsW, lsOf, kEq, isKey, mDct, mPairs, okD, mDctR, mDctR0, mPar, stL, mAsg, gTp, gC, gN, gZ, fInG, mTold, L2.atI, L2.ixN, ft_state, ft_until, ft_since, ft_moves, ft_stands, ft_again, ft_is_slow, ft_agains, ft_opened, ft_now, c_STATES_OF_DOOR, ss_STATES_OF_DOOR]; exact ⟨rfl, rfl, rfl⟩⟩
    · exact ⟨_, _, _, by simp [g_law_dice, b_law_dice, h1, mBody, mSeq, mIf, mBool, mOp2, mOp1, mFld, mVar, mC, okT, Res.bind, Res.st, mRet, mRetN, mSkip, mExp, mSet, mRaise, mIfE, mAnd, mOr, mNot, mOfB, mTru, tru, mAndV, mOrV, mChain, fEqP, deR, dp, teq_ss, teq_ii, teq_bb, teq_nn, teq_sn, teq_ns, teq_in, teq_ni, teq_bn, teq_nb, teq_si, teq_is, teq_sb, teq_bs, teq_ll, teq_tt, teq_ln, teq_tn, teqL_nn, teqL_cc, teqL_nc, teqL_cn, fAdd, fSub, fMul, fDiv, fMod, fPow, fNeg, fLt, fLe, fGt, fGe, fIs, fIsN, isNon, smallI, mTup, mLst, mLstR, mCons, mNil, mApp, mCall, mMeth, mMake, mSetFld, putFld, rdFld, mAugFld, fIAdd, Res.putTo, mSetSub, fPut, fIx, fTix, fstIx, fAbs, fMax2, fMin2, fInt, mBm, isDR, fUpd, dcOf, isRef, lsW, lsOf, kEq, isKey, mDct, mPairs, okD, mDctR, mDctR0, mPar, stL, mAsg, gTp, gC, gN, gZ, fInG, mTold, L2.atI, L2.ixN, ft_state, ft_until, ft_since, ft_moves, ft_stands, ft_again, ft_is_slow, ft_agains, ft_opened, ft_now, c_STATES_OF_DOOR, ss_STATES_OF_DOOR]; exact ⟨rfl, rfl, rfl⟩⟩
  have hl : 1 ≤ lineN := by decide
  cases ns with
  | nil =>
    obtain ⟨a, b, c, e⟩ := dice 0
    refine ⟨a, b, c, ?_⟩
    simp [g_law_rounds, b_law_rounds, e, hl, mSl, mNoP, mPt, fSl, cutL, HT.sIx, mIV, srcV, mLC, lcK, lcS, lcL, lcT, wipeT, mYes, mBody, mSeq, mIf, mBool, mOp2, mOp1, mFld, mVar, mC, okT, Res.bind, Res.st, mRet, mRetN, mSkip, mExp, mSet, mRaise, mIfE, mAnd, mOr, mNot, mOfB, mTru, tru, mAndV, mOrV, mChain, fEqP, deR, dp, teq_ss, teq_ii, teq_bb, teq_nn, teq_sn, teq_ns, teq_in, teq_ni, teq_bn, teq_nb, teq_si, teq_is, teq_sb, teq_bs, teq_ll, teq_tt, teq_ln, teq_tn, teqL_nn, teqL_cc, teqL_nc, teqL_cn, fAdd, fSub, fMul, fDiv, fMod, fPow, fNeg, fLt, fLe, fGt, fGe, fIs, fIsN, isNon, smallI, mTup, mLst, mLstR, mCons, mNil, mApp, mCall, mMeth, mMake, mSetFld, putFld, rdFld, mAugFld, fIAdd, Res.putTo, mSetSub, fPut, fIx, fTix, fstIx, fAbs, fMax2, fMin2, fInt, mBm, isDR, fUpd, dcOf, isRef, lsW, lsOf, kEq, isKey, mDct, mPairs, okD, mDctR, mDctR0, mPar, stL, mAsg, gTp, gC, gN, gZ, fInG, mTold, L2.atI, L2.ixN, ft_state, ft_until, ft_since, ft_moves, ft_stands, ft_again, ft_is_slow, ft_agains, ft_opened, ft_now, c_STATES_OF_DOOR, ss_STATES_OF_DOOR]
  | cons n ns =>
    obtain ⟨a, b, c, e⟩ := dice n
    refine ⟨a, b, c, ?_⟩
    simp [g_law_rounds, b_law_rounds, e, hl, mSl, mNoP, mPt, fSl, cutL, HT.sIx, mIV, srcV, mLC, lcK, lcS, lcL, lcT, wipeT, mYes, mBody, mSeq, mIf, mBool, mOp2, mOp1, mFld, mVar, mC, okT, Res.bind, Res.st, mRet, mRetN, mSkip, mExp, mSet, mRaise, mIfE, mAnd, mOr, mNot, mOfB, mTru, tru, mAndV, mOrV, mChain, fEqP, deR, dp, teq_ss, teq_ii, teq_bb, teq_nn, teq_sn, teq_ns, teq_in, teq_ni, teq_bn, teq_nb, teq_si, teq_is, teq_sb, teq_bs, teq_ll, teq_tt, teq_ln, teq_tn, teqL_nn, teqL_cc, teqL_nc, teqL_cn, fAdd, fSub, fMul, fDiv, fMod, fPow, fNeg, fLt, fLe, fGt, fGe, fIs, fIsN, isNon, smallI, mTup, mLst, mLstR, mCons, mNil, mApp, mCall, mMeth, mMake, mSetFld, putFld, rdFld, mAugFld, fIAdd, Res.putTo, mSetSub, fPut, fIx, fTix, fstIx, fAbs, fMax2, fMin2, fInt, mBm, isDR, fUpd, dcOf, isRef, lsW, lsOf, kEq, isKey, mDct, mPairs, okD, mDctR, mDctR0, mPar, stL, mAsg, gTp, gC, gN, gZ, fInG, mTold, L2.atI, L2.ixN, ft_state, ft_until, ft_since, ft_moves, ft_stands, ft_again, ft_is_slow, ft_agains, ft_opened, ft_now, c_STATES_OF_DOOR, ss_STATES_OF_DOOR]
end Mi
namespace Mi
open PySem PySem.Spec PyProof.Rows
def okTrue (r : Res T) : Bool := match r with
  | .ok (.bl true) _ => true
  | _ => false
theorem okTrue_is {r : Res T} (h : okTrue r = true) : ∃ M, r = .ok (.bl true) M := by
  unfold okTrue at h
  split at h
  · exact ⟨_, rfl⟩
  · cases h
theorem plain_ok (M0 M1 M2 M3 : Ob) : okTrue (g_law_plain [] [M0, M1, M2, M3]) = true := by kernel_rfl
theorem loop_eq {m s : Int} (h1 : 1 ≤ m) (h4 : m ≤ 4) : ∀ (ts : List T) (a b c : Int) (d : Dr), d.m = m → d.s = s → 0 ≤ d.nw → ∀ (x0 x1 g x5 x6 l x8 n op x12 p x15 x16 x17 st w : T),
    ∃ a' b' c' d' g' l' n' op' p' w' st', forL (gN 19) inner ts [x0, x1, .ref 0, .ref 1, g, x5, x6, l, x8, .int m, n, op, x12, .ref 2, p, x15, x16, x17, .int s, st, w] [.lst [.int a, .int b, .int c], d.ob, .dct d.kv] =
      .nx [x0, x1, .ref 0, .ref 1, g', x5, x6, l', x8, .int m, n', op', x12, .ref 2, p', x15, x16, x17, .int s, st', w'] [.lst [.int a', .int b', .int c'], Dr.ob d', .dct (Dr.kv d')] ∧ 0 ≤ d'.nw
  | [], a, b, c, d, hm, hs, hn, x0, x1, g, x5, x6, l, x8, n, op, x12, p, x15, x16, x17, st, w => ⟨a, b, c, d, g, l, n, op, p, w, st, rfl, hn⟩
  | t :: ts, a, b, c, d, hm, hs, hn, x0, x1, g, x5, x6, l, x8, n, op, x12, p, x15, x16, x17, st, w => by
    obtain ⟨a1, b1, c1, d1, g1, l1, n1, op1, p1, w1, e1, hm1, hs1, hn1⟩ := inner_eq (a := a) (b := b) (c := c) hm hs h1 h4 x0 x1 g x5 x6 l x8 n op x12 p x15 x16 x17 t w
    obtain ⟨a2, b2', c2, d2, g2, l2, n2, op2, p2, w2, st2, e2, hn2⟩ := loop_eq h1 h4 ts a1 b1 c1 d1 hm1 hs1 (Int.le_trans hn hn1) x0 x1 g1 x5 x6 l1 x8 n1 op1 x12 p1 x15 x16 x17 t w1
    refine ⟨a2, b2', c2, d2, g2, l2, n2, op2, p2, w2, st2, ?_, hn2⟩
    unfold forL
    show (match inner [x0, x1, .ref 0, .ref 1, g, x5, x6, l, x8, .int m, n, op, x12, .ref 2, p, x15, x16, x17, .int s, t, w] [.lst [.int a, .int b, .int c], d.ob, .dct d.kv] with
      | .nx τ2 M2 => forL (gN 19) inner ts τ2 M2
      | .ct τ2 M2 => forL (gN 19) inner ts τ2 M2
      | .bk τ2 M2 => .nx τ2 M2
      | r => r) = _
    rw [e1]
    exact e2
theorem kv_new (m s g : Int) : dMerge [] [(.str [109, 111, 118, 101, 115], .int m), (.str [115, 116, 97, 110, 100, 115], .int s), (.str [97, 103, 97, 105, 110], .int g), (.str [115, 116, 97, 116, 101], .str [99, 108, 111, 115, 101, 100]), (.str [115, 105, 110, 99, 101], .int 0), (.str [117, 110, 116, 105, 108], .int 0), (.str [97, 103, 97, 105, 110, 115], .int 0), (.str [115, 108, 111, 119], .bl false), (.str [111, 112, 101, 110, 101, 100], .int 0), (.str [110, 111, 119], .int 0)] = (Dr.new m s g).kv := rfl
theorem outer_eq (a b c : Int) (x0 : T) : ∃ τ M0 M1 M2 M3, outer [x0, .un, .ref 0, .un, .un, .un, .un, .un, .un, .un, .un, .un, .un, .un, .un, .un, .un, .un, .un, .un, .un] [.lst [.int a, .int b, .int c]] = .nx τ [M0, M1, M2, M3] := by
  obtain ⟨k1, a1, b1, c1, k10, k11, e1⟩ := roll_c [] a b c (many := 4) (by decide) (by decide)
  obtain ⟨k2, a2, b2', c2, k20, k21, e2⟩ := roll_c [] a1 b1 c1 (many := 6) (by decide) (by decide)
  obtain ⟨k3, a3, b3, c3, k30, k31, e3⟩ := roll_c [] a2 b2' c2 (many := 3) (by decide) (by decide)
  have i1 : g_Door_init [.ref 1, .int (1 + k1), .int (1 + k2), .int k3] [.lst [.int a3, .int b3, .int c3], .ins 2 (List.replicate 10 .un)] = .ok .non [.lst [.int a3, .int b3, .int c3], (Dr.new (1 + k1) (1 + k2) k3).ob] := init_eq (i := 1) rfl (by omega) (by omega) k30
  have hR : List.replicate 10 T.un = [.un, .un, .un, .un, .un, .un, .un, .un, .un, .un] := rfl
  rw [hR] at i1
  obtain ⟨k4, a4, b4, c4, k40, k41, e4⟩ := roll_c [(Dr.new (1 + k1) (1 + k2) k3).ob, .dct (Dr.new (1 + k1) (1 + k2) k3).kv] a3 b3 c3 (many := 30) (by decide) (by decide)
  have ok : okI k4 = true := by simp [okI]; omega
  obtain ⟨a5, b5, c5, d5, g5, l5, n5, op5, p5, w5, st5, e5, hn5⟩ := loop_eq (m := 1 + k1) (s := 1 + k2) (by omega) (by omega) (rngL 0 1 k4.toNat) a4 b4 c4 (Dr.new (1 + k1) (1 + k2) k3) rfl rfl (Int.le_refl _) x0 (.int k3) .un .un .un .un .un .un .un .un .un .un .un .un .un .un
  obtain ⟨τ, M0, M1, M2, M3, e6⟩ := tail_eq (a := a5) (b := b5) (c := c5) (m := 0) (s := 0) (d := d5) hn5 x0 (.int k3) g5 .un .un l5 .un n5 op5 .un p5 .un .un .un st5 w5 (.int (1 + k1)) (.int (1 + k2))
  refine ⟨τ, M0, M1, M2, M3, ?_⟩
  obtain ⟨fs, of⟩ : ∃ fs, (Dr.new (1 + k1) (1 + k2) k3).ob = .ins 2 fs := ⟨_, rfl⟩
  simp only [of] at i1 e4 e5
  simp [outer, e1, e2, e3, i1, hR, kv_new, e4, ok, e5, e6, mFor, mIA, rngV1, forS, mBody, mSeq, mIf, mBool, mOp2, mOp1, mFld, mVar, mC, okT, Res.bind, Res.st, mRet, mRetN, mSkip, mExp, mSet, mRaise, mIfE, mAnd, mOr, mNot, mOfB, mTru, tru, mAndV, mOrV, mChain, fEqP, deR, dp, teq_ss, teq_ii, teq_bb, teq_nn, teq_sn, teq_ns, teq_in, teq_ni, teq_bn, teq_nb, teq_si, teq_is, teq_sb, teq_bs, teq_ll, teq_tt, teq_ln, teq_tn, teqL_nn, teqL_cc, teqL_nc, teqL_cn, fAdd, fSub, fMul, fDiv, fMod, fPow, fNeg, fLt, fLe, fGt, fGe, fIs, fIsN, isNon, smallI, mTup, mLst, mLstR, mCons, mNil, mApp, mCall, mMeth, mMake, mSetFld, putFld, rdFld, mAugFld, fIAdd, Res.putTo, mSetSub, fPut, fIx, fTix, fstIx, fAbs, fMax2, fMin2, fInt, mBm, isDR, fUpd, dcOf, isRef, lsW, lsOf, kEq, isKey, mDct, mPairs, okD, mDctR, mDctR0, mPar, stL, mAsg, gTp, gC, gN, gZ, fInG, mTold, L2.atI, L2.ixN, ft_state, ft_until, ft_since, ft_moves, ft_stands, ft_again, ft_is_slow, ft_agains, ft_opened, ft_now, c_STATES_OF_DOOR, ss_STATES_OF_DOOR]
theorem lawP (ns : List Int) (_ : ns.length ≤ 63) (_ : ∀ z ∈ ns, PySem.Builtin.Int.intBits z ≤ 1048576) : ∃ M, g_law [.fix (ns.map T.int)] [] = .ok (.bl true) M := by
  obtain ⟨a, b, c, e⟩ := rounds_eq ns
  obtain ⟨τ, M0, M1, M2, M3, e2⟩ := outer_eq a b c (.fix (ns.map T.int))
  obtain ⟨M, e3⟩ := okTrue_is (plain_ok M0 M1 M2 M3)
  refine ⟨M, ?_⟩
  unfold g_law
  rw [b_law_eq]
  simp [e, e2, e3, mFor, mIV, srcV, forS, forL, mBody, mSeq, mIf, mBool, mOp2, mOp1, mFld, mVar, mC, okT, Res.bind, Res.st, mRet, mRetN, mSkip, mExp, mSet, mRaise, mIfE, mAnd, mOr, mNot, mOfB, mTru, tru, mAndV, mOrV, mChain, fEqP, deR, dp, teq_ss, teq_ii, teq_bb, teq_nn, teq_sn, teq_ns, teq_in, teq_ni, teq_bn, teq_nb, teq_si, teq_is, teq_sb, teq_bs, teq_ll, teq_tt, teq_ln, teq_tn, teqL_nn, teqL_cc, teqL_nc, teqL_cn, fAdd, fSub, fMul, fDiv, fMod, fPow, fNeg, fLt, fLe, fGt, fGe, fIs, fIsN, isNon, smallI, mTup, mLst, mLstR, mCons, mNil, mApp, mCall, mMeth, mMake, mSetFld, putFld, rdFld, mAugFld, fIAdd, Res.putTo, mSetSub, fPut, fIx, fTix, fstIx, fAbs, fMax2, fMin2, fInt, mBm, isDR, fUpd, dcOf, isRef, lsW, lsOf, kEq, isKey, mDct, mPairs, okD, mDctR, mDctR0, mPar, stL, mAsg, gTp, gC, gN, gZ, fInG, mTold, L2.atI, L2.ixN, ft_state, ft_until, ft_since, ft_moves, ft_stands, ft_again, ft_is_slow, ft_agains, ft_opened, ft_now, c_STATES_OF_DOOR, ss_STATES_OF_DOOR]
end Mi
open PySem PySem.W PyProof.Rows
set_option maxRecDepth 100000 in
set_option maxHeartbeats 0 in
theorem PySem.Challenge.cw_liftstack_k03_doors_that_move_holds : PySem.Challenge.rw_liftstack_k03_doors_that_move.Holds := by
  w_on; o_law; k_head; (case hw => w_witness2)
  k_fill
  refine LamX.walk_ofTs (l := PySem.Challenge.rw_liftstack_k03_doors_that_move) (n := 63) (k := 8) (x := "script") (CX := fun w => L2.CX PySem.Challenge.pw_liftstack_k03_doors_that_move w) rfl (by decide) rfl ⟨rfl, by decide, by decide⟩ (fun w h Y => PySem.W.km_in_of Y) ?F (fun _ _ _ _ _ q => by obtain ⟨_, _, _, _, _, _, _, _, _, _, _, _, z⟩ := q; exact z)
  case F =>
    intro w mg fa h Y KX G hmg
    have hT := PySem.W.km_tabs_of Y
    refine' Mi.all_mk KX G hmg ?aC0 ?xe0 ?xk0 ?xs0 ?xt0 ?aC1 ?xe1 ?xk1 ?xs1 ?xt1 ?aC2 ?pg2 ?hd2 ?po2 ?sa2 ?mk2 ?kc2 ?na2_moves ?na2_stands ?na2_again ?na2_state ?na2_since ?na2_until ?na2_agains ?na2_is_slow ?na2_opened ?na2_now ?a14 ?l14 ?c14 ?k14 ?a16 ?l16 ?c16 ?k16 ?a0 ?i0 ?l0 ?c0 ?k0 ?a3 ?i3 ?l3 ?c3 ?k3 ?a2 ?i2 ?l2 ?c2 ?k2 ?a1 ?i1 ?l1 ?c1 ?k1 ?a5 ?i5 ?l5 ?c5 ?k5 ?a4 ?i4 ?l4 ?c4 ?k4 ?a9 ?i9 ?l9 ?c9 ?k9 ?a11 ?i11 ?l11 ?c11 ?k11 ?a6 ?i6 ?l6 ?c6 ?k6 ?a10 ?i10 ?l10 ?c10 ?k10 ?a13 ?l13 ?c13 ?k13 ?a7 ?i7 ?l7 ?c7 ?k7 ?a8 ?i8 ?l8 ?c8 ?k8 ?a12 ?l12 ?c12 ?k12 ?a17 ?l17 ?c17 ?k17 ?a22 ?l22 ?c22 ?k22 ?a15 ?l15 ?c15 ?k15 ?a18 ?l18 ?c18 ?k18 ?a19 ?l19 ?c19 ?k19 ?a20 ?l20 ?c20 ?k20 ?a21 ?l21 ?c21 ?k21 ?a23 ?l23 ?c23 ?k23 ?e0 ?lC0 ?vC0 ?hC0 ?nC0 ?tC0 ?e1 ?lC1 ?vC1 ?hC1 ?nC1 ?tC1 ?np0_1 ?bi_abs ?bi_all ?bi_int ?bi_max ?bi_min ?bi_range ?bi_sorted ?ag0 ?lg0 ?vg0 ?zg0 ?tcl ?ts1 Mi.lawP
    (case aC0 => k_is)
    (case xe0 => k_exc)
    (case xk0 => k_is)
    (case xs0 => k_is)
    (case xt0 => k_is)
    (case aC1 => k_is)
    (case xe1 => k_exc)
    (case xk1 => k_is)
    (case xs1 => k_is)
    (case xt1 => k_is)
    (case aC2 => k_is)
    (case pg2 => k_is)
    (case hd2 => k_is)
    (case po2 => k_is)
    (case sa2 => k_is)
    (case mk2 => k_is)
    (case kc2 => k_is)
    (case na2_moves => k_is)
    (case na2_stands => k_is)
    (case na2_again => k_is)
    (case na2_state => k_is)
    (case na2_since => k_is)
    (case na2_until => k_is)
    (case na2_agains => k_is)
    (case na2_is_slow => k_is)
    (case na2_opened => k_is)
    (case na2_now => k_is)
    (case a14 => k_is)
    (case l14 => k_is)
    (case c14 => k_is)
    (case k14 => k_is)
    (case a16 => k_is)
    (case l16 => k_is)
    (case c16 => k_is)
    (case k16 => k_is)
    (case a0 => k_is)
    (case i0 => k_is)
    (case l0 => k_is)
    (case c0 => k_is)
    (case k0 => k_is)
    (case a3 => k_is)
    (case i3 => k_is)
    (case l3 => k_is)
    (case c3 => k_is)
    (case k3 => k_is)
    (case a2 => k_is)
    (case i2 => k_is)
    (case l2 => k_is)
    (case c2 => k_is)
    (case k2 => k_is)
    (case a1 => k_is)
    (case i1 => k_is)
    (case l1 => k_is)
    (case c1 => k_is)
    (case k1 => k_is)
    (case a5 => k_is)
    (case i5 => k_is)
    (case l5 => k_is)
    (case c5 => k_is)
    (case k5 => k_is)
    (case a4 => k_is)
    (case i4 => k_is)
    (case l4 => k_is)
    (case c4 => k_is)
    (case k4 => k_is)
    (case a9 => k_is)
    (case i9 => k_is)
    (case l9 => k_is)
    (case c9 => k_is)
    (case k9 => k_is)
    (case a11 => k_is)
    (case i11 => k_is)
    (case l11 => k_is)
    (case c11 => k_is)
    (case k11 => k_is)
    (case a6 => k_is)
    (case i6 => k_is)
    (case l6 => k_is)
    (case c6 => k_is)
    (case k6 => k_is)
    (case a10 => k_is)
    (case i10 => k_is)
    (case l10 => k_is)
    (case c10 => k_is)
    (case k10 => k_is)
    (case a13 => k_is)
    (case l13 => k_is)
    (case c13 => k_is)
    (case k13 => k_is)
    (case a7 => k_is)
    (case i7 => k_is)
    (case l7 => k_is)
    (case c7 => k_is)
    (case k7 => k_is)
    (case a8 => k_is)
    (case i8 => k_is)
    (case l8 => k_is)
    (case c8 => k_is)
    (case k8 => k_is)
    (case a12 => k_is)
    (case l12 => k_is)
    (case c12 => k_is)
    (case k12 => k_is)
    (case a17 => k_is)
    (case l17 => k_is)
    (case c17 => k_is)
    (case k17 => k_is)
    (case a22 => k_is)
    (case l22 => k_is)
    (case c22 => k_is)
    (case k22 => k_is)
    (case a15 => k_is)
    (case l15 => k_is)
    (case c15 => k_is)
    (case k15 => k_is)
    (case a18 => k_is)
    (case l18 => k_is)
    (case c18 => k_is)
    (case k18 => k_is)
    (case a19 => k_is)
    (case l19 => k_is)
    (case c19 => k_is)
    (case k19 => k_is)
    (case a20 => k_is)
    (case l20 => k_is)
    (case c20 => k_is)
    (case k20 => k_is)
    (case a21 => k_is)
    (case l21 => k_is)
    (case c21 => k_is)
    (case k21 => k_is)
    (case a23 => k_is)
    (case l23 => k_is)
    (case c23 => k_is)
    (case k23 => k_is)
    (case e0 => rfl)
    (case lC0 => k_is)
    (case vC0 => rfl)
    (case hC0 => kernel_rfl)
    (case nC0 => kernel_rfl)
    (case tC0 => exact hT _ (by simp))
    (case e1 => rfl)
    (case lC1 => k_is)
    (case vC1 => rfl)
    (case hC1 => kernel_rfl)
    (case nC1 => kernel_rfl)
    (case tC1 => exact hT _ (by simp))
    (case np0_1 => decide)
    (case bi_abs => k_is)
    (case bi_all => k_is)
    (case bi_int => k_is)
    (case bi_max => k_is)
    (case bi_min => k_is)
    (case bi_range => k_is)
    (case bi_sorted => k_is)
    (case ag0 => k_is)
    (case lg0 => k_is)
    (case vg0 => exact .cons ⟨_, rfl⟩ (.cons ⟨_, rfl⟩ (.cons ⟨_, rfl⟩ (.cons ⟨_, rfl⟩ (.nil)))))
    (case zg0 => decide)
    (case tcl => k_is)
    (case ts1 => first | rfl | k_is)
