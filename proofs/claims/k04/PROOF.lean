import PyProof.Rows.All
import Wide.All
import OpenK.AllK
import Wide.FinOn
import HandS.ForMost
import HandS.Deep
import HandS.TupAny
import HandS.TupLe
import HandS.TupMul
import HandS.Wide
import HandS.Zip
import HandS.Walk
import KE.SortData
import KE.LtData
import HandS.IsInst
import HandS.Text
import HandS.Defaults
import HandS.MakeKwOnly
import HandS.Style
import HandS.Codes
import KE.GoesMore
import KE.GoesZip
import KE.DataMinMax
import HandS.SetFor
import HandS.TupSets
import HandS.Strs
import PySem.Challenge.RW_textnumbers_k04_whole_numbers_that_agree
set_option Elab.async false
set_option linter.all false
set_option maxRecDepth 100000
set_option maxHeartbeats 4000000
/-! DL: a data level over L2. Values are trees of data (D), lists are values unless a slot owns them. -/
namespace DL
open PySem PySem.Spec PyProof.Rows L2

inductive D where
  | non
  | bl (b : Bool)
  | int (i : Int)
  | str (s : List Nat)
  | lst (ds : List D)
  | tup (ds : List D)
  | dct (kvs : List (L2.Key × D))
  | tape

mutual
inductive Dt (T : Addr) (F : Hp) : V → D → Prop
  | non : Dt T F .non .non
  | bl (b : Bool) : Dt T F (.bl b) (.bl b)
  | int (i : Int) : Dt T F (.int i) (.int i)
  | str (l : List Nat) : Dt T F (.str ⟨l.toArray⟩) (.str l)
  | lst {a : Addr} {vs : List V} {ds : List D} : F a = some (.lst vs) → DtAll T F vs ds → Dt T F (.ref a) (.lst ds)
  | tup {a : Addr} {vs : List V} {ds : List D} : F a = some (.tup vs) → DtAll T F vs ds → Dt T F (.ref a) (.tup ds)
  | dct {a : Addr} {ks : List (L2.Key × V)} {kvs : List (L2.Key × D)} : F a = some (.dK ks) → DtKV T F ks kvs → Dt T F (.ref a) (.dct kvs)
  | tape : Dt T F (.ref T) .tape
inductive DtAll (T : Addr) (F : Hp) : List V → List D → Prop
  | nil : DtAll T F [] []
  | cons {v : V} {vs : List V} {d : D} {ds : List D} : Dt T F v d → DtAll T F vs ds → DtAll T F (v :: vs) (d :: ds)
inductive DtKV (T : Addr) (F : Hp) : List (L2.Key × V) → List (L2.Key × D) → Prop
  | nil : DtKV T F [] []
  | cons {k : L2.Key} {v : V} {d : D} {ks : List (L2.Key × V)} {kvs : List (L2.Key × D)} : Dt T F v d → DtKV T F ks kvs → DtKV T F ((k, v) :: ks) ((k, d) :: kvs)
end

def Ext (F F' : Hp) : Prop := ∀ a o, F a = some o → F' a = some o
theorem Ext.refl (F : Hp) : Ext F F := fun _ _ h => h
theorem Ext.trans {F F' F'' : Hp} (h : Ext F F') (h' : Ext F' F'') : Ext F F'' := fun a o e => h' a o (h a o e)

section
variable {T : Addr} {F F' : Hp}
mutual
theorem Dt.mono (h : Ext F F') : ∀ (d : D) (v : V), Dt T F v d → Dt T F' v d
  | .non, _, q => by cases q; exact .non
  | .bl _, _, q => by cases q; exact .bl _
  | .int _, _, q => by cases q; exact .int _
  | .str _, _, q => by cases q; exact .str _
  | .lst ds, _, q => by cases q with | lst e r => exact .lst (h _ _ e) (DtAll.mono h ds _ r)
  | .tup ds, _, q => by cases q with | tup e r => exact .tup (h _ _ e) (DtAll.mono h ds _ r)
  | .dct ks, _, q => by cases q with | dct e r => exact .dct (h _ _ e) (DtKV.mono h ks _ r)
  | .tape, _, q => by cases q; exact .tape
theorem DtAll.mono (h : Ext F F') : ∀ (ds : List D) (vs : List V), DtAll T F vs ds → DtAll T F' vs ds
  | [], _, q => by cases q; exact .nil
  | d :: ds, _, q => by cases q with | cons e r => exact .cons (Dt.mono h d _ e) (DtAll.mono h ds _ r)
theorem DtKV.mono (h : Ext F F') : ∀ (ds : List (L2.Key × D)) (vs : List (L2.Key × V)), DtKV T F vs ds → DtKV T F' vs ds
  | [], _, q => by cases q; exact .nil
  | (_, d) :: ds, _, q => by cases q with | cons e r => exact .cons (Dt.mono h d _ e) (DtKV.mono h ds _ r)
end
theorem DtAll.len : ∀ {ds : List D} {vs : List V}, DtAll T F vs ds → vs.length = ds.length
  | [], _, q => by cases q; rfl
  | d :: ds, _, q => by cases q with | cons e r => simp [DtAll.len r]
theorem DtAll.get : ∀ {ds : List D} {vs : List V} {i : Nat} {d : D}, DtAll T F vs ds → ds[i]? = some d → ∃ v, vs[i]? = some v ∧ Dt T F v d
  | [], _, _, _, _, e => by simp at e
  | d :: ds, _, 0, d', q, e => by cases q with | cons e1 r => simp at e; subst e; exact ⟨_, rfl, e1⟩
  | d :: ds, _, i + 1, d', q, e => by
    cases q with | cons e1 r =>
    obtain ⟨v, h1, h2⟩ := DtAll.get (i := i) r (by simpa using e)
    exact ⟨v, by simpa using h1, h2⟩
theorem DtAll.append : ∀ {ds es : List D} {vs us : List V}, DtAll T F vs ds → DtAll T F us es → DtAll T F (vs ++ us) (ds ++ es)
  | [], _, _, _, q, r => by cases q; exact r
  | d :: ds, _, _, _, q, r => by cases q with | cons e q => exact .cons e (DtAll.append q r)
theorem DtAll.one {v : V} {d : D} (h : Dt T F v d) : DtAll T F [v] [d] := .cons h .nil
theorem DtAll.take : ∀ (n : Nat) {ds : List D} {vs : List V}, DtAll T F vs ds → DtAll T F (vs.take n) (ds.take n)
  | 0, _, _, _ => by simp; exact .nil
  | _ + 1, [], _, q => by cases q; exact .nil
  | n + 1, d :: ds, _, q => by cases q with | cons e r => exact .cons e (DtAll.take n r)
theorem DtAll.drop : ∀ (n : Nat) {ds : List D} {vs : List V}, DtAll T F vs ds → DtAll T F (vs.drop n) (ds.drop n)
  | 0, _, _, q => by simpa using q
  | _ + 1, [], _, q => by cases q; exact .nil
  | n + 1, d :: ds, _, q => by cases q with | cons e r => exact DtAll.drop n r
theorem DtAll.set : ∀ (n : Nat) {ds : List D} {vs : List V} {v : V} {d : D}, DtAll T F vs ds → Dt T F v d → DtAll T F (vs.set n v) (ds.set n d)
  | _, [], _, _, _, q, _ => by cases q; exact .nil
  | 0, _ :: _, _, _, _, q, h => by cases q with | cons e r => exact .cons h r
  | n + 1, _ :: _, _, _, _, q, h => by cases q with | cons e r => exact .cons e (DtAll.set n r h)
theorem DtAll.rev : ∀ {ds : List D} {vs : List V}, DtAll T F vs ds → DtAll T F vs.reverse ds.reverse
  | [], _, q => by cases q; exact .nil
  | d :: ds, _, q => by
    cases q with | cons e r =>
    rw [List.reverse_cons, List.reverse_cons]
    exact DtAll.append (DtAll.rev r) (.one e)
theorem DtAll.erase : ∀ (n : Nat) {ds : List D} {vs : List V}, DtAll T F vs ds → DtAll T F (vs.eraseIdx n) (ds.eraseIdx n)
  | _, [], _, q => by cases q; exact .nil
  | 0, _ :: _, _, q => by cases q with | cons e r => exact r
  | n + 1, _ :: _, _, q => by cases q with | cons e r => exact .cons e (DtAll.erase n r)
theorem DtAll.ints : ∀ {is : List Int} {vs : List V}, DtAll T F vs (is.map D.int) → vs = is.map V.int
  | [], _, q => by cases q; rfl
  | i :: is, _, q => by
    cases q with | cons e r =>
    cases e
    rw [List.map_cons, DtAll.ints r]
theorem DtAll.of_ints : ∀ (is : List Int), DtAll T F (is.map V.int) (is.map D.int)
  | [] => .nil
  | i :: is => .cons (.int i) (DtAll.of_ints is)
theorem DtAll.bls : ∀ {is : List Bool} {vs : List V}, DtAll T F vs (is.map D.bl) → vs = is.map V.bl
  | [], _, q => by cases q; rfl
  | i :: is, _, q => by
    cases q with | cons e r =>
    cases e
    rw [List.map_cons, DtAll.bls r]
/-- a text by its codes -/
def S (l : List Nat) : Str := ⟨l.toArray⟩
theorem S_list (x : Str) : S x.cps.toList = x := by cases x; simp [S]
theorem list_S (l : List Nat) : (S l).cps.toList = l := by simp [S]
theorem S_len (l : List Nat) : (S l).length = l.length := by simp [S, Str.length]
theorem S_app (a b : List Nat) : S a ++ S b = S (a ++ b) := by
  show Str.append _ _ = _
  simp [S, Str.append]
theorem S_inj {a b : List Nat} (h : S a = S b) : a = b := by
  have := congrArg (fun x : Str => x.cps.toList) h
  simpa [S] using this
theorem Dt.strS (l : List Nat) : Dt T F (.str (S l)) (.str l) := .str l
theorem Dt.strX (x : Str) : Dt T F (.str x) (.str x.cps.toList) := by
  have := Dt.strS (T := T) (F := F) x.cps.toList
  rwa [S_list] at this
theorem DtAll.strs : ∀ {is : List (List Nat)} {vs : List V}, DtAll T F vs (is.map D.str) → vs = (is.map S).map V.str
  | [], _, q => by cases q; rfl
  | i :: is, _, q => by
    cases q with | cons e r =>
    cases e
    rw [List.map_cons, List.map_cons, DtAll.strs r]
    rfl
theorem DtAll.of_strs : ∀ (is : List (List Nat)), DtAll T F ((is.map S).map V.str) (is.map D.str)
  | [] => .nil
  | i :: is => .cons (.strS i) (DtAll.of_strs is)
theorem DtAll.of_strX : ∀ (is : List Str), DtAll T F (is.map V.str) (is.map fun x => D.str x.cps.toList)
  | [] => .nil
  | i :: is => .cons (.strX i) (DtAll.of_strX is)
end

/-! ### slots and results -/
/-- fr: a value that nothing changes any more; ow: a list that is this slot's (or this result's) alone; od: such a dict; bo, bd: an owned one, lent for reading; pin: a list owned ahead of a loop that walks it -/
inductive R where
  | fr (d : D)
  | ow (ds : List D)
  | od (kvs : List (L2.Key × D))
  | bo (ds : List D)
  | bd (kvs : List (L2.Key × D))
  | pin (a : Addr) (ds : List D)
def R.d : R → D
  | .fr d => d
  | .ow ds => .lst ds
  | .od kvs => .dct kvs
  | .bo ds => .lst ds
  | .bd kvs => .dct kvs
  | .pin _ ds => .lst ds
def R.own : R → Prop
  | .ow _ => True
  | .od _ => True
  | _ => False
/-- it may be kept anywhere -/
def R.free : R → Prop
  | .fr _ => True
  | .ow _ => True
  | .od _ => True
  | _ => False
/-- a slot may hold it -/
def R.slot : R → Prop
  | .bo _ => False
  | .bd _ => False
  | _ => True
abbrev Ev := List (Option R)

structure Gh where
  T : Addr
  L : Addr
  ns : List Int
  H0 : Hp
  F0 : Hp

def RV (G : Gh) (H F : Hp) (v : V) : R → Prop
  | .fr d => Dt G.T F v d
  | .ow ds => ∃ a vs, v = .ref a ∧ H a = some (.lst vs) ∧ DtAll G.T F vs ds ∧ F a = none ∧ G.H0 a = none
  | .od kvs => ∃ a ks, v = .ref a ∧ H a = some (.dK ks) ∧ DtKV G.T F ks kvs ∧ F a = none ∧ G.H0 a = none
  | .bo ds => ∃ a vs, v = .ref a ∧ H a = some (.lst vs) ∧ DtAll G.T F vs ds ∧ a ≠ G.T
  | .bd kvs => ∃ a ks, v = .ref a ∧ H a = some (.dK ks) ∧ DtKV G.T F ks kvs ∧ a ≠ G.T
  | .pin a ds => ∃ vs, v = .ref a ∧ G.H0 a = some (.lst vs) ∧ DtAll G.T F vs ds ∧ a ≠ G.T

structure Rel (G : Gh) (ε : Ev) (σ : L2.St) (H F : Hp) : Prop where
  sub : Ext F H
  keep : ∀ a o, G.H0 a = some o → a ≠ G.T → H a = some o
  low : Ext G.F0 F
  new : ∀ a, F a ≠ none → G.F0 a ≠ none ∨ G.H0 a = none
  tape : ∃ i c, H G.T = some (.lst [.ref G.L, .int i, .int c])
  nT : F G.T = none
  tp : G.H0 G.T ≠ none
  script : F G.L = some (.lst (G.ns.map V.int))
  small : G.ns.length ≤ 63
  sz : ∀ a vs, (F a = some (.lst vs) ∨ F a = some (.tup vs)) → vs.length ≤ sizeLine
  slots : ∀ (i : Nat) (r : R), ε[i]? = some (some r) → ∃ v, σ[i]? = some (some v) ∧ RV G H F v r
  sep : ∀ (i j : Nat) (r r' : R) v, ε[i]? = some (some r) → ε[j]? = some (some r') → r.own → r'.own → σ[i]? = some (some v) → σ[j]? = some (some v) → i = j
  len : ε.length = σ.length
  kind : ∀ (i : Nat) (r : R), ε[i]? = some (some r) → r.slot

/-- what stood stays, but for the tape -/
def Kept (T : Addr) (H H' : Hp) : Prop := ∀ a o, H a = some o → a ≠ T → H' a = some o
theorem Kept.refl (T : Addr) (H : Hp) : Kept T H H := fun _ _ h _ => h
theorem Kept.trans {T : Addr} {H H' H'' : Hp} (h : Kept T H H') (h' : Kept T H' H'') : Kept T H H'' := fun a o e n => h' a o (h a o e n) n

/-- no slot owns it -/
def Lone (ε : Ev) (σ : L2.St) (v : V) : Prop := ∀ (i : Nat) (r : R), ε[i]? = some (some r) → r.own → σ[i]? ≠ some (some v)
/-- what the rest is told of a value -/
def Cont (G : Gh) (σ : L2.St) (H F : Hp) (Q : VK) (r : R) (ε : Ev) : Prop :=
  ∀ v H' F', Rel G ε σ H' F' → Ext F F' → Kept G.T H H' → RV G H' F' v r → (r.own → Lone ε σ v) → Q v H'

abbrev TEd := Ev → (R → Ev → Prop) → Prop
abbrev TTd := Ev → (Bool → Ev → Prop) → Prop
abbrev TAd := Ev → (List R → Ev → Prop) → Prop
def MonoE (t : TEd) : Prop := ∀ ε Q Q', (∀ r ε', Q r ε' → Q' r ε') → t ε Q → t ε Q'
def MonoT (t : TTd) : Prop := ∀ ε Q Q', (∀ r ε', Q r ε' → Q' r ε') → t ε Q → t ε Q'
def MonoA (t : TAd) : Prop := ∀ ε Q Q', (∀ r ε', Q r ε' → Q' r ε') → t ε Q → t ε Q'
def liftE (t : TEd) : TE := fun σ H Q => ∃ G ε F, Rel G ε σ H F ∧ t ε (Cont G σ H F Q)
def ContT (G : Gh) (σ : L2.St) (H F : Hp) (Q : Bool → Hp → Prop) (b : Bool) (ε : Ev) : Prop := ∀ H' F', Rel G ε σ H' F' → Ext F F' → Kept G.T H H' → Q b H'
def liftT (t : TTd) : TT := fun σ H Q => ∃ G ε F, Rel G ε σ H F ∧ t ε (ContT G σ H F Q)
inductive RVs (G : Gh) (H F : Hp) : List V → List R → Prop
  | nil : RVs G H F [] []
  | cons {v : V} {vs : List V} {r : R} {rs : List R} : RV G H F v r → RVs G H F vs rs → RVs G H F (v :: vs) (r :: rs)
def ContA (G : Gh) (σ : L2.St) (H F : Hp) (Q : List V → Hp → Prop) (rs : List R) (ε : Ev) : Prop := ∀ vs H' F', Rel G ε σ H' F' → Ext F F' → Kept G.T H H' → RVs G H' F' vs rs → (∀ r ∈ rs, ¬ r.own) → Q vs H'
def liftA (t : TAd) : TA := fun σ H Q => ∃ G ε F, Rel G ε σ H F ∧ t ε (ContA G σ H F Q)
structure QE (X : Cx) (e : Expr) (t : TEd) : Prop where
  pe : PE X e (liftE t)
  mono : MonoE t
structure QT (X : Cx) (e : Expr) (t : TTd) : Prop where
  pt : PT X e (liftT t)
  mono : MonoT t
structure QA (X : Cx) (es : List Expr) (t : TAd) : Prop where
  pa : PA X es (liftA t)
  mono : MonoA t

/-! ### the relation's moves -/
section
variable {G : Gh} {ε : Ev} {σ : L2.St} {H H' F F' : Hp} {v : V} {r : R} {a : Addr}
theorem Rel.neT (R0 : Rel G ε σ H F) (h : G.H0 a = none) : a ≠ G.T := fun e => R0.tp (e ▸ h)
theorem Rel.neT' (R0 : Rel G ε σ H F) {o : HO} (h : F a = some o) : a ≠ G.T := fun e => by rw [e, R0.nT] at h; cases h
theorem RV.keep (R0 : Rel G ε σ H F) (h : RV G H F v r) (no : ¬ r.own) (ex : Ext F F') (kp : Kept G.T H H') : RV G H' F' v r := by
  cases r with
  | fr d => exact Dt.mono ex _ _ h
  | ow ds => exact absurd trivial no
  | od ds => exact absurd trivial no
  | bo ds => obtain ⟨a, vs, e, h1, h2, h3⟩ := h; exact ⟨a, vs, e, kp _ _ h1 h3, DtAll.mono ex _ _ h2, h3⟩
  | bd ds => obtain ⟨a, vs, e, h1, h2, h3⟩ := h; exact ⟨a, vs, e, kp _ _ h1 h3, DtKV.mono ex _ _ h2, h3⟩
  | pin a ds => obtain ⟨vs, e, h1, h2, h3⟩ := h; exact ⟨vs, e, h1, DtAll.mono ex _ _ h2, h3⟩
/-- the frozen part grows by an address that no slot owns -/
theorem Rel.freeze (R0 : Rel G ε σ H F) {o : HO} (hH : H a = some o) (hF : F a = none) (h0 : G.H0 a = none) (ln : Lone ε σ (.ref a))
    (hs : ∀ vs, (o = .lst vs ∨ o = .tup vs) → vs.length ≤ sizeLine) : Rel G ε σ H (upd F a o) ∧ Ext F (upd F a o) := by
  have nT := R0.neT h0
  have ex : Ext F (upd F a o) := fun b u e => by
    by_cases hb : b = a
    · subst hb; rw [hF] at e; cases e
    · rw [upd_ne hb]; exact e
  refine ⟨⟨fun b u e => ?_, R0.keep, R0.low.trans ex, fun b hb => ?_, R0.tape, ?_, R0.tp, ex _ _ R0.script, R0.small, fun b vs e => ?_, fun i r e => ?_, R0.sep, R0.len, R0.kind⟩, ex⟩
  · by_cases hb : b = a
    · subst hb; rw [upd_same] at e; cases e; exact hH
    · rw [upd_ne hb] at e; exact R0.sub _ _ e
  · by_cases hb2 : b = a
    · subst hb2; exact .inr h0
    · rw [upd_ne hb2] at hb; exact R0.new b hb
  · rw [upd_ne nT.symm]; exact R0.nT
  · by_cases hb : b = a
    · subst hb; rw [upd_same] at e
      exact hs vs (e.elim (fun e => .inl (Option.some.inj e)) (fun e => .inr (Option.some.inj e)))
    · rw [upd_ne hb] at e; exact R0.sz b vs e
  · obtain ⟨v, e1, h1⟩ := R0.slots i r e
    refine ⟨v, e1, ?_⟩
    cases r with
    | fr d => exact Dt.mono ex _ _ h1
    | ow ds =>
      obtain ⟨b, vs, rfl, h1, h2, h3, h4⟩ := h1
      have hb : b ≠ a := fun z => ln i _ e trivial (by rw [e1, z])
      exact ⟨b, vs, rfl, h1, DtAll.mono ex _ _ h2, by rw [upd_ne hb]; exact h3, h4⟩
    | od ds =>
      obtain ⟨b, vs, rfl, h1, h2, h3, h4⟩ := h1
      have hb : b ≠ a := fun z => ln i _ e trivial (by rw [e1, z])
      exact ⟨b, vs, rfl, h1, DtKV.mono ex _ _ h2, by rw [upd_ne hb]; exact h3, h4⟩
    | bo ds => obtain ⟨b, vs, e, h1, h2, h3⟩ := h1; exact ⟨b, vs, e, h1, DtAll.mono ex _ _ h2, h3⟩
    | bd ds => obtain ⟨b, vs, e, h1, h2, h3⟩ := h1; exact ⟨b, vs, e, h1, DtKV.mono ex _ _ h2, h3⟩
    | pin b ds => obtain ⟨vs, e, h1, h2, h3⟩ := h1; exact ⟨vs, e, h1, DtAll.mono ex _ _ h2, h3⟩
/-- a new object in the heap that nobody knows yet -/
theorem Rel.push (R0 : Rel G ε σ H F) {p : Addr} (o : HO) (hp : H p = none) : Rel G ε σ (upd H p o) F ∧ Kept G.T H (upd H p o) ∧ F p = none ∧ G.H0 p = none ∧ Lone ε σ (.ref p) := by
  have kp : ∀ b u, H b = some u → upd H p o b = some u := fun b u e => by rw [upd_ne (ne_of_none e hp)]; exact e
  have hT : p ≠ G.T := fun e => by obtain ⟨i, c, h⟩ := R0.tape; rw [← e, hp] at h; cases h
  have hF : F p = none := by
    cases q : F p with
    | none => rfl
    | some u => have := R0.sub _ _ q; rw [hp] at this; cases this
  have h0 : G.H0 p = none := by
    cases q : G.H0 p with
    | none => rfl
    | some u => have := R0.keep _ _ q hT; rw [hp] at this; cases this
  refine ⟨⟨fun b u e => kp _ _ (R0.sub _ _ e), fun b u e n => kp _ _ (R0.keep _ _ e n), R0.low, R0.new, ?_, R0.nT, R0.tp, R0.script, R0.small, R0.sz, fun i r e => ?_, R0.sep, R0.len, R0.kind⟩, fun b u e _ => kp _ _ e, hF, h0, fun i r e ho z => ?_⟩
  · obtain ⟨i, c, h⟩ := R0.tape; exact ⟨i, c, kp _ _ h⟩
  · obtain ⟨v, e1, h1⟩ := R0.slots i r e
    refine ⟨v, e1, ?_⟩
    cases r with
    | fr d => exact h1
    | ow ds => obtain ⟨b, vs, e, h1, h2⟩ := h1; exact ⟨b, vs, e, kp _ _ h1, h2⟩
    | od ds => obtain ⟨b, vs, e, h1, h2⟩ := h1; exact ⟨b, vs, e, kp _ _ h1, h2⟩
    | bo ds => obtain ⟨b, vs, e, h1, h2⟩ := h1; exact ⟨b, vs, e, kp _ _ h1, h2⟩
    | bd ds => obtain ⟨b, vs, e, h1, h2⟩ := h1; exact ⟨b, vs, e, kp _ _ h1, h2⟩
    | pin b ds => exact h1
  · obtain ⟨v, e1, h1⟩ := R0.slots i r e
    rw [e1] at z
    cases (Option.some.inj (Option.some.inj z))
    cases r with
    | ow ds => obtain ⟨b, vs, e, h1, _⟩ := h1; cases e; rw [hp] at h1; cases h1
    | od ds => obtain ⟨b, vs, e, h1, _⟩ := h1; cases e; rw [hp] at h1; cases h1
    | fr d => exact ho
    | bo ds => exact ho
    | bd ds => exact ho
    | pin b ds => exact ho
end

/-! ### endings for rules -/
section
variable {G : Gh} {ε : Ev} {σ : L2.St} {H F : Hp} {Q : VK}
theorem Cont.same {v : V} {d : D} (h : Cont G σ H F Q (.fr d) ε) (R0 : Rel G ε σ H F) (q : Dt G.T F v d) : Q v H :=
  h v H F R0 (.refl _) (.refl _ _) q (fun z => z.elim)
theorem Cont.lst {vs : List V} {ds : List D} (h : Cont G σ H F Q (.ow ds) ε) (R0 : Rel G ε σ H F) (q : DtAll G.T F vs ds) : ∀ p, H p = none → Q (.ref p) (upd H p (.lst vs)) := fun p hp => by
  obtain ⟨R1, kp, hF, h0, ln⟩ := R0.push (.lst vs) hp
  exact h _ _ F R1 (.refl _) kp ⟨p, vs, rfl, upd_same, q, hF, h0⟩ fun _ => ln
theorem Cont.dct {vs : List (L2.Key × V)} {ds : List (L2.Key × D)} (h : Cont G σ H F Q (.od ds) ε) (R0 : Rel G ε σ H F) (q : DtKV G.T F vs ds) : ∀ p, H p = none → Q (.ref p) (upd H p (.dK vs)) := fun p hp => by
  obtain ⟨R1, kp, hF, h0, ln⟩ := R0.push (.dK vs) hp
  exact h _ _ F R1 (.refl _) kp ⟨p, vs, rfl, upd_same, q, hF, h0⟩ fun _ => ln
theorem Cont.tup {vs : List V} {ds : List D} (h : Cont G σ H F Q (.fr (.tup ds)) ε) (R0 : Rel G ε σ H F) (q : DtAll G.T F vs ds) (hz : vs.length ≤ sizeLine) : ∀ p, H p = none → Q (.ref p) (upd H p (.tup vs)) := fun p hp => by
  obtain ⟨R1, kp, hF, h0, ln⟩ := R0.push (.tup vs) hp
  obtain ⟨R2, ex⟩ := R1.freeze (o := .tup vs) upd_same hF h0 ln (fun us e => by rcases e with e | e <;> cases e; exact hz)
  exact h _ _ _ R2 ex kp (.tup upd_same (DtAll.mono ex _ _ q)) (fun z => z.elim)
end
/-- what can be read at v now -/
def DV (T : Addr) (H F : Hp) (v : V) : D → Prop
  | .lst ds => ∃ a vs, v = .ref a ∧ H a = some (.lst vs) ∧ DtAll T F vs ds
  | .dct kvs => ∃ a ks, v = .ref a ∧ H a = some (.dK ks) ∧ DtKV T F ks kvs
  | d => Dt T F v d
section
variable {G : Gh} {ε : Ev} {σ : L2.St} {H H' F F' : Hp} {v : V} {r : R}
theorem Dt.dv (sub : Ext F H) {d : D} (h : Dt G.T F v d) : DV G.T H F v d := by
  cases d with
  | lst ds => cases h with | lst e r => exact ⟨_, _, rfl, sub _ _ e, r⟩
  | dct ds => cases h with | dct e r => exact ⟨_, _, rfl, sub _ _ e, r⟩
  | non => exact h
  | bl _ => exact h
  | int _ => exact h
  | str _ => exact h
  | tup _ => exact h
  | tape => exact h
theorem RV.dv (R0 : Rel G ε σ H F) (h : RV G H F v r) : DV G.T H F v r.d := by
  cases r with
  | fr d => exact Dt.dv R0.sub h
  | ow ds => obtain ⟨a, vs, e, h1, h2, _⟩ := h; exact ⟨a, vs, e, h1, h2⟩
  | od ds => obtain ⟨a, vs, e, h1, h2, _⟩ := h; exact ⟨a, vs, e, h1, h2⟩
  | bo ds => obtain ⟨a, vs, e, h1, h2, _⟩ := h; exact ⟨a, vs, e, h1, h2⟩
  | bd ds => obtain ⟨a, vs, e, h1, h2, _⟩ := h; exact ⟨a, vs, e, h1, h2⟩
  | pin a ds => obtain ⟨vs, e, h1, h2, h3⟩ := h; exact ⟨a, vs, e, R0.keep _ _ h1 h3, h2⟩
/-- an own result, let go: nothing will change it -/
def R.fz : R → R
  | .ow ds => .fr (.lst ds)
  | .od ds => .fr (.dct ds)
  | r => r
theorem R.fz_d (r : R) : r.fz.d = r.d := by cases r <;> rfl
theorem R.fz_own (r : R) : ¬ r.fz.own := by cases r <;> exact fun z => z
theorem Rel.let_go (R0 : Rel G ε σ H F) (h : RV G H F v r) (ln : r.own → Lone ε σ v) (hz : ∀ a vs, H a = some (.lst vs) → vs.length ≤ sizeLine) :
    ∃ F', Rel G ε σ H F' ∧ Ext F F' ∧ RV G H F' v r.fz := by
  cases r with
  | ow ds =>
    obtain ⟨a, vs, rfl, h1, h2, h3, h4⟩ := h
    obtain ⟨R1, ex⟩ := R0.freeze h1 h3 h4 (ln trivial) (fun us e => by rcases e with e | e <;> cases e; exact hz _ _ h1)
    exact ⟨_, R1, ex, .lst upd_same (DtAll.mono ex _ _ h2)⟩
  | od ds =>
    obtain ⟨a, vs, rfl, h1, h2, h3, h4⟩ := h
    obtain ⟨R1, ex⟩ := R0.freeze h1 h3 h4 (ln trivial) (fun us e => by rcases e with e | e <;> cases e)
    exact ⟨_, R1, ex, .dct upd_same (DtKV.mono ex _ _ h2)⟩
  | fr d => exact ⟨F, R0, .refl _, h⟩
  | bo d => exact ⟨F, R0, .refl _, h⟩
  | bd d => exact ⟨F, R0, .refl _, h⟩
  | pin a d => exact ⟨F, R0, .refl _, h⟩
end
end DL

set_option Elab.async false
set_option linter.all false
set_option maxRecDepth 100000
set_option maxHeartbeats 4000000
/-! DLb: expressions at the data level. -/
namespace DL
open PySem PySem.Spec PyProof.Rows L2

inductive DVs (T : Addr) (H F : Hp) : List V → List D → Prop
  | nil : DVs T H F [] []
  | cons {v : V} {vs : List V} {d : D} {ds : List D} : DV T H F v d → DVs T H F vs ds → DVs T H F (v :: vs) (d :: ds)
/-- the line: no list in the heap is longer -/
def Line (H : Hp) : Prop := ∀ a vs, (H a = some (.lst vs) ∨ H a = some (.tup vs)) → vs.length ≤ sizeLine
section
variable {X : Cx} {pins : List (Addr × Obj)} {σ : L2.St} {H F H' F' : Hp} {s : Shared} {G : Gh} {ε ε' : Ev} {Q : VK} {e : Expr} {t : TEd} {r : R}
theorem line_of (I : Inv X pins σ H s) : Line H := fun a vs e => by
  rcases e with e | e
  · exact (I.hok a _ e).1
  · exact (I.hok a _ e).1
theorem Cont.shift (h : Cont G σ H F Q r ε) (ex : Ext F F') (kp : Kept G.T H H') : Cont G σ H' F' Q r ε := fun v H2 F2 R2 ex2 kp2 => h v H2 F2 R2 (ex.trans ex2) (kp.trans kp2)
theorem QE.get (h : QE X e t) (I : Inv X pins σ H s) (R0 : Rel G ε σ H F) {P : R → Ev → Prop} (q : t ε P) :
    wpAny (model X.prog X.w) X.A (eval e X.env) (fun u s1 => ∃ v H1 r ε1 F1, Inv X pins σ H1 s1 ∧ RelV v u ∧ P r ε1 ∧ Rel G ε1 σ H1 F1 ∧ Ext F F1 ∧ Kept G.T H H1 ∧ RV G H1 F1 v r ∧ (r.own → Lone ε1 σ v)) X.xe s := by
  refine thn (h.pe.run pins s σ H (fun v H1 => ∃ r ε1 F1, P r ε1 ∧ Rel G ε1 σ H1 F1 ∧ Ext F F1 ∧ Kept G.T H H1 ∧ RV G H1 F1 v r ∧ (r.own → Lone ε1 σ v)) I ⟨G, ε, F, R0, h.mono _ _ _ (fun r ε' p v H' F' R1 ex kp rv ln => ⟨r, ε', F', p, R1, ex, kp, rv, ln⟩) q⟩) ?_
  rintro u s1 ⟨v, H1, I1, r1, r, ε1, F1, p, R1, ex, kp, rv, ln⟩
  exact ⟨v, H1, r, ε1, F1, I1, r1, p, R1, ex, kp, rv, ln⟩
theorem QE.gets (h : QE X e t) (I : Inv X pins σ H s) (R0 : Rel G ε σ H F) {P : R → Ev → Prop} (q : t ε P) :
    wpAny (model X.prog X.w) X.A (eval e X.env) (fun u s1 => ∃ v H1 r ε1 F1, Inv X pins σ H1 s1 ∧ RelV v u ∧ P r ε1 ∧ Rel G ε1 σ H1 F1 ∧ Ext F F1 ∧ Kept G.T H H1 ∧ RV G H1 F1 v r.fz) X.xe s := by
  refine thn (h.get I R0 q) ?_
  rintro u s1 ⟨v, H1, r, ε1, F1, I1, r1, p, R1, ex, kp, rv, ln⟩
  obtain ⟨F2, R2, ex2, rv2⟩ := R1.let_go rv ln (fun a vs e => line_of I1 a vs (.inl e))
  exact ⟨v, H1, r, ε1, F2, I1, r1, p, R2, ex.trans ex2, kp, rv2⟩
theorem QE.imp {t' : TEd} (h : QE X e t) (m : MonoE t') (i : ∀ ε Q, t' ε Q → t ε Q) : QE X e t' :=
  ⟨⟨fun pins s σ H Q I ⟨G, ε, F, R0, q⟩ => h.pe.run pins s σ H Q I ⟨G, ε, F, R0, i _ _ q⟩⟩, m⟩
end

/-! ### names, constants -/
def dNm (i : Nat) : TEd := fun ε Q => match ε[i]? with
  | some (some (.fr d)) => Q (.fr d) ε
  | some (some (.ow ds)) => Q (.fr (.lst ds)) (ε.set i (some (.fr (.lst ds))))
  | some (some (.od ks)) => Q (.fr (.dct ks)) (ε.set i (some (.fr (.dct ks))))
  | _ => False
/-- lent -/
def dBo (i : Nat) : TEd := fun ε Q => match ε[i]? with
  | some (some (.fr d)) => Q (.fr d) ε
  | some (some (.ow ds)) => Q (.bo ds) ε
  | some (some (.od ks)) => Q (.bd ks) ε
  | some (some (.pin _ ds)) => Q (.bo ds) ε
  | _ => False
def dC (d : D) : TEd := fun ε Q => Q (.fr d) ε
section
variable {G : Gh} {ε : Ev} {σ : L2.St} {H F : Hp}
theorem set_get {ε : Ev} {i j : Nat} {r r' : R} (h : (ε.set i (some r))[j]? = some (some r')) : (j = i ∧ r' = r) ∨ (j ≠ i ∧ ε[j]? = some (some r')) := by
  by_cases hj : j = i
  · subst hj
    have hl : j < ε.length := by
      by_cases hl : j < ε.length
      · exact hl
      · rw [List.getElem?_eq_none (by simpa using hl)] at h; cases h
    rw [List.getElem?_set_self hl] at h
    exact .inl ⟨rfl, (Option.some.inj (Option.some.inj h)).symm⟩
  · rw [List.getElem?_set_ne (fun z => hj z.symm)] at h
    exact .inr ⟨hj, h⟩
/-- the slot's list is let go -/
theorem Rel.let_slot (R0 : Rel G ε σ H F) (hl : Line H) {i : Nat} {r : R} (e : ε[i]? = some (some r)) :
    ∃ F', Rel G (ε.set i (some r.fz)) σ H F' ∧ Ext F F' ∧ ∃ v, σ[i]? = some (some v) ∧ RV G H F' v r.fz := by
  obtain ⟨v, e1, h1⟩ := R0.slots i r e
  -- first: without the slot
  have R1 : Rel G (ε.set i none) σ H F := by
    refine ⟨R0.sub, R0.keep, R0.low, R0.new, R0.tape, R0.nT, R0.tp, R0.script, R0.small, R0.sz, fun j r' e' => ?_, fun j k r' r'' v e1 e2 => ?_, by simp [R0.len], fun j r' e' => ?_⟩
    · by_cases hj : j = i
      · subst hj
        by_cases hl : j < ε.length
        · rw [List.getElem?_set_self hl] at e'; cases e'
        · rw [List.getElem?_eq_none (by simpa using hl)] at e'; cases e'
      · rw [List.getElem?_set_ne (fun z => hj z.symm)] at e'
        exact R0.slots j r' e'
    · have un : ∀ j (r' : R), (ε.set i none)[j]? = some (some r') → ε[j]? = some (some r') := fun j r' e' => by
        by_cases hj : j = i
        · subst hj
          by_cases hl : j < ε.length
          · rw [List.getElem?_set_self hl] at e'; cases e'
          · rw [List.getElem?_eq_none (by simpa using hl)] at e'; cases e'
        · rwa [List.getElem?_set_ne (fun z => hj z.symm)] at e'
      exact R0.sep j k r' r'' v (un _ _ e1) (un _ _ e2)
    · by_cases hj : j = i
      · subst hj
        by_cases hl : j < ε.length
        · rw [List.getElem?_set_self hl] at e'; cases e'
        · rw [List.getElem?_eq_none (by simpa using hl)] at e'; cases e'
      · rw [List.getElem?_set_ne (fun z => hj z.symm)] at e'
        exact R0.kind j r' e'
  have un : ∀ j (r' : R), (ε.set i none)[j]? = some (some r') → j ≠ i ∧ ε[j]? = some (some r') := fun j r' e' => by
    by_cases hj : j = i
    · subst hj
      by_cases hl : j < ε.length
      · rw [List.getElem?_set_self hl] at e'; cases e'
      · rw [List.getElem?_eq_none (by simpa using hl)] at e'; cases e'
    · rw [List.getElem?_set_ne (fun z => hj z.symm)] at e'; exact ⟨hj, e'⟩
  have ln : r.own → Lone (ε.set i none) σ v := fun ho j r' e' ho' z => by
    obtain ⟨n, e2⟩ := un j r' e'
    exact n (R0.sep j i r' r v e2 e ho' ho z e1)
  obtain ⟨F', R2, ex, rv⟩ := R1.let_go h1 ln (fun a vs e => hl a vs (.inl e))
  have hil : i < ε.length := by
    by_cases hl : i < ε.length
    · exact hl
    · rw [List.getElem?_eq_none (by simpa using hl)] at e; cases e
  refine ⟨F', ⟨R2.sub, R2.keep, R2.low, R2.new, R2.tape, R2.nT, R2.tp, R2.script, R2.small, R2.sz, fun j r' e' => ?_, fun j k r' r'' v' e1' e2' o1 o2 => ?_, by simp [R0.len], fun j r' e' => ?_⟩, ex, v, e1, rv⟩
  · rcases set_get e' with ⟨rfl, rfl⟩ | ⟨n, e'⟩
    · exact ⟨v, e1, rv⟩
    · exact R2.slots j r' (by rw [List.getElem?_set_ne (fun z => n z.symm)]; exact e')
  · rcases set_get e1' with ⟨rfl, rfl⟩ | ⟨n1, e1'⟩
    · exact absurd o1 (R.fz_own _)
    · rcases set_get e2' with ⟨rfl, rfl⟩ | ⟨n2, e2'⟩
      · exact absurd o2 (R.fz_own _)
      · exact R0.sep j k r' r'' v' e1' e2' o1 o2
  · rcases set_get e' with ⟨rfl, rfl⟩ | ⟨n, e'⟩
    · have := R0.kind j r e
      cases r <;> first | exact this | trivial
    · exact R0.kind j r' e'
end
section
variable {X : Cx} {pos : Pos}
theorem qe_nm {i : Nat} {x : Str} (hN : X.N[i]? = some x := by rfl) (hv : Vis X.env.scope x := by first | exact Or.inl rfl | exact Or.inr (Or.inl rfl) | exact Or.inr (Or.inr rfl)) (hd : (x == ("__debug__" : Str)) = false := by decide) (hcd : (x == ("__classdict__" : Str)) = false := by decide) :
    QE X (.Name x pos) (dNm i) := by
  refine ⟨⟨fun pins s σ H Q I h => ?_⟩, fun ε Q Q' m h => ?_⟩
  · obtain ⟨G, ε, F, R0, h⟩ := h
    unfold dNm at h
    split at h
    · rename_i d e
      obtain ⟨v, e1, h1⟩ := R0.slots i _ e
      exact (pe_var (i := i) hN hv hd hcd).run pins s σ H Q I ⟨v, e1, h v H F R0 (.refl _) (.refl _ _) h1 (fun z => z.elim)⟩
    · rename_i d e
      obtain ⟨F', R1, ex, v, e1, rv⟩ := R0.let_slot (line_of I) e
      exact (pe_var (i := i) hN hv hd hcd).run pins s σ H Q I ⟨v, e1, h v H F' R1 ex (.refl _ _) rv (fun z => z.elim)⟩
    · rename_i d e
      obtain ⟨F', R1, ex, v, e1, rv⟩ := R0.let_slot (line_of I) e
      exact (pe_var (i := i) hN hv hd hcd).run pins s σ H Q I ⟨v, e1, h v H F' R1 ex (.refl _ _) rv (fun z => z.elim)⟩
    · exact h.elim
  · unfold dNm at h ⊢
    split <;> simp_all
theorem qe_bo {i : Nat} {x : Str} (hN : X.N[i]? = some x := by rfl) (hv : Vis X.env.scope x := by first | exact Or.inl rfl | exact Or.inr (Or.inl rfl) | exact Or.inr (Or.inr rfl)) (hd : (x == ("__debug__" : Str)) = false := by decide) (hcd : (x == ("__classdict__" : Str)) = false := by decide) :
    QE X (.Name x pos) (dBo i) := by
  refine ⟨⟨fun pins s σ H Q I h => ?_⟩, fun ε Q Q' m h => ?_⟩
  · obtain ⟨G, ε, F, R0, h⟩ := h
    unfold dBo at h
    split at h
    · rename_i d e
      obtain ⟨v, e1, h1⟩ := R0.slots i _ e
      exact (pe_var (i := i) hN hv hd hcd).run pins s σ H Q I ⟨v, e1, h v H F R0 (.refl _) (.refl _ _) h1 (fun z => z.elim)⟩
    · rename_i d e
      obtain ⟨v, e1, a, vs, rfl, h1, h2, h3, h4⟩ := R0.slots i _ e
      exact (pe_var (i := i) hN hv hd hcd).run pins s σ H Q I ⟨_, e1, h _ H F R0 (.refl _) (.refl _ _) ⟨a, vs, rfl, h1, h2, R0.neT h4⟩ (fun z => z.elim)⟩
    · rename_i d e
      obtain ⟨v, e1, a, vs, rfl, h1, h2, h3, h4⟩ := R0.slots i _ e
      exact (pe_var (i := i) hN hv hd hcd).run pins s σ H Q I ⟨_, e1, h _ H F R0 (.refl _) (.refl _ _) ⟨a, vs, rfl, h1, h2, R0.neT h4⟩ (fun z => z.elim)⟩
    · rename_i a d e
      obtain ⟨v, e1, vs, rfl, h1, h2, h3⟩ := R0.slots i _ e
      exact (pe_var (i := i) hN hv hd hcd).run pins s σ H Q I ⟨_, e1, h _ H F R0 (.refl _) (.refl _ _) ⟨a, vs, rfl, R0.keep _ _ h1 h3, h2, h3⟩ (fun z => z.elim)⟩
    · exact h.elim
  · unfold dBo at h ⊢
    split <;> simp_all
theorem qe_of_const {e : Expr} {v : V} {d : D} (h : PE X e (tC v)) (hd : ∀ T F, Dt T F v d) : QE X e (dC d) :=
  ⟨⟨fun pins s σ H Q I ⟨G, ε, F, R0, q⟩ => h.run pins s σ H Q I (q v H F R0 (.refl _) (.refl _ _) (hd _ _) (fun z => z.elim))⟩, fun ε Q Q' m h => m _ _ h⟩
theorem qe_int {i : Int} {j} : QE X (.Constant (.int i) j pos) (dC (.int i)) := qe_of_const pe_int fun _ _ => .int i
theorem qe_bl {b j} : QE X (.Constant (.bool b) j pos) (dC (.bl b)) := qe_of_const pe_bl fun _ _ => .bl b
theorem qe_non {j} : QE X (.Constant .none j pos) (dC .non) := qe_of_const pe_non fun _ _ => .non
theorem qe_str (l : List Nat) {x : Str} {j} (h : x = S l := by decide +kernel) : QE X (.Constant (.str x) j pos) (dC (.str l)) := by
  subst h
  exact qe_of_const pe_str fun _ _ => .strS l
theorem qe_gint {x : Str} {u : Value} {i : Int} (hg : Gl X x) (hm : X.mg x = some u) (r : ∃ t, u = .int i t) (hd : (x == ("__debug__" : Str)) = false := by decide) : QE X (.Name x pos) (dC (.int i)) :=
  qe_of_const (pe_glob (v := .int i) hg hm r hd) fun _ _ => .int i
theorem qe_gstr (l : List Nat) {x : Str} {u : Value} (hg : Gl X x) (hm : X.mg x = some u) (r : ∃ t, u = .str (S l) t) (hd : (x == ("__debug__" : Str)) = false := by decide) : QE X (.Name x pos) (dC (.str l)) :=
  qe_of_const (pe_glob (v := .str (S l)) hg hm r hd) fun _ _ => .strS l
end

/-! ### operations by data -/
abbrev W2 := D → D → (R → Prop) → Prop
structure OpD (X : Cx) (f : Value → Value → Sem Value) (w : W2) : Prop where
  mono : ∀ dx dy Q Q', (∀ r, Q r → Q' r) → w dx dy Q → w dx dy Q'
  run : ∀ (pins : List (Addr × Obj)) (s : Shared) (σ : L2.St) (H : Hp) (x y : V) (v u : Value) (Q : VK), Inv X pins σ H s → RelV x v → RelV y u →
    ∀ (G : Gh) (ε : Ev) (F : Hp) (dx dy : D), Rel G ε σ H F → DV G.T H F x dx → DV G.T H F y dy → w dx dy (fun r => Cont G σ H F Q r ε) → wpAny (model X.prog X.w) X.A (f v u) (EP X pins σ Q) X.xe s
theorem OpD.of {X : Cx} {f : Value → Value → Sem Value} {w : W2} {r : R2} (m : ∀ dx dy Q Q', (∀ r, Q r → Q' r) → w dx dy Q → w dx dy Q') (ho : OpR X f r)
    (h : ∀ (σ : L2.St) (H : Hp) (x y : V) (Q : VK) (G : Gh) (ε : Ev) (F : Hp) (dx dy : D), Line H → Rel G ε σ H F → DV G.T H F x dx → DV G.T H F y dy → w dx dy (fun r => Cont G σ H F Q r ε) → r x y H Q) : OpD X f w :=
  ⟨m, fun pins s σ H x y v u Q I rx ry G ε F dx dy R0 hx hy q => ho pins s σ H x y v u Q I rx ry (h σ H x y Q G ε F dx dy (line_of I) R0 hx hy q)⟩
def dBin (w : W2) (ta tb : TEd) : TEd := fun ε Q => ta ε fun r1 ε1 => tb ε1 fun r2 ε2 => w r1.d r2.d fun r => Q r ε2
section
variable {X : Cx} {a b c : Expr} {ta tb tc : TEd} {pos : Pos} {w w2 : W2}
theorem dBin_mono {f} (ho : OpD X f w) (ha : MonoE ta) (hb : MonoE tb) : MonoE (dBin w ta tb) := fun ε Q Q' m h =>
  ha _ _ _ (fun r1 ε1 h1 => hb _ _ _ (fun r2 ε2 h2 => ho.mono _ _ _ _ (fun r q => m r ε2 q) h2) h1) h
theorem bin_get (ha : QE X a ta) (hb : QE X b tb) {f : Value → Value → Sem Value} (ho : OpD X f w) {pins : List (Addr × Obj)} {s : Shared} {σ : L2.St} {H F : Hp} {G : Gh} {ε : Ev} {Q : VK} (I : Inv X pins σ H s) (R0 : Rel G ε σ H F)
    (h : dBin w ta tb ε (Cont G σ H F Q)) :
    wpAny (model X.prog X.w) X.A (eval a X.env) (fun v s₁ => wpAny (model X.prog X.w) X.A (eval b X.env) (fun u s₂ => wpAny (model X.prog X.w) X.A (f v u) (EP X pins σ Q) X.xe s₂) X.xe s₁) X.xe s := by
  refine thn (ha.gets I R0 h) ?_
  rintro v s1 ⟨x, H1, r1, ε1, F1, I1, rv1, p1, R1, ex1, kp1, q1⟩
  refine thn (hb.get I1 R1 p1) ?_
  rintro u s2 ⟨y, H2, r2, ε2, F2, I2, rv2, p2, R2, ex2, kp2, q2, ln2⟩
  have d1 := (q1.keep R1 (R.fz_own _) ex2 kp2).dv R2
  rw [R.fz_d] at d1
  exact ho.run pins s2 σ H2 x y v u Q I2 rv1 rv2 G ε2 F2 _ _ R2 d1 (q2.dv R2) (ho.mono _ _ _ _ (fun r q => q.shift (ex1.trans ex2) (kp1.trans kp2)) p2)
theorem qe_bin {op : Operator} (ho : OpD X (binaryOp op) w) (ha : QE X a ta) (hb : QE X b tb) : QE X (.BinOp a op b pos) (dBin w ta tb) :=
  ⟨⟨fun pins s σ H Q I ⟨G, ε, F, R0, h⟩ => wpAny_BinOp (bin_get ha hb ho I R0 h)⟩, dBin_mono ho ha.mono hb.mono⟩
theorem qe_cmp {op : CmpOp} (ho : OpD X (compareOp op) w) (ha : QE X a ta) (hb : QE X b tb) (hm : behindInMarks op b = false) : QE X (.Compare a [op] [b] pos) (dBin w ta tb) :=
  ⟨⟨fun pins s σ H Q I ⟨G, ε, F, R0, h⟩ => wpAny_Compare1 (bin_get ha hb ho I R0 h) hm⟩, dBin_mono ho ha.mono hb.mono⟩
/-- as a test -/
def dTst (t : TEd) : TTd := fun ε Q => t ε fun r ε' => ∃ k, r = .fr (.bl k) ∧ Q k ε'
theorem dTst_mono {t : TEd} (h : MonoE t) : MonoT (dTst t) := fun ε Q Q' m q => h _ _ _ (fun r ε' ⟨k, e, q⟩ => ⟨k, e, m _ _ q⟩) q
theorem qt_cmp {op : CmpOp} (ho : OpD X (compareOp op) w) (ha : QE X a ta) (hb : QE X b tb) (hm : behindInMarks op b = false) : QT X (.Compare a [op] [b] pos) (dTst (dBin w ta tb)) := by
  refine ⟨⟨fun pins s σ H Q I ⟨G, ε, F, R0, h⟩ => ?_⟩, dTst_mono (dBin_mono ho ha.mono hb.mono)⟩
  have h' : dBin w ta tb ε (Cont G σ H F fun x H' => ∃ k, x = .bl k ∧ Q k H') := dBin_mono ho ha.mono hb.mono _ _ _ (fun r ε' ⟨k, e, q⟩ => by
    subst e
    intro v H' F' R1 ex kp rv ln
    cases rv
    exact ⟨k, rfl, q H' F' R1 ex kp⟩) h
  refine wpAny_isTrue_Compare1 (thn (bin_get ha hb ho I R0 h') fun v s1 h1 => thn h1 fun u s2 h2 => thn h2 fun cc s3 ⟨x, H3, I3, r3, k, e, q3⟩ => ?_) hm
  subst e
  cases r3
  exact wpAny_truthy_bool ⟨H3, I3, q3⟩
/-- a op1 b op2 c -/
def dChn (w w2 : W2) (ta tb tc : TEd) : TEd := fun ε Q => ta ε fun r1 ε1 => tb ε1 fun r2 ε2 => w r1.d r2.d fun r => ∃ k, r = .fr (.bl k) ∧ (if k = true then tc ε2 fun r3 ε3 => w2 r2.d r3.d fun r' => Q r' ε3 else Q (.fr (.bl false)) ε2)
theorem dChn_mono {f f2} (ho : OpD X f w) (ho2 : OpD X f2 w2) (ha : MonoE ta) (hb : MonoE tb) (hc : MonoE tc) : MonoE (dChn w w2 ta tb tc) := fun ε Q Q' m h =>
  ha _ _ _ (fun r1 ε1 h1 => hb _ _ _ (fun r2 ε2 h2 => ho.mono _ _ _ _ (fun r ⟨k, e, q⟩ => ⟨k, e, by
    cases k with
    | true => simp only [if_true] at q ⊢; exact hc _ _ _ (fun r3 ε3 h3 => ho2.mono _ _ _ _ (fun r q => m _ _ q) h3) q
    | false => simp only [Bool.false_eq_true, if_false] at q ⊢; exact m _ _ q⟩) h2) h1) h
theorem qe_chn {op op' : CmpOp} (ho : OpD X (compareOp op) w) (ho2 : OpD X (compareOp op') w2) (ha : QE X a ta) (hb : QE X b tb) (hc : QE X c tc)
    (hm : lastMarks [op, op'] [b, c] = false := by with_unfolding_all rfl) : QE X (.Compare a [op, op'] [b, c] pos) (dChn w w2 ta tb tc) := by
  refine ⟨⟨fun pins s σ H Q I ⟨G, ε, F, R0, h⟩ => ?_⟩, dChn_mono ho ho2 ha.mono hb.mono hc.mono⟩
  refine Compare_chain (thn (ha.gets I R0 h) ?_) hm
  rintro v s1 ⟨x, H1, r1, ε1, F1, I1, rv1, p1, R1, ex1, kp1, q1⟩
  refine chain_link (thn (hb.gets I1 R1 p1) ?_)
  rintro u s2 ⟨y, H2, r2, ε2, F2, I2, rv2, p2, R2, ex2, kp2, q2⟩
  have d1 := (q1.keep R1 (R.fz_own _) ex2 kp2).dv R2
  have d2 := q2.dv R2
  rw [R.fz_d] at d1 d2
  refine thn (ho.run pins s2 σ H2 x y v u (fun z H3 => ∃ k F3, z = .bl k ∧ Rel G ε2 σ H3 F3 ∧ Ext F2 F3 ∧ Kept G.T H2 H3 ∧ (if k = true then tc ε2 fun r3 ε3 => w2 r2.d r3.d fun r' => Cont G σ H F Q r' ε3 else Cont G σ H F Q (.fr (.bl false)) ε2)) I2 rv1 rv2 G ε2 F2 _ _ R2 d1 d2 (ho.mono _ _ _ _ (fun r ⟨k, e, q⟩ => by
    subst e
    intro v' H' F' R3 ex kp rv ln
    cases rv
    exact ⟨k, F', rfl, R3, ex, kp, q⟩) p2)) ?_
  rintro d s3 ⟨z, H3, I3, r3, k, F3, e, R3, ex3, kp3, q3⟩
  subst e
  cases r3
  refine wpAny_truthy_bool ?_
  cases k with
  | false =>
    simp only [Bool.false_eq_true, if_false] at q3
    exact ite_ff ⟨.bl false, H3, I3, rfl, q3 _ _ _ R3 ((ex1.trans ex2).trans ex3) ((kp1.trans kp2).trans kp3) (.bl false) (fun z => z.elim)⟩
  | true =>
    simp only [if_true] at q3
    refine ite_tt (chain_last (thn (hc.get I3 R3 q3) ?_))
    rintro w' s4 ⟨z', H4, r4, ε4, F4, I4, rv4, p4, R4, ex4, kp4, q4, ln4⟩
    have d2' := ((q2.keep R2 (R.fz_own _) ex3 kp3).keep R3 (R.fz_own _) ex4 kp4).dv R4
    rw [R.fz_d] at d2'
    exact ho2.run pins s4 σ H4 y z' u w' Q I4 rv2 rv4 G ε4 F4 _ _ R4 d2' (q4.dv R4) (ho2.mono _ _ _ _ (fun r q => q.shift (((ex1.trans ex2).trans ex3).trans ex4) (((kp1.trans kp2).trans kp3).trans kp4)) p4)
/-- a test by its value -/
theorem qt_bool {e : Expr} {t : TEd} (h : QE X e t) (he : ∀ whole, isTrue e X.env whole = (do let v ← whole; standAt e.pos; holding [v] (truthy v)) := by intro _; rfl) : QT X e (dTst t) := by
  refine ⟨⟨fun pins s σ H Q I ⟨G, ε, F, R0, q⟩ => ?_⟩, dTst_mono h.mono⟩
  refine isTrue_plain (thn (h.get I R0 q) ?_) (he _)
  rintro v s1 ⟨x, H1, r, ε1, F1, I1, r1, ⟨k, e, p⟩, R1, ex, kp, rv, ln⟩
  subst e
  cases rv
  cases r1
  exact wpAny_truthy_bool ⟨H1, I1, p H1 F1 R1 ex kp⟩
theorem qt_chn {op op' : CmpOp} (ho : OpD X (compareOp op) w) (ho2 : OpD X (compareOp op') w2) (ha : QE X a ta) (hb : QE X b tb) (hc : QE X c tc)
    (hm : lastMarks [op, op'] [b, c] = false := by with_unfolding_all rfl) : QT X (.Compare a [op, op'] [b, c] pos) (dTst (dChn w w2 ta tb tc)) := by
  refine ⟨⟨fun pins s σ H Q I ⟨G, ε, F, R0, h⟩ => ?_⟩, dTst_mono (dChn_mono ho ho2 ha.mono hb.mono hc.mono)⟩
  have h : dChn w w2 ta tb tc ε (Cont G σ H F fun x H' => ∃ k, x = .bl k ∧ Q k H') := dChn_mono ho ho2 ha.mono hb.mono hc.mono _ _ _ (fun r ε' ⟨k, e, q⟩ => by
    subst e
    intro v H' F' R1 ex kp rv ln
    cases rv
    exact ⟨k, rfl, q H' F' R1 ex kp⟩) h
  refine isTrue_chain (thn (ha.gets I R0 h) ?_) hm
  rintro v s1 ⟨x, H1, r1, ε1, F1, I1, rv1, p1, R1, ex1, kp1, q1⟩
  refine test_link (thn (hb.gets I1 R1 p1) ?_)
  rintro u s2 ⟨y, H2, r2, ε2, F2, I2, rv2, p2, R2, ex2, kp2, q2⟩
  have d1 := (q1.keep R1 (R.fz_own _) ex2 kp2).dv R2
  have d2 := q2.dv R2
  rw [R.fz_d] at d1 d2
  refine thn (ho.run pins s2 σ H2 x y v u (fun z H3 => ∃ k F3, z = .bl k ∧ Rel G ε2 σ H3 F3 ∧ Ext F2 F3 ∧ Kept G.T H2 H3 ∧ (if k = true then tc ε2 fun r3 ε3 => w2 r2.d r3.d fun r' => Cont G σ H F (fun x H' => ∃ k, x = .bl k ∧ Q k H') r' ε3 else Cont G σ H F (fun x H' => ∃ k, x = .bl k ∧ Q k H') (.fr (.bl false)) ε2)) I2 rv1 rv2 G ε2 F2 _ _ R2 d1 d2 (ho.mono _ _ _ _ (fun r ⟨k, e, q⟩ => by
    subst e
    intro v' H' F' R3 ex kp rv ln
    cases rv
    exact ⟨k, F', rfl, R3, ex, kp, q⟩) p2)) ?_
  rintro d s3 ⟨z, H3, I3, r3, k, F3, e, R3, ex3, kp3, q3⟩
  subst e
  cases r3
  refine wpAny_truthy_bool ?_
  cases k with
  | false =>
    simp only [Bool.false_eq_true, if_false] at q3
    obtain ⟨k', e', q'⟩ := q3 _ _ _ R3 ((ex1.trans ex2).trans ex3) ((kp1.trans kp2).trans kp3) (.bl false) (fun z => z.elim)
    cases e'
    exact ite_ff ⟨H3, I3, q'⟩
  | true =>
    simp only [if_true] at q3
    refine ite_tt (test_last (thn (hc.get I3 R3 q3) ?_))
    rintro w' s4 ⟨z', H4, r4, ε4, F4, I4, rv4, p4, R4, ex4, kp4, q4, ln4⟩
    have d2' := ((q2.keep R2 (R.fz_own _) ex3 kp3).keep R3 (R.fz_own _) ex4 kp4).dv R4
    rw [R.fz_d] at d2'
    refine thn (ho2.run pins s4 σ H4 y z' u w' (fun x H' => ∃ k, x = .bl k ∧ Q k H') I4 rv2 rv4 G ε4 F4 _ _ R4 d2' (q4.dv R4) (ho2.mono _ _ _ _ (fun r q => q.shift (((ex1.trans ex2).trans ex3).trans ex4) (((kp1.trans kp2).trans kp3).trans kp4)) p4)) ?_
    rintro d' s5 ⟨z2, H5, I5, r5, k2, e2, q5⟩
    subst e2
    cases r5
    exact wpAny_truthy_bool ⟨H5, I5, q5⟩
end

/-! ### and, or, not, if else -/
structure QW (X : Cx) (e : Expr) (t : TTd) : Prop where
  pw : PW X e (liftT t)
  mono : MonoT t
section
variable {X : Cx} {a b c : Expr} {ta tb tc : TEd} {t u : TTd} {pos : Pos} {rest : List Expr} {e : Expr}
variable {pins : List (Addr × Obj)} {σ : L2.St} {H F : Hp} {s : Shared} {G : Gh} {ε : Ev}
theorem QT.get (h : QT X e t) (I : Inv X pins σ H s) (R0 : Rel G ε σ H F) {P : Bool → Ev → Prop} (q : t ε P) :
    wpAny (model X.prog X.w) X.A (isTrue e X.env (eval e X.env)) (fun b s1 => ∃ H1 ε1 F1, Inv X pins σ H1 s1 ∧ P b ε1 ∧ Rel G ε1 σ H1 F1 ∧ Ext F F1 ∧ Kept G.T H H1) X.xe s := by
  refine thn (h.pt.run pins s σ H (fun b H1 => ∃ ε1 F1, P b ε1 ∧ Rel G ε1 σ H1 F1 ∧ Ext F F1 ∧ Kept G.T H H1) I ⟨G, ε, F, R0, h.mono _ _ _ (fun r ε' p H' F' R1 ex kp => ⟨ε', F', p, R1, ex, kp⟩) q⟩) ?_
  rintro b s1 ⟨H1, I1, ε1, F1, p, R1, ex, kp⟩
  exact ⟨H1, ε1, F1, I1, p, R1, ex, kp⟩
theorem ContT.shift {Q : Bool → Hp → Prop} {k : Bool} {H' F' : Hp} (h : ContT G σ H F Q k ε) (ex : Ext F F') (kp : Kept G.T H H') : ContT G σ H' F' Q k ε := fun H2 F2 R2 ex2 kp2 => h H2 F2 R2 (ex.trans ex2) (kp.trans kp2)
theorem QW.qt (h : QW X e t) : QT X e t := ⟨h.pw.pt, h.mono⟩
def dAnd (t u : TTd) : TTd := fun ε Q => t ε fun k ε1 => if k = true then u ε1 Q else Q false ε1
def dOr (t u : TTd) : TTd := fun ε Q => t ε fun k ε1 => if k = true then Q true ε1 else u ε1 Q
def dNot (t : TTd) : TTd := fun ε Q => t ε fun k ε1 => Q (!k) ε1
theorem dAnd_mono (h : MonoT t) (h' : MonoT u) : MonoT (dAnd t u) := fun ε Q Q' m q => h _ _ _ (fun k ε1 q => by
  cases k with
  | true => simp only [if_true] at q ⊢; exact h' _ _ _ m q
  | false => simp only [Bool.false_eq_true, if_false] at q ⊢; exact m _ _ q) q
theorem dOr_mono (h : MonoT t) (h' : MonoT u) : MonoT (dOr t u) := fun ε Q Q' m q => h _ _ _ (fun k ε1 q => by
  cases k with
  | true => simp only [if_true] at q ⊢; exact m _ _ q
  | false => simp only [Bool.false_eq_true, if_false] at q ⊢; exact h' _ _ _ m q) q
theorem qw_and1 (ha : QT X a t) : QW X (.BoolOp .And [a] pos) t := ⟨pw_and1 ha.pt, ha.mono⟩
theorem qw_or1 (ha : QT X a t) : QW X (.BoolOp .Or [a] pos) t := ⟨pw_or1 ha.pt, ha.mono⟩
theorem qw_and (ha : QT X a t) (hb : QW X (.BoolOp .And (b :: rest) pos) u) : QW X (.BoolOp .And (a :: b :: rest) pos) (dAnd t u) := by
  refine ⟨⟨fun wh pins s σ H Q I ⟨G, ε, F, R0, h⟩ => ?_⟩, dAnd_mono ha.mono hb.mono⟩
  refine isTrue_and (thn (ha.get I R0 h) ?_)
  rintro k s1 ⟨H1, ε1, F1, I1, p, R1, ex, kp⟩
  cases k with
  | true =>
    simp only [if_true] at p
    exact hb.pw.run wh pins s1 σ H1 Q I1 ⟨G, ε1, F1, R1, hb.mono _ _ _ (fun k ε2 q => q.shift ex kp) p⟩
  | false =>
    simp only [Bool.false_eq_true, if_false] at p
    exact ⟨H1, I1, p H1 F1 R1 ex kp⟩
theorem qw_or (ha : QT X a t) (hb : QW X (.BoolOp .Or (b :: rest) pos) u) : QW X (.BoolOp .Or (a :: b :: rest) pos) (dOr t u) := by
  refine ⟨⟨fun wh pins s σ H Q I ⟨G, ε, F, R0, h⟩ => ?_⟩, dOr_mono ha.mono hb.mono⟩
  refine isTrue_or (thn (ha.get I R0 h) ?_)
  rintro k s1 ⟨H1, ε1, F1, I1, p, R1, ex, kp⟩
  cases k with
  | false =>
    simp only [Bool.false_eq_true, if_false] at p
    exact hb.pw.run wh pins s1 σ H1 Q I1 ⟨G, ε1, F1, R1, hb.mono _ _ _ (fun k ε2 q => q.shift ex kp) p⟩
  | true =>
    simp only [if_true] at p
    exact ⟨H1, I1, p H1 F1 R1 ex kp⟩
theorem qt_not (ha : QT X a t) : QT X (.UnaryOp .Not a pos) (dNot t) := by
  refine ⟨⟨fun pins s σ H Q I ⟨G, ε, F, R0, h⟩ => ?_⟩, fun ε Q Q' m q => ha.mono _ _ _ (fun k ε1 q => m _ _ q) q⟩
  exact isTrue_not (ha.pt.run pins s σ H (fun c H1 => Q (!c) H1) I ⟨G, ε, F, R0, h⟩)
/-- values -/
def dAndV (ta tb : TEd) : TEd := fun ε Q => ta ε fun r ε1 => ∃ k, r = .fr (.bl k) ∧ if k = true then tb ε1 Q else Q (.fr (.bl false)) ε1
def dOrV (ta tb : TEd) : TEd := fun ε Q => ta ε fun r ε1 => ∃ k, r = .fr (.bl k) ∧ if k = true then Q (.fr (.bl true)) ε1 else tb ε1 Q
def dNotV (ta : TEd) : TEd := fun ε Q => ta ε fun r ε1 => ∃ k, r = .fr (.bl k) ∧ Q (.fr (.bl (!k))) ε1
theorem qe_one {op} (h : QE X a ta) : QE X (.BoolOp op [a] pos) ta := ⟨pe_one h.pe, h.mono⟩
theorem qe_and (ha : QE X a ta) (hb : QE X (.BoolOp .And (b :: rest) pos) tb) : QE X (.BoolOp .And (a :: b :: rest) pos) (dAndV ta tb) := by
  refine ⟨⟨fun pins s σ H Q I ⟨G, ε, F, R0, h⟩ => ?_⟩, fun ε Q Q' m q => ha.mono _ _ _ (fun r ε1 ⟨k, e, q⟩ => ⟨k, e, by
    cases k with
    | true => simp only [if_true] at q ⊢; exact hb.mono _ _ _ m q
    | false => simp only [Bool.false_eq_true, if_false] at q ⊢; exact m _ _ q⟩) q⟩
  refine BoolOp_and (thn (ha.get I R0 h) ?_)
  rintro v s1 ⟨x, H1, r, ε1, F1, I1, r1, ⟨k, e, p⟩, R1, ex, kp, rv, ln⟩
  subst e
  cases rv
  cases r1
  refine wpAny_truthy_bool ?_
  cases k with
  | true =>
    simp only [if_true] at p
    exact hb.pe.run pins s1 σ H1 Q I1 ⟨G, ε1, F1, R1, hb.mono _ _ _ (fun r ε2 q => q.shift ex kp) p⟩
  | false =>
    simp only [Bool.false_eq_true, if_false] at p
    exact ⟨.bl false, H1, I1, rfl, p _ H1 F1 R1 ex kp (.bl false) (fun z => z.elim)⟩
theorem qe_or (ha : QE X a ta) (hb : QE X (.BoolOp .Or (b :: rest) pos) tb) : QE X (.BoolOp .Or (a :: b :: rest) pos) (dOrV ta tb) := by
  refine ⟨⟨fun pins s σ H Q I ⟨G, ε, F, R0, h⟩ => ?_⟩, fun ε Q Q' m q => ha.mono _ _ _ (fun r ε1 ⟨k, e, q⟩ => ⟨k, e, by
    cases k with
    | true => simp only [if_true] at q ⊢; exact m _ _ q
    | false => simp only [Bool.false_eq_true, if_false] at q ⊢; exact hb.mono _ _ _ m q⟩) q⟩
  refine BoolOp_or (thn (ha.get I R0 h) ?_)
  rintro v s1 ⟨x, H1, r, ε1, F1, I1, r1, ⟨k, e, p⟩, R1, ex, kp, rv, ln⟩
  subst e
  cases rv
  cases r1
  refine wpAny_truthy_bool ?_
  cases k with
  | false =>
    simp only [Bool.false_eq_true, if_false] at p
    exact hb.pe.run pins s1 σ H1 Q I1 ⟨G, ε1, F1, R1, hb.mono _ _ _ (fun r ε2 q => q.shift ex kp) p⟩
  | true =>
    simp only [if_true] at p
    exact ⟨.bl true, H1, I1, rfl, p _ H1 F1 R1 ex kp (.bl true) (fun z => z.elim)⟩
theorem qe_not (ha : QE X a ta) : QE X (.UnaryOp .Not a pos) (dNotV ta) := by
  refine ⟨⟨fun pins s σ H Q I ⟨G, ε, F, R0, h⟩ => ?_⟩, fun ε Q Q' m q => ha.mono _ _ _ (fun r ε1 ⟨k, e, q⟩ => ⟨k, e, m _ _ q⟩) q⟩
  refine UnaryOp_ (thn (ha.get I R0 h) ?_)
  rintro v s1 ⟨x, H1, r, ε1, F1, I1, r1, ⟨k, e, p⟩, R1, ex, kp, rv, ln⟩
  subst e
  cases rv
  cases r1
  exact not_of (wpAny_truthy_bool ⟨.bl (!k), H1, I1, rfl, p _ H1 F1 R1 ex kp (.bl _) (fun z => z.elim)⟩)
/-- a if t else b -/
def dIf (t : TTd) (ta tb : TEd) : TEd := fun ε Q => t ε fun k ε1 => if k = true then ta ε1 Q else tb ε1 Q
theorem qe_ifE (hc : QT X c t) (ha : QE X a ta) (hb : QE X b tb) : QE X (.IfExp c a b pos) (dIf t ta tb) := by
  refine ⟨⟨fun pins s σ H Q I ⟨G, ε, F, R0, h⟩ => ?_⟩, fun ε Q Q' m q => hc.mono _ _ _ (fun k ε1 q => by
    cases k with
    | true => simp only [if_true] at q ⊢; exact ha.mono _ _ _ m q
    | false => simp only [Bool.false_eq_true, if_false] at q ⊢; exact hb.mono _ _ _ m q) q⟩
  refine wpAny_IfExp (thn (hc.get I R0 h) ?_)
  rintro d s1 ⟨H1, ε1, F1, I1, p, R1, ex, kp⟩
  cases d with
  | true =>
    simp only [if_true] at p
    exact ha.pe.run pins s1 σ H1 Q I1 ⟨G, ε1, F1, R1, ha.mono _ _ _ (fun r ε2 q => q.shift ex kp) p⟩
  | false =>
    simp only [Bool.false_eq_true, if_false] at p
    exact hb.pe.run pins s1 σ H1 Q I1 ⟨G, ε1, F1, R1, hb.mono _ _ _ (fun r ε2 q => q.shift ex kp) p⟩
end

/-! ### argument lists, displays, calls of builtins -/
def dNil : TAd := fun ε Q => Q [] ε
def dCons (ta : TEd) (tr : TAd) : TAd := fun ε Q => ta ε fun r ε1 => tr ε1 fun rs ε2 => Q (r.fz :: rs) ε2
def R.isFr : R → Bool
  | .fr _ => true
  | _ => false
theorem R.isFr_of {r : R} (h : r.isFr = true) : r = .fr r.d := by cases r <;> first | rfl | cases h
section
variable {G : Gh} {ε : Ev} {σ : L2.St} {H H' F F' : Hp}
theorem RVs.keep (R0 : Rel G ε σ H F) (ex : Ext F F') (kp : Kept G.T H H') : ∀ {vs : List V} {rs : List R}, RVs G H F vs rs → (∀ r ∈ rs, ¬ r.own) → RVs G H' F' vs rs
  | _, _, .nil, _ => .nil
  | _, _, .cons h t, n => .cons (h.keep R0 (n _ List.mem_cons_self) ex kp) (RVs.keep R0 ex kp t fun r hr => n r (List.mem_cons_of_mem _ hr))
theorem RVs.dvs (R0 : Rel G ε σ H F) : ∀ {vs : List V} {rs : List R}, RVs G H F vs rs → DVs G.T H F vs (rs.map R.d)
  | _, _, .nil => .nil
  | _, _, .cons h t => .cons (h.dv R0) (RVs.dvs R0 t)
theorem RVs.dts : ∀ {vs : List V} {rs : List R}, RVs G H F vs rs → rs.all R.isFr = true → DtAll G.T F vs (rs.map R.d)
  | _, _, .nil, _ => .nil
  | _, _, .cons (r := r) h t, e => by
    simp only [List.all_cons, Bool.and_eq_true] at e
    have h' := h
    rw [R.isFr_of e.1] at h'
    exact .cons h' (RVs.dts t e.2)
theorem RVs.len : ∀ {vs : List V} {rs : List R}, RVs G H F vs rs → vs.length = rs.length
  | _, _, .nil => rfl
  | _, _, .cons _ t => by simp [RVs.len t]
end
section
variable {X : Cx} {e : Expr} {es : List Expr} {te : TEd} {t : TAd} {pos : Pos}
variable {pins : List (Addr × Obj)} {σ : L2.St} {H F : Hp} {s : Shared} {G : Gh} {ε : Ev}
theorem QA.get (h : QA X es t) (pos : Pos) (I : Inv X pins σ H s) (R0 : Rel G ε σ H F) {P : List R → Ev → Prop} (q : t ε P) :
    wpAny (model X.prog X.w) X.A (spliced (backTo pos (starEach es X.env))) (fun us s1 => ∃ vs H1 rs ε1 F1, Inv X pins σ H1 s1 ∧ Vals vs us ∧ P rs ε1 ∧ Rel G ε1 σ H1 F1 ∧ Ext F F1 ∧ Kept G.T H H1 ∧ RVs G H1 F1 vs rs ∧ (∀ r ∈ rs, ¬ r.own)) X.xe s := by
  refine thn (h.pa.run pos pins s σ H (fun vs H1 => ∃ rs ε1 F1, P rs ε1 ∧ Rel G ε1 σ H1 F1 ∧ Ext F F1 ∧ Kept G.T H H1 ∧ RVs G H1 F1 vs rs ∧ (∀ r ∈ rs, ¬ r.own)) I ⟨G, ε, F, R0, h.mono _ _ _ (fun rs ε' p vs H' F' R1 ex kp rv no => ⟨rs, ε', F', p, R1, ex, kp, rv, no⟩) q⟩) ?_
  rintro us s1 ⟨vs, H1, I1, r1, rs, ε1, F1, p, R1, ex, kp, rv, no⟩
  exact ⟨vs, H1, rs, ε1, F1, I1, r1, p, R1, ex, kp, rv, no⟩
theorem qa_nil : QA X [] dNil := ⟨⟨fun pos pins s σ H Q I ⟨G, ε, F, R0, h⟩ => pa_nil.run pos pins s σ H Q I (h [] H F R0 (.refl _) (.refl _ _) .nil (fun r hr => by cases hr))⟩, fun ε Q Q' m q => m _ _ q⟩
theorem qa_cons (ha : QE X e te) (hr : QA X es t) (hs : starEach (e :: es) X.env = (false, eval e X.env) :: starEach es X.env := by rfl) : QA X (e :: es) (dCons te t) := by
  refine ⟨⟨fun pos pins s σ H Q I ⟨G, ε, F, R0, h⟩ => ?_⟩, fun ε Q Q' m q => ha.mono _ _ _ (fun r ε1 q => hr.mono _ _ _ (fun rs ε2 q => m _ _ q) q) q⟩
  rw [hs]
  show wpAny _ _ (spliced ((false, eval e X.env) :: backTo pos (starEach es X.env))) _ _ s
  refine Calls.spliced_cons (thn (ha.gets I R0 h) ?_)
  rintro u s1 ⟨x, H1, r, ε1, F1, I1, r1, p1, R1, ex1, kp1, q1⟩
  refine thn (hr.get pos I1 R1 p1) ?_
  rintro us s2 ⟨vs, H2, rs, ε2, F2, I2, r2, p2, R2, ex2, kp2, q2, no⟩
  exact ⟨x :: vs, H2, I2, .cons r1 r2, p2 _ H2 F2 R2 (ex1.trans ex2) (kp1.trans kp2) (.cons (q1.keep R1 (R.fz_own _) ex2 kp2) q2) (fun r' hr' => by
    rcases List.mem_cons.mp hr' with rfl | hr'
    · exact R.fz_own _
    · exact no _ hr')⟩
def dLst (t : TAd) : TEd := fun ε Q => t ε fun rs ε1 => rs.all R.isFr = true ∧ rs.length ≤ sizeLine ∧ Q (.ow (rs.map R.d)) ε1
def dTup (t : TAd) : TEd := fun ε Q => t ε fun rs ε1 => rs.all R.isFr = true ∧ rs.length ≤ sizeLine ∧ Q (.fr (.tup (rs.map R.d))) ε1
theorem mono_disp {f : List R → R} (h : MonoA t) : MonoE (fun ε Q => t ε fun rs ε1 => rs.all R.isFr = true ∧ rs.length ≤ sizeLine ∧ Q (f rs) ε1) := fun ε Q Q' m q => h _ _ _ (fun rs ε1 ⟨a, b, q⟩ => ⟨a, b, m _ _ q⟩) q
theorem ext_of {Q : VK} {r : R} {H' F' : Hp} {ε' : Ev} (h : Cont G σ H F Q r ε') (ex : Ext F F') (kp : Kept G.T H H') : Cont G σ H' F' Q r ε' := h.shift ex kp
theorem qe_lst (h : QA X es t) : QE X (.List es pos) (dLst t) := by
  refine ⟨⟨fun pins s σ H Q I ⟨G, ε, F, R0, q⟩ => ?_⟩, mono_disp h.mono⟩
  have PA' : PA X es (fun σ' H' Q' => σ' = σ ∧ H' = H ∧ liftA t σ H Q') := ⟨fun pos pins' s' σ' H' Q' I' h' => by
    obtain ⟨e1, e2, h2⟩ := h'
    rw [e1, e2] at I'
    rw [e1]
    exact h.pa.run pos pins' s' σ H Q' I' h2⟩
  refine (pe_lst PA').run pins s σ H Q I ⟨rfl, rfl, G, ε, F, R0, h.mono _ _ _ (fun rs ε1 ⟨e, hl, q⟩ => ?_) q⟩
  intro vs H1 F1 R1 ex kp rv no
  exact ⟨by rw [rv.len]; exact hl, fun p hp => (q.shift ex kp).lst R1 (rv.dts e) p hp⟩
theorem qe_tup {x1} (h : QA X es t) : QE X (.Tuple es x1 pos) (dTup t) := by
  refine ⟨⟨fun pins s σ H Q I ⟨G, ε, F, R0, q⟩ => ?_⟩, mono_disp h.mono⟩
  have PA' : PA X es (fun σ' H' Q' => σ' = σ ∧ H' = H ∧ liftA t σ H Q') := ⟨fun pos pins' s' σ' H' Q' I' h' => by
    obtain ⟨e1, e2, h2⟩ := h'
    rw [e1, e2] at I'
    rw [e1]
    exact h.pa.run pos pins' s' σ H Q' I' h2⟩
  refine (pe_tup PA').run pins s σ H Q I ⟨rfl, rfl, G, ε, F, R0, h.mono _ _ _ (fun rs ε1 ⟨e, hl, q⟩ => ?_) q⟩
  intro vs H1 F1 R1 ex kp rv no
  exact ⟨by rw [rv.len]; exact hl, fun p hp => (q.shift ex kp).tup R1 (rv.dts e) (by rw [rv.len]; exact hl) p hp⟩

/-- a call by data -/
abbrev WL := List D → (R → Prop) → Prop
structure CallD (X : Cx) (f : Value) (w : WL) : Prop where
  mono : ∀ ds Q Q', (∀ r, Q r → Q' r) → w ds Q → w ds Q'
  run : ∀ (pins : List (Addr × Obj)) (s : Shared) (σ : L2.St) (H : Hp) (xs : List V) (us : List Value) (Q : VK), Inv X pins σ H s → Vals xs us →
    ∀ (G : Gh) (ε : Ev) (F : Hp) (ds : List D), Rel G ε σ H F → DVs G.T H F xs ds → w ds (fun r => Cont G σ H F Q r ε) → wpAny (model X.prog X.w) X.A (call f us) (EP X pins σ Q) X.xe s
theorem CallD.of {X : Cx} {f : Value} {w : WL} {r : List V → Hp → VK → Prop} (m : ∀ ds Q Q', (∀ r, Q r → Q' r) → w ds Q → w ds Q') (ho : CallR X f r)
    (h : ∀ (σ : L2.St) (H : Hp) (xs : List V) (Q : VK) (G : Gh) (ε : Ev) (F : Hp) (ds : List D), Line H → Rel G ε σ H F → DVs G.T H F xs ds → w ds (fun r => Cont G σ H F Q r ε) → r xs H Q) : CallD X f w :=
  ⟨m, fun pins s σ H xs us Q I rx G ε F ds R0 hx q => ho pins s σ H xs us Q I rx (h σ H xs Q G ε F ds (line_of I) R0 hx q)⟩
def dCB (w : WL) (t : TAd) : TEd := fun ε Q => t ε fun rs ε1 => w (rs.map R.d) fun r => Q r ε1
theorem dCB_mono {f} {w : WL} (hc : CallD X f w) (h : MonoA t) : MonoE (dCB w t) := fun ε Q Q' m q => h _ _ _ (fun rs ε1 q => hc.mono _ _ _ (fun r q => m _ _ q) q) q
theorem CallD.args {f : Value} {w : WL} (hc : CallD X f w) (h : QA X es t) (pos : Pos) {Q : VK} (I : Inv X pins σ H s) (R0 : Rel G ε σ H F) (q : dCB w t ε (Cont G σ H F Q)) :
    wpAny (model X.prog X.w) X.A (spliced (backTo pos (starEach es X.env))) (fun us s1 => wpAny (model X.prog X.w) X.A (call f us) (EP X pins σ Q) X.xe s1) X.xe s := by
  refine thn (h.get pos I R0 q) ?_
  rintro us s1 ⟨vs, H1, rs, ε1, F1, I1, r1, p, R1, ex, kp, rv, no⟩
  exact hc.run pins s1 σ H1 vs us Q I1 r1 G ε1 F1 _ R1 (rv.dvs R1) (hc.mono _ _ _ (fun r q => q.shift ex kp) p)
end
end DL

set_option Elab.async false
set_option linter.all false
set_option maxRecDepth 100000
set_option maxHeartbeats 4000000
/-! DLc: operators, subscripts, slices at the data level. -/
namespace DL
open PySem PySem.Spec PyProof.Rows L2

mutual
def D.py : D → PyData
  | .non => .none
  | .bl b => .bool b
  | .int i => .int i
  | .str l => .str (S l)
  | .lst ds => .list (pys ds)
  | .tup ds => .tuple (pys ds)
  | .dct _ => .dict []
  | .tape => .dict []
def pys : List D → List PyData
  | [] => []
  | d :: ds => d.py :: pys ds
end
theorem pys_eq : ∀ ds : List D, pys ds = ds.map D.py
  | [] => by rw [pys]; rfl
  | d :: ds => by rw [pys, pys_eq ds]; rfl
section
variable {K : PySem.W.Frag} {T : Addr} {H F : Hp}
mutual
theorem Dt.dp (sub : Ext F H) : ∀ (d : D) (v : V), Dt T F v d → d.py.canLay0 = true → Dp K H v d.py
  | .non, _, h, _ => by cases h; rw [D.py]; exact .non
  | .bl b, _, h, _ => by cases h; rw [D.py]; exact .bl b
  | .int i, _, h, _ => by cases h; rw [D.py]; exact .int i
  | .str l, _, h, _ => by cases h; rw [D.py]; exact .str _
  | .lst ds, _, h, c => by
    cases h with | lst e r =>
    rw [D.py] at c ⊢
    exact .lst (.inl (.inl (sub _ _ e))) (DtAll.dp sub ds _ r (by simpa [PyData.canLay0] using c))
  | .tup ds, _, h, c => by
    cases h with | tup e r =>
    rw [D.py] at c ⊢
    exact .tup (.inl (.inl (sub _ _ e))) (DtAll.dp sub ds _ r (by simpa [PyData.canLay0] using c))
  | .dct ds, _, _, c => by rw [D.py] at c; simp [PyData.canLay0] at c
  | .tape, _, _, c => by rw [D.py] at c; simp [PyData.canLay0] at c
theorem DtAll.dp (sub : Ext F H) : ∀ (ds : List D) (vs : List V), DtAll T F vs ds → PyData.canLayAll0 (pys ds) = true → DpAll K H vs (pys ds)
  | [], _, h, _ => by cases h; rw [pys]; exact .nil
  | d :: ds, _, h, c => by
    cases h with | cons e r =>
    rw [pys] at c ⊢
    simp only [PyData.canLayAll0, Bool.and_eq_true] at c
    exact .cons (Dt.dp sub d _ e c.1) (DtAll.dp sub ds _ r c.2)
end
theorem DV.dp (sub : Ext F H) {d : D} {v : V} (h : DV T H F v d) (c : d.py.canLay0 = true) : Dp K H v d.py := by
  cases d with
  | lst ds =>
    obtain ⟨a, vs, rfl, h1, h2⟩ := h
    rw [D.py] at c ⊢
    exact .lst (.inl (.inl h1)) (DtAll.dp sub ds _ h2 (by simpa [PyData.canLay0] using c))
  | dct ds => rw [D.py] at c; simp [PyData.canLay0] at c
  | non => exact Dt.dp sub _ _ h c
  | bl _ => exact Dt.dp sub _ _ h c
  | int _ => exact Dt.dp sub _ _ h c
  | str _ => exact Dt.dp sub _ _ h c
  | tup _ => exact Dt.dp sub _ _ h c
  | tape => exact Dt.dp sub _ _ h c
end
def D.eqv (x y : D) : Bool := PyData.eqv x.py y.py
def D.shp (d : D) : Prop := SeqAt.shaped d.py = true

/-! ### arithmetic -/
def wAdd : W2
  | .int i, .int j, Q => Q (.fr (.int (i + j)))
  | .str a, .str b, Q => a.length + b.length ≤ sizeLine ∧ Q (.fr (.str (a ++ b)))
  | .lst a, .lst b, Q => a.length + b.length ≤ sizeLine ∧ Q (.ow (a ++ b))
  | .tup a, .tup b, Q => a.length + b.length ≤ sizeLine ∧ Q (.fr (.tup (a ++ b)))
  | _, _, _ => False
def wSub : W2
  | .int i, .int j, Q => Q (.fr (.int (i - j)))
  | _, _, _ => False
def wMul : W2
  | .int i, .int j, Q => CMulW i j ∧ Q (.fr (.int (i * j)))
  | .str a, .int j, Q => -(2 ^ 63) ≤ j ∧ j < 2 ^ 63 ∧ a.length * j.toNat ≤ sizeLine ∧ Q (.fr (.str (List.replicate j.toNat a).flatten))
  | .lst a, .int j, Q => -(2 ^ 63) ≤ j ∧ j < 2 ^ 63 ∧ a.length * j.toNat ≤ sizeLine ∧ Q (.ow (List.replicate j.toNat a).flatten)
  | .tup a, .int j, Q => a ≠ [] ∧ 2 ≤ j ∧ j ≤ 1000 ∧ a.length ≤ 1000 ∧ Q (.fr (.tup (List.replicate j.toNat a).flatten))
  | _, _, _ => False
def wMod : W2
  | .int i, .int j, Q => 0 < j ∧ Q (.fr (.int (i % j)))
  | _, _, _ => False
def wFdv : W2
  | .int i, .int j, Q => CDivW i j ∧ Q (.fr (.int (i / j)))
  | _, _, _ => False
def wPow : W2
  | .int i, .int j, Q => CPow i j ∧ Q (.fr (.int (i ^ j.toNat)))
  | _, _, _ => False
def w2I (g : Int → Int → Bool) (h : List Nat → List Nat → Bool) : W2
  | .int i, .int j, Q => Q (.fr (.bl (g i j)))
  | .str i, .str j, Q => Q (.fr (.bl (h i j)))
  | _, _, _ => False
def wLe : W2 := w2I (fun i j => decide (i ≤ j)) (fun i j => !decide (j < i))
def wGt : W2 := w2I (fun i j => decide (j < i)) (fun i j => decide (j < i))
def wGe : W2 := w2I (fun i j => decide (j ≤ i)) (fun i j => !decide (i < j))
def wLt : W2
  | .int i, .int j, Q => Q (.fr (.bl (decide (i < j))))
  | .str i, .str j, Q => Q (.fr (.bl (decide (i < j))))
  | .tup a, .tup b, Q => D.shp (.tup a) ∧ D.shp (.tup b) ∧ PySem.W.alike (D.py (.tup a)) (D.py (.tup b)) = true ∧ Q (.fr (.bl (PySem.W.dataLt (D.py (.tup a)) (D.py (.tup b)))))
  | _, _, _ => False
def wEq : W2 := fun x y Q => x.shp ∧ y.shp ∧ Q (.fr (.bl (D.eqv x y)))
def wNe : W2 := fun x y Q => x.shp ∧ y.shp ∧ Q (.fr (.bl (!D.eqv x y)))
def D.isNon : D → Bool
  | .non => true
  | _ => false
def wIs : W2
  | .bl a, .bl b, Q => Q (.fr (.bl (decide (a = b))))
  | d, .non, Q => Q (.fr (.bl d.isNon))
  | _, _, _ => False
def wIsN : W2
  | .bl a, .bl b, Q => Q (.fr (.bl (!decide (a = b))))
  | d, .non, Q => Q (.fr (.bl (!d.isNon)))
  | _, _, _ => False
def D.flat : D → Bool
  | .non => true
  | .bl _ => true
  | .int _ => true
  | .str _ => true
  | _ => false
def D.key? : D → Option L2.Key
  | .int i => some (.inl i)
  | .str l => some (.inr (S l))
  | _ => none
def dlook (k : L2.Key) : List (L2.Key × D) → Option D
  | [] => none
  | (k', d) :: r => if k' = k then some d else dlook k r
def wInB (neg : Bool) : W2
  | d, .lst ds, Q => d.shp ∧ D.shp (.lst ds) ∧ Q (.fr (.bl (neg.xor (ds.any fun z => D.eqv z d))))
  | d, .tup ds, Q => d.flat = true ∧ ds.all D.flat = true ∧ Q (.fr (.bl (neg.xor (ds.any fun z => D.eqv z d))))
  | .str [c], .str l, Q => Q (.fr (.bl (neg.xor (decide (c ∈ l)))))
  | d, .dct kvs, Q => ∃ k, d.key? = some k ∧ Q (.fr (.bl (neg.xor (dlook k kvs).isSome)))
  | _, _, _ => False
abbrev wIn := wInB false
abbrev wNin := wInB true
def wIx : W2
  | .lst ds, .int i, Q => ∃ d, atI ds i = some d ∧ Q (.fr d)
  | .tup ds, .int i, Q => ∃ d, atI ds i = some d ∧ Q (.fr d)
  | .str l, .int i, Q => l.length ≤ sizeLine ∧ ∃ c, atI l i = some c ∧ Q (.fr (.str [c]))
  | .dct kvs, d, Q => ∃ k, d.key? = some k ∧ ∃ e, dlook k kvs = some e ∧ Q (.fr e)
  | _, _, _ => False

section
variable {X : Cx}
theorem sqT_up {K : PySem.W.Frag} {H F : Hp} {a : Addr} {xs : List V} (sub : Ext F H) (h : F a = some (.tup xs)) : SqT K H a xs := .inl (.inl (sub _ _ h))
theorem sqL_up {K : PySem.W.Frag} {H : Hp} {a : Addr} {xs : List V} (h : H a = some (.lst xs)) : SqL K H a xs := .inl (.inl h)
theorem opd_add : OpD X (binaryOp .Add) wAdd := by
  refine ⟨fun dx dy Q Q' m h => ?_, fun pins s σ H x y v u Q I rx ry G ε F dx dy R0 hx hy h => ?_⟩
  · unfold wAdd at h ⊢
    split <;> simp_all
  · unfold wAdd at h
    split at h
    · cases hx; cases hy
      exact op_add pins s σ H _ _ v u Q I rx ry ⟨_, _, rfl, rfl, h.same R0 (.int _)⟩
    · rename_i a b
      cases hx; cases hy
      have q := h.2.same R0 (.strS (a ++ b))
      rw [← S_app] at q
      exact op_add_str pins s σ H _ _ v u Q I rx ry ⟨S a, S b, rfl, rfl, by rw [S_len, S_len]; exact h.1, q⟩
    · obtain ⟨a, vs, rfl, h1, h2⟩ := hx
      obtain ⟨b, us, rfl, h3, h4⟩ := hy
      exact op_cat pins s σ H _ _ v u Q I rx ry ⟨a, b, vs, us, rfl, rfl, h1, h3, by rw [h2.len, h4.len]; exact h.1, h.2.lst R0 (h2.append h4)⟩
    · rename_i a b
      cases hx with | tup e1 r1 =>
      cases hy with | tup e2 r2 =>
      rename_i p vs q us
      refine op_catA pins s σ H _ _ v u Q I rx ry ⟨p, q, vs, us, rfl, rfl, sqT_up R0.sub e1, sqT_up R0.sub e2, by rw [r1.len, r2.len]; exact h.1, fun e => ?_, fun n e => ?_, fun n n' => ?_⟩
      · subst e
        cases r1
        exact h.2.same R0 (.tup e2 r2)
      · subst e
        cases r2
        rw [List.append_nil] at h
        exact h.2.same R0 (.tup e1 r1)
      · exact h.2.tup R0 (r1.append r2) (by rw [List.length_append, r1.len, r2.len]; exact h.1)
    · exact h.elim
theorem opd_ii {f : Value → Value → Sem Value} {C : Int → Int → Prop} {g : Int → Int → Int} {w : W2} (ho : OpR X f (rI C fun i j => .int (g i j)))
    (hw : w = fun x y Q => match x, y with | .int i, .int j => C i j ∧ Q (.fr (.int (g i j))) | _, _ => False) : OpD X f w := by
  subst hw
  refine ⟨fun dx dy Q Q' m h => ?_, fun pins s σ H x y v u Q I rx ry G ε F dx dy R0 hx hy h => ?_⟩
  · revert h
    split <;> simp_all
  · split at h
    · cases hx; cases hy
      exact ho pins s σ H _ _ v u Q I rx ry ⟨_, _, rfl, rfl, h.1, h.2.same R0 (.int _)⟩
    · exact h.elim
theorem opd_sub : OpD X (binaryOp .Sub) wSub := by
  refine ⟨fun dx dy Q Q' m h => ?_, fun pins s σ H x y v u Q I rx ry G ε F dx dy R0 hx hy h => ?_⟩
  · unfold wSub at h ⊢
    split <;> simp_all
  · unfold wSub at h
    split at h
    · cases hx; cases hy
      exact op_sub pins s σ H _ _ v u Q I rx ry ⟨_, _, rfl, rfl, h.same R0 (.int _)⟩
    · exact h.elim
theorem opd_mod : OpD X (binaryOp .Mod) wMod := opd_ii op_mod (by funext x y Q; unfold wMod; split <;> simp_all)
theorem opd_fdv : OpD X (binaryOp .FloorDiv) wFdv := opd_ii op_fdivW (by funext x y Q; unfold wFdv; split <;> simp_all)
theorem opd_pow : OpD X (binaryOp .Pow) wPow := opd_ii op_pow (by funext x y Q; unfold wPow; split <;> simp_all)
/-- text * n -/
theorem op_mulS : OpR X (binaryOp .Mult) (fun x y H Q => ∃ (a : List Nat) (j : Int), x = .str (S a) ∧ y = .int j ∧ -(2 ^ 63) ≤ j ∧ j < 2 ^ 63 ∧ a.length * j.toNat ≤ sizeLine ∧ Q (.str (S (List.replicate j.toNat a).flatten)) H) := by
  intro pins s σ H x y v u Q I rx ry h
  obtain ⟨a, j, rfl, rfl, h1, h2, h3, q⟩ := h
  obtain ⟨t, rfl⟩ := rx
  obtain ⟨t', rfl⟩ := ry
  have hl : (S a).length = a.length := S_len a
  have sl := sizeLine_eq
  refine PySem.P.mul_str ?_ (fun hn he => ?_) (fun hn he => ?_) ?_
  · rw [decide_eq_false (by omega), decide_eq_false (by omega)]; rfl
  · rw [hl]
    have e1 : 1 ≤ j := by omega
    have h4 : a.length * j.toNat ≤ 16777216 := by omega
    have h5 : ((a.length * j.toNat : Nat) : Int) ≤ 16777216 := Int.ofNat_le.mpr h4
    rw [Int.natCast_mul, Int.toNat_of_nonneg (by omega)] at h5
    have e2 : (a.length : Int) * j ≤ 16777216 := h5
    have e3 : (a.length : Int) ≤ 16777216 / j := (Int.le_ediv_iff_mul_le (by omega)).mpr e2
    have e4 : (16777216 : Int) / j ≤ (2 ^ 63 - 1) / j := Int.ediv_le_ediv (by omega) (by decide)
    omega
  · rw [hl]
    unfold Builtin.Str.tooLong
    simp only [decide_eq_false_iff_not]
    omega
  · by_cases hn : j < 1
    · rw [if_pos hn]
      have e : j.toNat = 0 := by omega
      rw [e] at q
      exact ⟨by decide, .str _, H, I.tok _, ⟨_, rfl⟩, q⟩
    · rw [if_neg hn]
      by_cases he : (j == 1 || (S a).length == 0) = true
      · rw [if_pos he]
        refine ⟨.str (S a), H, I, ⟨_, rfl⟩, ?_⟩
        have e : (List.replicate j.toNat a).flatten = a := by
          rw [Bool.or_eq_true] at he
          rcases he with he | he
          · have : j = 1 := by simpa using he
            subst this
            simp
          · rw [hl] at he
            have : a = [] := by
              cases a with
              | nil => rfl
              | cons _ _ => simp at he
            subst this
            simp
        rw [e] at q
        exact q
      · rw [if_neg he]
        have fl : ∀ (n : Nat) (acc : Array Nat), (List.replicate n (S a).cps).foldl (fun x1 x2 => x1 ++ x2) acc = acc ++ ((List.replicate n a).flatten).toArray := by
          intro n
          induction n with
          | zero => intro acc; simp
          | succ n ih =>
            intro acc
            rw [List.replicate_succ, List.foldl_cons, ih, List.replicate_succ, List.flatten_cons]
            simp [S, Array.append_assoc]
        rw [fl, Array.empty_append]
        exact ⟨by
          show ((List.replicate j.toNat a).flatten).toArray.size ≤ _
          rw [List.size_toArray, List.length_flatten, List.map_replicate, List.sum_replicate_nat, Nat.mul_comm]
          exact h3, .str _, H, I.tok _, ⟨_, rfl⟩, q⟩

theorem opd_mul : OpD X (binaryOp .Mult) wMul := by
  refine ⟨fun dx dy Q Q' m h => ?_, fun pins s σ H x y v u Q I rx ry G ε F dx dy R0 hx hy h => ?_⟩
  · unfold wMul at h ⊢
    split <;> simp_all
  · unfold wMul at h
    split at h
    · cases hx; cases hy
      exact op_mulW pins s σ H _ _ v u Q I rx ry ⟨_, _, rfl, rfl, h.1, h.2.same R0 (.int _)⟩
    · rename_i a j
      cases hx; cases hy
      exact op_mulS pins s σ H _ _ v u Q I rx ry ⟨a, j, rfl, rfl, h.1, h.2.1, h.2.2.1, h.2.2.2.same R0 (.strS _)⟩
    · rename_i ds j
      obtain ⟨a, vs, rfl, h1, h2⟩ := hx
      cases hy
      have rep : ∀ n : Nat, DtAll G.T F (List.replicate n vs).flatten (List.replicate n ds).flatten := fun n => by
        induction n with
        | zero => exact .nil
        | succ n ih => rw [List.replicate_succ, List.flatten_cons, List.replicate_succ, List.flatten_cons]; exact h2.append ih
      exact op_rep pins s σ H _ _ v u Q I rx ry ⟨a, j, vs, rfl, rfl, h1, h.1, h.2.1, by rw [h2.len]; exact h.2.2.1, h.2.2.2.lst R0 (rep _)⟩
    · rename_i ds j
      cases hx with | tup e1 r1 =>
      rename_i p vs
      cases hy
      have rep : ∀ n : Nat, DtAll G.T F (List.replicate n vs).flatten (List.replicate n ds).flatten := fun n => by
        induction n with
        | zero => exact .nil
        | succ n ih => rw [List.replicate_succ, List.flatten_cons, List.replicate_succ, List.flatten_cons]; exact r1.append ih
      refine op_repT pins s σ H _ _ v u Q I rx ry ⟨p, j, vs, rfl, rfl, sqT_up R0.sub e1, fun z => h.1 ?_, h.2.1, h.2.2.1, by rw [r1.len]; exact h.2.2.2.1, h.2.2.2.2.tup R0 (rep _) ?_⟩
      · subst z; cases r1; rfl
      · have sl := sizeLine_eq
        have hl : vs.length ≤ 1000 := by rw [r1.len]; exact h.2.2.2.1
        rw [List.length_flatten, List.map_replicate, List.sum_replicate_nat]
        have : j.toNat * vs.length ≤ 1000 * 1000 := Nat.mul_le_mul (by omega) hl
        omega
    · exact h.elim

/-! ### comparisons -/
theorem opd_2I {f : Value → Value → Sem Value} {g : Int → Int → Bool} {k : List Nat → List Nat → Bool} (h1 : OpR X f (rI0 fun i j => .bl (g i j)))
    (h2 : OpR X f (fun x y H Q => ∃ i j, x = .str i ∧ y = .str j ∧ Q (.bl (k i.cps.toList j.cps.toList)) H)) : OpD X f (w2I g k) := by
  refine ⟨fun dx dy Q Q' m h => ?_, fun pins s σ H x y v u Q I rx ry G ε F dx dy R0 hx hy h => ?_⟩
  · unfold w2I at h ⊢
    split <;> simp_all
  · unfold w2I at h
    split at h
    · cases hx; cases hy
      exact h1 pins s σ H _ _ v u Q I rx ry ⟨_, _, rfl, rfl, h.same R0 (.bl _)⟩
    · cases hx; cases hy
      exact h2 pins s σ H _ _ v u Q I rx ry ⟨_, _, rfl, rfl, h.same R0 (.bl _)⟩
    · exact h.elim
theorem opd_le : OpD X (compareOp .LtE) wLe := opd_2I op_le op_le_str
theorem opd_gt : OpD X (compareOp .Gt) wGt := opd_2I op_gt op_gt_str
theorem opd_ge : OpD X (compareOp .GtE) wGe := opd_2I op_ge op_ge_str
theorem opd_lt (hu : X.A.units + 64 < cLine) : OpD X (compareOp .Lt) wLt := by
  refine ⟨fun dx dy Q Q' m h => ?_, fun pins s σ H x y v u Q I rx ry G ε F dx dy R0 hx hy h => ?_⟩
  · unfold wLt at h ⊢
    split <;> simp_all
  · unfold wLt at h
    split at h
    · cases hx; cases hy
      exact op_lt pins s σ H _ _ v u Q I rx ry ⟨_, _, rfl, rfl, h.same R0 (.bl _)⟩
    · cases hx; cases hy
      exact op_lt_str pins s σ H _ _ v u Q I rx ry ⟨_, _, rfl, rfl, h.same R0 (.bl _)⟩
    · rename_i a b
      obtain ⟨s1, s2, al, q⟩ := h
      obtain ⟨as, r1⟩ := Dp.reads I _ x v (DV.dp R0.sub hx (SeqAt.canLay_of_shaped s1)) rx
      obtain ⟨bs, r2⟩ := Dp.reads I _ y u (DV.dp R0.sub hy (SeqAt.canLay_of_shaped s2)) ry
      refine PySem.W.rcLt_alike _ _ X.A s v u as bs r1 r2 al (by rw [D.py]; exact fun z => by cases z) (SeqAt.room_of_shaped s1 hu) X.prog X.w X.xe _ ?_
      exact ⟨.bl _, H, I, rfl, q.same R0 (.bl _)⟩
    · exact h.elim
theorem opd_eq (hu : X.A.units + 64 < cLine) : OpD X (compareOp .Eq) wEq :=
  .of (fun _ _ _ _ m h => ⟨h.1, h.2.1, m _ h.2.2⟩) (op_eqD hu) fun σ H x y Q G ε F dx dy hl R0 hx hy h =>
    ⟨dx.py, dy.py, hx.dp R0.sub (SeqAt.canLay_of_shaped h.1), hy.dp R0.sub (SeqAt.canLay_of_shaped h.2.1), h.1, h.2.1, h.2.2.same R0 (.bl _)⟩
theorem opd_ne (hu : X.A.units + 64 < cLine) : OpD X (compareOp .NotEq) wNe :=
  .of (fun _ _ _ _ m h => ⟨h.1, h.2.1, m _ h.2.2⟩) (op_neD hu) fun σ H x y Q G ε F dx dy hl R0 hx hy h =>
    ⟨dx.py, dy.py, hx.dp R0.sub (SeqAt.canLay_of_shaped h.1), hy.dp R0.sub (SeqAt.canLay_of_shaped h.2.1), h.1, h.2.1, h.2.2.same R0 (.bl _)⟩
theorem DV.isNon {T : Addr} {H F : Hp} {v : V} {d : D} (h : DV T H F v d) : decide (v = .non) = d.isNon := by
  cases d with
  | lst ds => obtain ⟨a, vs, rfl, _⟩ := h; rfl
  | dct ds => obtain ⟨a, vs, rfl, _⟩ := h; rfl
  | tup ds => cases h with | tup e r => rfl
  | non => cases h; rfl
  | bl _ => cases h; rfl
  | int _ => cases h; rfl
  | str _ => cases h; rfl
  | tape => cases h; rfl
theorem opd_is : OpD X (compareOp .Is) wIs := by
  refine ⟨fun dx dy Q Q' m h => ?_, fun pins s σ H x y v u Q I rx ry G ε F dx dy R0 hx hy h => ?_⟩
  · unfold wIs at h ⊢
    split <;> simp_all
  · unfold wIs at h
    split at h
    · cases hx; cases hy
      exact op_is_bl pins s σ H _ _ v u Q I rx ry ⟨_, _, rfl, rfl, h.same R0 (.bl _)⟩
    · cases hy
      exact op_isN pins s σ H _ _ v u Q I rx ry ⟨rfl, by rw [hx.isNon]; exact h.same R0 (.bl _)⟩
    · exact h.elim
theorem opd_isN : OpD X (compareOp .IsNot) wIsN := by
  refine ⟨fun dx dy Q Q' m h => ?_, fun pins s σ H x y v u Q I rx ry G ε F dx dy R0 hx hy h => ?_⟩
  · unfold wIsN at h ⊢
    split <;> simp_all
  · unfold wIsN at h
    split at h
    · cases hx; cases hy
      exact op_isnot_bl pins s σ H _ _ v u Q I rx ry ⟨_, _, rfl, rfl, h.same R0 (.bl _)⟩
    · cases hy
      exact op_notN pins s σ H _ _ v u Q I rx ry ⟨rfl, by rw [hx.isNon]; exact h.same R0 (.bl _)⟩
    · exact h.elim
theorem Dt.flatV {T : Addr} {F : Hp} {v : V} {d : D} (h : Dt T F v d) (f : d.flat = true) : L2.flatV v = true := by
  cases h <;> first | rfl | cases f
theorem Dt.eqV {T : Addr} {F : Hp} {v u : V} {d e : D} (h : Dt T F v d) (h' : Dt T F u e) (f : d.flat = true) (f' : e.flat = true) : L2.eqV v u = D.eqv d e := by
  cases d <;> first
    | exact absurd f Bool.false_ne_true
    | (cases e <;> first
        | exact absurd f' Bool.false_ne_true
        | (cases h; cases h'; simp [L2.eqV, D.eqv, D.py, PyData.eqv, S]))
theorem DV.dt {T : Addr} {H F : Hp} {v : V} {d : D} (h : DV T H F v d) (f : d.flat = true) : Dt T F v d := by
  cases d <;> first | exact h | cases f
theorem opd_in_flat {T : Addr} {F : Hp} {v : V} {d : D} (h : Dt T F v d) (f : d.flat = true) : ∀ {ds : List D} {vs : List V}, DtAll T F vs ds → ds.all D.flat = true → vs.all L2.flatV = true ∧ L2.inV v vs = ds.any fun z => D.eqv z d
  | [], _, q, _ => by cases q; exact ⟨rfl, rfl⟩
  | e :: ds, _, q, g => by
    cases q with | cons e1 r =>
    simp only [List.all_cons, Bool.and_eq_true] at g
    obtain ⟨i1, i2⟩ := opd_in_flat h f r g.2
    refine ⟨by simp only [List.all_cons, Bool.and_eq_true]; exact ⟨e1.flatV g.1, i1⟩, ?_⟩
    unfold L2.inV at i2 ⊢
    rw [List.any_cons, List.any_cons, i2, e1.eqV h g.1 f]
end
end DL

set_option Elab.async false
set_option linter.all false
set_option maxRecDepth 100000
set_option maxHeartbeats 4000000
/-! DLd: in, subscripts, slices, builtins at the data level. -/
namespace DL
open PySem PySem.Spec PyProof.Rows L2

/-! ### dicts by data -/
def dput (kvs : List (L2.Key × D)) (k : L2.Key) (d : D) : List (L2.Key × D) :=
  if (dlook k kvs).isSome = true then kvs.map (fun kv => if kv.1 = k then (kv.1, d) else kv) else kvs ++ [(k, d)]
section
variable {T : Addr} {F : Hp} {k : L2.Key}
theorem valV_look : ∀ {ks : List (L2.Key × V)} {kvs : List (L2.Key × D)}, DtKV T F ks kvs → (∀ d, dlook k kvs = some d → ∃ v, L2.valV ks k = some v ∧ Dt T F v d) ∧ (dlook k kvs = none → L2.valV ks k = none)
  | _, [], h => by cases h; exact ⟨fun d e => (by cases e), fun _ => rfl⟩
  | _, (k', d') :: r, h => by
    cases h with | cons e t =>
    obtain ⟨i1, i2⟩ := valV_look t
    unfold dlook
    by_cases hk : k' = k
    · rw [if_pos hk]
      exact ⟨fun d z => ⟨_, L2.valV_pos hk, by rw [← Option.some.inj z]; exact e⟩, fun z => (by cases z)⟩
    · rw [if_neg hk]
      rw [L2.valV_neg (p := (k', _)) hk]
      exact ⟨i1, i2⟩
theorem DtKV.len : ∀ {ks : List (L2.Key × V)} {kvs : List (L2.Key × D)}, DtKV T F ks kvs → ks.length = kvs.length
  | _, [], h => by cases h; rfl
  | _, _ :: r, h => by cases h with | cons e t => simp [DtKV.len t]
theorem DtKV.app : ∀ {ks ks' : List (L2.Key × V)} {kvs kvs' : List (L2.Key × D)}, DtKV T F ks kvs → DtKV T F ks' kvs' → DtKV T F (ks ++ ks') (kvs ++ kvs')
  | _, _, [], _, h, h' => by cases h; exact h'
  | _, _, _ :: r, _, h, h' => by cases h with | cons e t => exact .cons e (DtKV.app t h')
theorem DtKV.mapk {v : V} {d : D} (hv : Dt T F v d) : ∀ {ks : List (L2.Key × V)} {kvs : List (L2.Key × D)}, DtKV T F ks kvs → DtKV T F (ks.map (fun kv => if kv.1 = k then (kv.1, v) else kv)) (kvs.map (fun kv => if kv.1 = k then (kv.1, d) else kv))
  | _, [], h => by cases h; exact .nil
  | _, (k', d') :: r, h => by
    cases h with | cons e t =>
    rw [List.map_cons, List.map_cons]
    by_cases hk : k' = k
    · rw [if_pos hk, if_pos hk]; exact .cons hv (DtKV.mapk hv t)
    · rw [if_neg hk, if_neg hk]; exact .cons e (DtKV.mapk hv t)
theorem DtKV.put {v : V} {d : D} {ks : List (L2.Key × V)} {kvs : List (L2.Key × D)} (h : DtKV T F ks kvs) (hv : Dt T F v d) : DtKV T F (L2.putK ks k v) (dput kvs k d) := by
  unfold L2.putK dput
  rw [L2.valV_any]
  cases e : dlook k kvs with
  | some d' =>
    obtain ⟨v', e', _⟩ := (valV_look (k := k) h).1 d' e
    rw [e']
    simp only [Option.isSome_some, if_true]
    exact .mapk hv h
  | none =>
    rw [(valV_look (k := k) h).2 e]
    simp only [Option.isSome_none, Bool.false_eq_true, if_false]
    exact .app h (.cons hv .nil)
theorem key_flat {d : D} (e : d.key? = some k) : d.flat = true := by
  cases d <;> first | rfl | cases e
theorem key_V {v : V} {d : D} (h : Dt T F v d) (e : d.key? = some k) : v = L2.kV k := by
  cases h <;> first | (cases e; rfl) | cases e
end
theorem atI_map {α β : Type} {xs : List α} {ys : List β} {i : Int} {y : β} (hl : xs.length = ys.length) (h : atI ys i = some y) : ∃ (j : Nat) (x : α), ys[j]? = some y ∧ xs[j]? = some x ∧ atI xs i = some x := by
  unfold atI at h ⊢
  rw [hl]
  cases e : ixN ys.length i with
  | none => rw [e] at h; cases h
  | some j =>
    rw [e] at h
    have h' : ys[j]? = some y := h
    have hj : j < ys.length := by
      by_cases hj : j < ys.length
      · exact hj
      · rw [List.getElem?_eq_none (by omega)] at h'; cases h'
    exact ⟨j, xs[j]'(by omega), h', by rw [List.getElem?_eq_getElem], by show xs[j]? = _; rw [List.getElem?_eq_getElem]⟩
section
variable {X : Cx}
theorem opd_inB (hu : X.A.units + 65 < cLine) : OpD X (compareOp .In) wIn := by
  refine ⟨fun dx dy Q Q' m h => ?_, fun pins s σ H x y v u Q I rx ry G ε F dx dy R0 hx hy h => ?_⟩
  · unfold wIn wInB at h ⊢
    split <;> simp_all
    obtain ⟨k, e, q⟩ := h
    exact ⟨k, e, m _ q⟩
  · unfold wIn wInB at h
    split at h
    · rename_i d _ _ _ ds
      obtain ⟨s1, s2, q⟩ := h
      have q := q.same R0 (.bl _)
      refine op_inD hu pins s σ H x y v u Q I rx ry ⟨d.py, pys ds, hx.dp R0.sub (SeqAt.canLay_of_shaped s1), ?_, s1, ?_, ?_⟩
      · have := hy.dp (K := X.K) R0.sub (SeqAt.canLay_of_shaped s2)
        rwa [D.py] at this
      · have : D.shp (.lst ds) := s2
        unfold D.shp at this
        rwa [D.py] at this
      · rw [pys_eq, List.any_map]
        have e : (ds.any fun z => D.eqv z d) = ds.any ((fun z => PyData.eqv z d.py) ∘ D.py) := rfl
        rw [← e]
        simpa using q
    · rename_i d ds
      obtain ⟨f, g, q⟩ := h
      cases hy with | tup e1 r1 =>
      have q := q.same R0 (.bl _)
      obtain ⟨g1, g2⟩ := opd_in_flat (hx.dt f) f r1 g
      exact op_in_seq pins s σ H _ _ v u Q I rx ry ⟨_, _, rfl, .inr (sqT_up R0.sub e1), (hx.dt f).flatV f, g1, by rw [g2]; simpa using q⟩
    · rename_i c l
      cases hx; cases hy
      have q := h.same R0 (.bl _)
      refine op_in_sign pins s σ H _ _ v u Q I rx ry ⟨c, S l, rfl, rfl, ?_⟩
      rw [list_S]
      simpa using q
    · obtain ⟨k, e, q⟩ := h
      obtain ⟨a, ks, rfl, h1, h2⟩ := hy
      obtain rfl : u = Value.ref a := ry
      have q := q.same R0 (.bl _)
      have fx := hx.dt (key_flat e)
      obtain rfl := key_V fx e
      refine d_in (by omega) I (.k h1) rx fun s3 I3 => ⟨.bl _, H, I3, rfl, ?_⟩
      cases e2 : dlook k _ with
      | none => rw [(valV_look h2).2 e2]; rw [e2] at q; exact q
      | some d => obtain ⟨v', e', _⟩ := (valV_look h2).1 d e2; rw [e']; rw [e2] at q; exact q
    · exact h.elim
theorem opd_ninB (hu : X.A.units + 65 < cLine) : OpD X (compareOp .NotIn) wNin := by
  refine ⟨fun dx dy Q Q' m h => ?_, fun pins s σ H x y v u Q I rx ry G ε F dx dy R0 hx hy h => ?_⟩
  · unfold wNin wInB at h ⊢
    split <;> simp_all
    obtain ⟨k, e, q⟩ := h
    exact ⟨k, e, m _ q⟩
  · unfold wNin wInB at h
    split at h
    · rename_i d _ _ _ ds
      obtain ⟨s1, s2, q⟩ := h
      have q := q.same R0 (.bl _)
      refine op_notInD hu pins s σ H x y v u Q I rx ry ⟨d.py, pys ds, hx.dp R0.sub (SeqAt.canLay_of_shaped s1), ?_, s1, ?_, ?_⟩
      · have := hy.dp (K := X.K) R0.sub (SeqAt.canLay_of_shaped s2)
        rwa [D.py] at this
      · have : D.shp (.lst ds) := s2
        unfold D.shp at this
        rwa [D.py] at this
      · rw [pys_eq, List.any_map]
        have e : (ds.any fun z => D.eqv z d) = ds.any ((fun z => PyData.eqv z d.py) ∘ D.py) := rfl
        rw [← e]
        simpa using q
    · rename_i d ds
      obtain ⟨f, g, q⟩ := h
      cases hy with | tup e1 r1 =>
      have q := q.same R0 (.bl _)
      obtain ⟨g1, g2⟩ := opd_in_flat (hx.dt f) f r1 g
      exact op_notIn_seq pins s σ H _ _ v u Q I rx ry ⟨_, _, rfl, .inr (sqT_up R0.sub e1), (hx.dt f).flatV f, g1, by rw [g2]; simpa using q⟩
    · rename_i c l
      cases hx; cases hy
      have q := h.same R0 (.bl _)
      refine op_notIn_sign pins s σ H _ _ v u Q I rx ry ⟨c, S l, rfl, rfl, ?_⟩
      rw [list_S]
      simpa using q
    · obtain ⟨k, e, q⟩ := h
      obtain ⟨a, ks, rfl, h1, h2⟩ := hy
      obtain rfl : u = Value.ref a := ry
      have q := q.same R0 (.bl _)
      have fx := hx.dt (key_flat e)
      obtain rfl := key_V fx e
      refine d_notIn (by omega) I (.k h1) rx fun s3 I3 => ⟨.bl _, H, I3, rfl, ?_⟩
      cases e2 : dlook k _ with
      | none => rw [(valV_look h2).2 e2]; rw [e2] at q; exact q
      | some d => obtain ⟨v', e', _⟩ := (valV_look h2).1 d e2; rw [e']; rw [e2] at q; exact q
    · exact h.elim

/-! ### subscripts -/
theorem wIx_mono (dx dy : D) (Q Q' : R → Prop) (m : ∀ r, Q r → Q' r) (h : wIx dx dy Q) : wIx dx dy Q' := by
  unfold wIx at h ⊢
  split at h
  · obtain ⟨d, e, q⟩ := h; exact ⟨d, e, m _ q⟩
  · obtain ⟨d, e, q⟩ := h; exact ⟨d, e, m _ q⟩
  · obtain ⟨z, c, e, q⟩ := h; exact ⟨z, c, e, m _ q⟩
  · obtain ⟨k, e, d, e2, q⟩ := h
    exact ⟨k, e, d, e2, m _ q⟩
  · exact h.elim
theorem ix_run (hu : X.A.units + 1 < cLine) {value slice : Expr} {pins : List (Addr × Obj)} {s : Shared} {σ : L2.St} {H F : Hp} {x y : V} {v u : Value} {Q : VK} {G : Gh} {ε : Ev} {dx dy : D} (I : Inv X pins σ H s) (rx : RelV x v) (ry : RelV y u)
    (R0 : Rel G ε σ H F) (hx : DV G.T H F x dx) (hy : DV G.T H F y dy) (h : wIx dx dy (fun r => Cont G σ H F Q r ε)) (hs : subscripted slice false v u = operate [v, u] (getItem v u)) :
    wpAny (model X.prog X.w) X.A (subscriptTail value slice v u) (EP X pins σ Q) X.xe s := by
  unfold wIx at h
  split at h
  · obtain ⟨d, e, q⟩ := h
    obtain ⟨a, vs, rfl, h1, h2⟩ := hx
    cases hy
    obtain ⟨j, z, e1, e2, e3⟩ := atI_map h2.len e
    obtain ⟨z', e4, dz⟩ := h2.get e1
    rw [e2] at e4
    cases e4
    exact ix_list value slice pins s σ H _ _ v u Q I rx ry ⟨a, vs, _, z, rfl, rfl, sqL_up h1, e3, q.same R0 dz⟩ hs
  · obtain ⟨d, e, q⟩ := h
    cases hx with | tup h1 h2 =>
    cases hy
    obtain ⟨j, z, e1, e2, e3⟩ := atI_map h2.len e
    obtain ⟨z', e4, dz⟩ := h2.get e1
    rw [e2] at e4
    cases e4
    exact ix_tup value slice pins s σ H _ _ v u Q I rx ry ⟨_, _, _, z, rfl, rfl, sqT_up R0.sub h1, e3, q.same R0 dz⟩ hs
  · obtain ⟨z, c, e, q⟩ := h
    cases hx; cases hy
    exact ix_str value slice pins s σ H _ _ v u Q I rx ry ⟨S _, _, c, rfl, rfl, by rw [S_len]; exact z, by rw [list_S]; exact e, q.same R0 (.strS [c])⟩ hs
  · obtain ⟨k, e, d, e2, q⟩ := h
    obtain ⟨a, ks, rfl, h1, h2⟩ := hx
    obtain rfl : v = Value.ref a := rx
    have fy := hy.dt (key_flat e)
    obtain rfl := key_V fy e
    obtain ⟨z, e3, dz⟩ := (valV_look (k := k) h2).1 d e2
    have g : L2.DGet H a (L2.kV k) (some z) := by rw [← e3]; exact .k h1
    exact tail_any (dict_typeIs I g) PySem.F.slot_dict_getitem.lookup (d_getItem hu I g ry fun w' s3 I3 rw' => ⟨z, H, I3, rw', q.same R0 dz⟩) hs
  · exact h.elim
variable {a b : Expr} {ta tb : TEd} {pos : Pos}
theorem qe_ix (hu : X.A.units + 1 < cLine) (ha : QE X a ta) (hb : QE X b tb) (hs : PlainIx b := by intro _ _; rfl) : QE X (.Subscript a b pos) (dBin wIx ta tb) := by
  refine ⟨⟨fun pins s σ H Q I ⟨G, ε, F, R0, h⟩ => ?_⟩, fun ε Q Q' m h => ha.mono _ _ _ (fun r1 ε1 h1 => hb.mono _ _ _ (fun r2 ε2 h2 => wIx_mono _ _ _ _ (fun r q => m r ε2 q) h2) h1) h⟩
  refine Subscript_ (thn (ha.gets I R0 h) ?_)
  rintro v s1 ⟨x, H1, r1, ε1, F1, I1, rv1, p1, R1, ex1, kp1, q1⟩
  refine thn (hb.get I1 R1 p1) ?_
  rintro u s2 ⟨y, H2, r2, ε2, F2, I2, rv2, p2, R2, ex2, kp2, q2, ln2⟩
  have d1 := (q1.keep R1 (R.fz_own _) ex2 kp2).dv R2
  rw [R.fz_d] at d1
  exact ix_run hu I2 rv1 rv2 R2 d1 (q2.dv R2) (wIx_mono _ _ _ _ (fun r q => q.shift (ex1.trans ex2) (kp1.trans kp2)) p2) (hs _ _)

/-! ### slices -/
def cut {α : Type} (xs : List α) (lo hi : Option Int) : List α := (xs.drop (HT.sIx xs.length 0 lo)).take (HT.sIx xs.length xs.length hi - HT.sIx xs.length 0 lo)
def wSl (d : D) (lo hi : Option Int) (Q : R → Prop) : Prop := match d with
  | .lst ds => Q (.ow (cut ds lo hi))
  | .tup ds => Q (.fr (.tup (cut ds lo hi)))
  | .str l => l.length ≤ sizeLine ∧ Q (.fr (.str (cut l lo hi)))
  | _ => False
abbrev TOd := Ev → (Option Int → Ev → Prop) → Prop
def MonoO (t : TOd) : Prop := ∀ ε Q Q', (∀ r ε', Q r ε' → Q' r ε') → t ε Q → t ε Q'
def liftO (t : TOd) : TO := fun σ H Q => ∃ G ε F, Rel G ε σ H F ∧ t ε fun o ε' => ∀ H' F', Rel G ε' σ H' F' → Ext F F' → Kept G.T H H' → Q o H'
structure QO (X : Cx) (e : Option Expr) (t : TOd) : Prop where
  po : PO X e (liftO t)
  mono : MonoO t
def dNoP : TOd := fun ε Q => Q none ε
def dPart (t : TEd) : TOd := fun ε Q => t ε fun r ε' => ∃ i, r = .fr (.int i) ∧ Q (some i) ε'
theorem qo_none : QO X none dNoP := ⟨⟨fun pins s σ H Q I ⟨G, ε, F, R0, h⟩ => po_none.run pins s σ H Q I (h H F R0 (.refl _) (.refl _ _))⟩, fun ε Q Q' m h => m _ _ h⟩
theorem qo_some {e : Expr} {t : TEd} (he : QE X e t) : QO X (some e) (dPart t) := by
  refine ⟨⟨fun pins s σ H Q I ⟨G, ε, F, R0, h⟩ => ?_⟩, fun ε Q Q' m h => he.mono _ _ _ (fun r ε' ⟨i, e, q⟩ => ⟨i, e, m _ _ q⟩) h⟩
  refine (po_some he.pe).run pins s σ H Q I ⟨G, ε, F, R0, he.mono _ _ _ (fun r ε' ⟨i, e, q⟩ => ?_) h⟩
  subst e
  intro v H' F' R1 ex kp rv ln
  cases rv
  exact ⟨i, rfl, q H' F' R1 ex kp⟩
def dSl (ta : TEd) (tl th : TOd) : TEd := fun ε Q => ta ε fun r ε1 => tl ε1 fun l ε2 => th ε2 fun u ε3 => wSl r.d l u fun r' => Q r' ε3
theorem wSl_mono {d : D} {lo hi : Option Int} {Q Q' : R → Prop} (m : ∀ r, Q r → Q' r) (h : wSl d lo hi Q) : wSl d lo hi Q' := by
  unfold wSl at h ⊢
  split at h <;> first | exact m _ h | exact ⟨h.1, m _ h.2⟩ | exact h.elim
theorem qe_sl {lo hi : Option Expr} {tl th : TOd} {psl : Pos} (ha : QE X a ta) (hl : QO X lo tl) (hh : QO X hi th) : QE X (.Subscript a (.Slice lo hi none psl) pos) (dSl ta tl th) := by
  refine ⟨⟨fun pins s σ H Q I ⟨G, ε, F, R0, h⟩ => ?_⟩, fun ε Q Q' m h => ha.mono _ _ _ (fun r1 ε1 h1 => hl.mono _ _ _ (fun l ε2 h2 => hh.mono _ _ _ (fun u ε3 h3 => wSl_mono (fun r q => m _ _ q) h3) h2) h1) h⟩
  refine Subscript_ (thn (ha.gets I R0 h) ?_)
  rintro v s1 ⟨x, H1, r1, ε1, F1, I1, rv1, p1, R1, ex1, kp1, q1⟩
  refine wpAny_Slice (thn (hl.po.run pins s1 σ H1 (fun o H2 => ∃ ε2 F2, Rel G ε2 σ H2 F2 ∧ Ext F1 F2 ∧ Kept G.T H1 H2 ∧ th ε2 fun u ε3 => wSl r1.d o u fun r' => Cont G σ H F Q r' ε3) I1 ⟨G, ε1, F1, R1, hl.mono _ _ _ (fun o ε2 q H2 F2 R2 ex kp => ⟨ε2, F2, R2, ex, kp, q⟩) p1⟩) ?_)
  rintro vl s2 ⟨o, H2, I2, pl, ε2, F2, R2, ex2, kp2, p2⟩
  refine thn (hh.po.run pins s2 σ H2 (fun o' H3 => ∃ ε3 F3, Rel G ε3 σ H3 F3 ∧ Ext F2 F3 ∧ Kept G.T H2 H3 ∧ wSl r1.d o o' fun r' => Cont G σ H F Q r' ε3) I2 ⟨G, ε2, F2, R2, hh.mono _ _ _ (fun o' ε3 q H3 F3 R3 ex kp => ⟨ε3, F3, R3, ex, kp, q⟩) p2⟩) ?_
  rintro vu s3 ⟨o', H3, I3, pu, ε3, F3, R3, ex3, kp3, p3⟩
  rw [evalPart_none]
  refine wpAny_pure ?_
  have I4 : Inv X pins σ H3 { s3 with heap := s3.heap.push { cls := .type "slice", data := .fields #[vl, vu, .none] } } := I3.kept (t' := s3.toks) fun b ob q => Heap.get?_push_of_some _ q
  have d1 := (q1.keep R1 (R.fz_own _) (ex2.trans ex3) (kp2.trans kp3)).dv R3
  rw [R.fz_d] at d1
  have exA := (ex1.trans ex2).trans ex3
  have kpA := (kp1.trans kp2).trans kp3
  have goal : ∃ T id, typeLookup (.type T) "__getitem__" = pure (some (.builtin id)) ∧ Shared.TypeIs { s3 with heap := s3.heap.push { cls := .type "slice", data := .fields #[vl, vu, .none] } } v T ∧ wpAny (model X.prog X.w) X.A (getItem v (.ref s3.heap.objs.size)) (EP X pins σ Q) X.xe { s3 with heap := s3.heap.push { cls := .type "slice", data := .fields #[vl, vu, .none] } } := by
    unfold wSl at p3
    split at p3
    · rename_i ds hd
      rw [hd] at d1
      obtain ⟨a, vs, rfl, h1, h2⟩ := d1
      refine sl_list pins _ σ H3 _ v vl vu o o' s3.heap.objs.size Q I4 rv1 (Heap.IsSliceOf.new ..) pl pu ⟨a, vs, rfl, sqL_up h1, (p3.shift exA kpA).lst R3 ?_⟩
      unfold L2.cutV cut
      rw [h2.len]
      exact (h2.drop _).take _
    · rename_i ds hd
      rw [hd] at d1
      cases d1 with | tup h1 h2 =>
      rename_i a vs
      have q := p3.shift exA kpA
      refine sl_tupA pins _ σ H3 _ v vl vu o o' s3.heap.objs.size Q I4 rv1 (Heap.IsSliceOf.new ..) pl pu ⟨a, vs, rfl, sqT_up R3.sub h1, fun hw => ?_, fun hn => ?_⟩
      · have e : cut ds o o' = ds := by
          unfold cut
          rw [h2.len] at hw
          rw [hw.1, hw.2]
          simp
        rw [e] at q
        exact q.same R3 (.tup h1 h2)
      · refine q.tup R3 ?_ ?_
        · unfold L2.cutV cut
          rw [h2.len]
          exact (h2.drop _).take _
        · exact Nat.le_trans (L2.cutV_length _ _ _) (R3.sz _ _ (.inr h1))
    · rename_i l hd
      rw [hd] at d1
      cases d1
      have q := (p3.2.shift exA kpA).same R3 (.strS (cut l o o'))
      refine sl_str pins _ σ H3 _ v vl vu o o' s3.heap.objs.size Q I4 rv1 (Heap.IsSliceOf.new ..) pl pu ⟨S l, rfl, by rw [S_len]; exact p3.1, ?_⟩
      have e : L2.cutS (S l) o o' = S (cut l o o') := by
        unfold L2.cutS cut
        rw [S_len, list_S]
        rfl
      rw [e]
      exact q
    · exact p3.elim
  obtain ⟨T, id, hT, ht, hg⟩ := goal
  show wpAny (model X.prog X.w) X.A (subscriptTail a (.Slice lo hi none psl) v (.ref s3.heap.objs.size)) (EP X pins σ Q) X.xe { s3 with heap := s3.heap.push { cls := .type "slice", data := .fields #[vl, vu, .none] } }
  exact tail_any (ops := [.ref s3.heap.objs.size, v]) ht hT hg (by with_unfolding_all rfl)
end
end DL

set_option Elab.async false
set_option linter.all false
set_option maxRecDepth 100000
set_option maxHeartbeats 4000000
/-! DLe: builtin functions and methods at the data level. -/
namespace DL
open PySem PySem.Spec PyProof.Rows L2

section
variable {X : Cx} {e : Expr} {es : List Expr} {te : TEd} {t : TAd} {p pos : Pos} {x : Str} {id T : String} {w : WL}
theorem qe_callB (hc : CallD X (.builtin id) w) (hg : Gl X x) (hm : X.mg x = none) (hv : bootBuiltins x = some (.builtin id)) (ha : QA X (e :: es) t) (hn : x ≠ "__name__" := by decide) (hdb : (x == ("__debug__" : Str)) = false := by decide)
    (he : starEach (e :: es) X.env = (false, eval e X.env) :: starEach es X.env := by rfl) (hpl : (backTo pos (starEach es X.env)).any (·.1) = false := by rfl) : QE X (.Call (.Name x p) (e :: es) [] pos) (dCB w t) := by
  refine ⟨⟨fun pins s σ H Q I ⟨G, ε, F, R0, h⟩ => ?_⟩, dCB_mono hc ha.mono⟩
  refine wpAny_Call_Name_kw (ld_blt I hg hm hv ?_ hn hdb)
  exact PyProof.Rows.callWith_builtin1 (hc.args ha pos I R0 h) he hpl
theorem qe_callTy (hc : CallD X (.type T) w) (hg : Gl X x) (hm : X.mg x = none) (hv : bootBuiltins x = some (.type T)) (ha : QA X (e :: es) t) (hn : x ≠ "__name__" := by decide) (hdb : (x == ("__debug__" : Str)) = false := by decide)
    (he : starEach (e :: es) X.env = (false, eval e X.env) :: starEach es X.env := by rfl) (hpl : (backTo pos (starEach es X.env)).any (·.1) = false := by rfl) : QE X (.Call (.Name x p) (e :: es) [] pos) (dCB w t) := by
  refine ⟨⟨fun pins s σ H Q I ⟨G, ε, F, R0, h⟩ => ?_⟩, dCB_mono hc ha.mono⟩
  refine wpAny_Call_Name_kw (ld_blt I hg hm hv ?_ hn hdb)
  exact PyProof.Rows.callWith_type1 (hc.args ha pos I R0 h) he hpl
end

/-! ### what they give -/
def istr (i : Int) : List Nat := (Str.ofString (toString i)).cps.toList
def wLen : WL
  | [.lst ds], Q => Q (.fr (.int ds.length))
  | [.tup ds], Q => Q (.fr (.int ds.length))
  | [.str l], Q => l.length ≤ sizeLine ∧ Q (.fr (.int l.length))
  | [.dct ks], Q => Q (.fr (.int ks.length))
  | _, _ => False
def wList : WL
  | [.lst ds], Q => Q (.ow ds)
  | [.tup ds], Q => Q (.ow ds)
  | _, _ => False
def wTuple : WL
  | [.lst ds], Q => Q (.fr (.tup ds))
  | [.tup ds], Q => Q (.fr (.tup ds))
  | _, _ => False
def wStr : WL
  | [.int i], Q => i.natAbs.log2 < 1920 ∧ Q (.fr (.str (istr i)))
  | _, _ => False
def wInt : WL
  | [.int i], Q => Q (.fr (.int i))
  | [.bl b], Q => Q (.fr (.int (if b then 1 else 0)))
  | [.str l], Q => ∃ n, PySem.intText? (S l) = some n ∧ l.length ≤ 640 ∧ Q (.fr (.int n))
  | _, _ => False
def wMax : WL
  | [.int i, .int j], Q => Q (.fr (.int (if j > i then j else i)))
  | [.lst ds], Q => ∃ ns : List Int, ds = ns.map D.int ∧ 0 < ns.length ∧ ∀ m, m ∈ ns → (∀ y, y ∈ ns → y ≤ m) → Q (.fr (.int m))
  | _, _ => False
def wMin : WL
  | [.int i, .int j], Q => Q (.fr (.int (if j < i then j else i)))
  | [.lst ds], Q => ∃ ns : List Int, ds = ns.map D.int ∧ 0 < ns.length ∧ ∀ m, m ∈ ns → (∀ y, y ∈ ns → m ≤ y) → Q (.fr (.int m))
  | _, _ => False
def wAll : WL
  | [.lst ds], Q => ∃ bs : List Bool, ds = bs.map D.bl ∧ Q (.fr (.bl (bs.all id)))
  | _, _ => False
def wAny : WL
  | [.lst ds], Q => ∃ bs : List Bool, ds = bs.map D.bl ∧ Q (.fr (.bl (bs.any id)))
  | _, _ => False
def dle : D → D → Bool := PySem.W.dataLe false D.py
/-- what sorted wants of the items -/
structure Srt (ds : List D) : Prop where
  shp : ∀ d ∈ ds, d.shp
  alike : PySem.W.AllAlike (ds.map D.py)
  able : PySem.W.Sortable (ds.map D.py)
def wSorted : WL
  | [.lst ds], Q => Srt ds ∧ Q (.ow (ds.mergeSort dle))
  | [.tup ds], Q => Srt ds ∧ Q (.ow (ds.mergeSort dle))
  | _, _ => False

section
variable {X : Cx} {T : Addr} {H F : Hp}
theorem DVs.one {vs : List V} {d : D} (h : DVs T H F vs [d]) : ∃ v, vs = [v] ∧ DV T H F v d := by
  cases h with | cons a t => cases t; exact ⟨_, rfl, a⟩
theorem DVs.two {vs : List V} {d e : D} (h : DVs T H F vs [d, e]) : ∃ v u, vs = [v, u] ∧ DV T H F v d ∧ DV T H F u e := by
  cases h with | cons a t => cases t with | cons b t => cases t; exact ⟨_, _, rfl, a, b⟩
theorem cd_len : CallD X (.builtin "len") wLen := by
  refine ⟨fun ds Q Q' m h => ?_, fun pins s σ H xs us Q I r G ε F ds R0 hx h => ?_⟩
  · unfold wLen at h ⊢
    split <;> simp_all
  · unfold wLen at h
    split at h
    · obtain ⟨v, rfl, a, vs, rfl, h1, h2⟩ := hx.one
      exact call_len pins s σ H _ us Q I r ⟨_, vs.length, rfl, .inl ⟨vs, sqL_up h1, rfl⟩, by rw [h2.len]; exact h.same R0 (.int _)⟩
    · obtain ⟨v, rfl, hv⟩ := hx.one
      cases hv with | tup h1 h2 =>
      rename_i a vs
      exact call_len pins s σ H _ us Q I r ⟨_, vs.length, rfl, .inr ⟨vs, sqT_up R0.sub h1, rfl⟩, by rw [h2.len]; exact h.same R0 (.int _)⟩
    · rename_i l
      obtain ⟨v, rfl, hv⟩ := hx.one
      cases hv
      exact call_len pins s σ H _ us Q I r ⟨_, l.length, rfl, ⟨by rw [show (⟨l.toArray⟩ : Str) = S l from rfl, S_len]; exact h.1, by rw [show (⟨l.toArray⟩ : Str) = S l from rfl, S_len]⟩, h.2.same R0 (.int _)⟩
    · obtain ⟨v, rfl, a, ks, rfl, h1, h2⟩ := hx.one
      obtain ⟨u, rfl, rx⟩ := vals1 r
      obtain rfl : u = Value.ref a := rx
      exact d_len I (.inl h1) fun t s' I' => ⟨.int ks.length, H, I', ⟨t, rfl⟩, by rw [h2.len]; exact h.same R0 (.int _)⟩
    · exact h.elim
theorem cd_list : CallD X (.type "list") wList := by
  refine ⟨fun ds Q Q' m h => ?_, fun pins s σ H xs us Q I r G ε F ds R0 hx h => ?_⟩
  · unfold wList at h ⊢
    split <;> simp_all
  · unfold wList at h
    split at h
    · obtain ⟨v, rfl, a, vs, rfl, h1, h2⟩ := hx.one
      exact call_list_of pins s σ H _ us Q I r ⟨a, vs, rfl, .inl (sqL_up h1), h.lst R0 h2⟩
    · obtain ⟨v, rfl, hv⟩ := hx.one
      cases hv with | tup h1 h2 =>
      exact call_list_of pins s σ H _ us Q I r ⟨_, _, rfl, .inr (sqT_up R0.sub h1), h.lst R0 h2⟩
    · exact h.elim
theorem cd_tuple : CallD X (.type "tuple") wTuple := by
  refine ⟨fun ds Q Q' m h => ?_, fun pins s σ H xs us Q I r G ε F ds R0 hx h => ?_⟩
  · unfold wTuple at h ⊢
    split <;> simp_all
  · unfold wTuple at h
    split at h
    · obtain ⟨v, rfl, a, vs, rfl, h1, h2⟩ := hx.one
      exact call_tuple_of pins s σ H _ us Q I r ⟨a, vs, rfl, .inl ⟨sqL_up h1, h.tup R0 h2 (line_of I _ _ (.inl h1))⟩⟩
    · obtain ⟨v, rfl, hv⟩ := hx.one
      cases hv with | tup h1 h2 =>
      exact call_tuple_of pins s σ H _ us Q I r ⟨_, _, rfl, .inr ⟨sqT_up R0.sub h1, h.same R0 (.tup h1 h2)⟩⟩
    · exact h.elim
theorem cd_str : CallD X (.type "str") wStr := by
  refine ⟨fun ds Q Q' m h => ?_, fun pins s σ H xs us Q I r G ε F ds R0 hx h => ?_⟩
  · unfold wStr at h ⊢
    split <;> simp_all
  · unfold wStr at h
    split at h
    · rename_i i
      obtain ⟨v, rfl, hv⟩ := hx.one
      cases hv
      exact call_str_int pins s σ H _ us Q I r ⟨i, rfl, h.1, h.2.same R0 (.strX _)⟩
    · exact h.elim
theorem cd_int : CallD X (.type "int") wInt := by
  refine ⟨fun ds Q Q' m h => ?_, fun pins s σ H xs us Q I r G ε F ds R0 hx h => ?_⟩
  · unfold wInt at h ⊢
    split at h
    · exact m _ h
    · exact m _ h
    · obtain ⟨n, e, l, q⟩ := h
      exact ⟨n, e, l, m _ q⟩
    · exact h.elim
  · unfold wInt at h
    split at h
    · obtain ⟨v, rfl, hv⟩ := hx.one
      cases hv
      exact call_int1 pins s σ H _ us Q I r (.inl ⟨_, rfl, h.same R0 (.int _)⟩)
    · obtain ⟨v, rfl, hv⟩ := hx.one
      cases hv
      exact call_int1 pins s σ H _ us Q I r (.inr ⟨_, rfl, h.same R0 (.int _)⟩)
    · obtain ⟨n, e, l, q⟩ := h
      obtain ⟨v, rfl, hv⟩ := hx.one
      cases hv
      exact call_int_str pins s σ H _ us Q I r ⟨_, n, rfl, e, by rw [show (⟨(_ : List Nat).toArray⟩ : Str) = S _ from rfl, S_len]; exact l, q.same R0 (.int _)⟩
    · exact h.elim
theorem cd_max (hc : X.calm = true) : CallD X (.builtin "max") wMax := by
  refine ⟨fun ds Q Q' m h => ?_, fun pins s σ H xs us Q I r G ε F ds R0 hx h => ?_⟩
  · unfold wMax at h ⊢
    split at h
    · exact m _ h
    · obtain ⟨ns, e, l, q⟩ := h; exact ⟨ns, e, l, fun k h1 h2 => m _ (q k h1 h2)⟩
    · exact h.elim
  · unfold wMax at h
    split at h
    · obtain ⟨v, u, rfl, hv, hu⟩ := hx.two
      cases hv; cases hu
      exact call_max2 hc pins s σ H _ us Q I r ⟨_, _, rfl, h.same R0 (.int _)⟩
    · obtain ⟨ns, rfl, l, q⟩ := h
      obtain ⟨v, rfl, a, vs, rfl, h1, h2⟩ := hx.one
      have e := h2.ints
      subst e
      exact cr_max hc pins s σ H _ us Q I r ⟨a, ns, rfl, sqL_up h1, l, fun m h3 h4 => (q m h3 h4).same R0 (.int _)⟩
    · exact h.elim
theorem cd_min (hc : X.calm = true) : CallD X (.builtin "min") wMin := by
  refine ⟨fun ds Q Q' m h => ?_, fun pins s σ H xs us Q I r G ε F ds R0 hx h => ?_⟩
  · unfold wMin at h ⊢
    split at h
    · exact m _ h
    · obtain ⟨ns, e, l, q⟩ := h; exact ⟨ns, e, l, fun k h1 h2 => m _ (q k h1 h2)⟩
    · exact h.elim
  · unfold wMin at h
    split at h
    · obtain ⟨v, u, rfl, hv, hu⟩ := hx.two
      cases hv; cases hu
      exact call_min2 hc pins s σ H _ us Q I r ⟨_, _, rfl, h.same R0 (.int _)⟩
    · obtain ⟨ns, rfl, l, q⟩ := h
      obtain ⟨v, rfl, a, vs, rfl, h1, h2⟩ := hx.one
      have e := h2.ints
      subst e
      exact cr_min hc pins s σ H _ us Q I r ⟨a, ns, rfl, sqL_up h1, l, fun m h3 h4 => (q m h3 h4).same R0 (.int _)⟩
    · exact h.elim
theorem cd_all (hc : X.calm = true) : CallD X (.builtin "all") wAll := by
  refine ⟨fun ds Q Q' m h => ?_, fun pins s σ H xs us Q I r G ε F ds R0 hx h => ?_⟩
  · unfold wAll at h ⊢
    split at h
    · obtain ⟨ns, e, q⟩ := h; exact ⟨ns, e, m _ q⟩
    · exact h.elim
  · unfold wAll at h
    split at h
    · obtain ⟨ns, rfl, q⟩ := h
      obtain ⟨v, rfl, a, vs, rfl, h1, h2⟩ := hx.one
      have e := h2.bls
      subst e
      exact cr_all hc pins s σ H _ us Q I r ⟨a, ns, rfl, sqL_up h1, q.same R0 (.bl _)⟩
    · exact h.elim
theorem cd_any (hc : X.calm = true) : CallD X (.builtin "any") wAny := by
  refine ⟨fun ds Q Q' m h => ?_, fun pins s σ H xs us Q I r G ε F ds R0 hx h => ?_⟩
  · unfold wAny at h ⊢
    split at h
    · obtain ⟨ns, e, q⟩ := h; exact ⟨ns, e, m _ q⟩
    · exact h.elim
  · unfold wAny at h
    split at h
    · obtain ⟨ns, rfl, q⟩ := h
      obtain ⟨v, rfl, a, vs, rfl, h1, h2⟩ := hx.one
      have e := h2.bls
      subst e
      exact cr_any hc pins s σ H _ us Q I r ⟨a, ns, rfl, sqL_up h1, q.same R0 (.bl _)⟩
    · exact h.elim
end

/-! ### sorted -/
section
open PySem.Calls PySem.W
variable {prog : Program} {w : World} {A : Around} {E : Value → Shared → Prop} {s : Shared}
theorem collect_tuple {l : Addr} {vs : List Value} {Q : List Value → Shared → Prop} (hl : PyProof.Rows.IsTup s.heap l vs.toArray)
    (h : Q vs { s with heap := (s.heap.push (seqObj "list" #[] 0)).update s.heap.objs.size (Obj.mapSeq (· ++ vs.toArray)) }) (hsz : vs.length ≤ sizeLine) :
    wpAny (model prog w) A (collect (.ref l)) Q E s := by
  obtain ⟨o, ho, hc, n, hd⟩ := id hl
  unfold collect
  refine wpAny_bind (wpAny_runValue (codeAny_builtin entry_proto_collect' ?_))
  show wpAny _ _ (do again (.builtin "list.__iadd__" ⟨[← newList [], .ref l], []⟩)) _ _ s
  refine wpAny_bind (wpAny_newList (wpAny_pure ⟨Code.quiet_builtin _ (by decide +kernel), codeAny_builtin entry_list_iadd' ?_⟩))
  show wpAny _ _ (Builtin.List.listExtendWith (.ref s.heap.objs.size) (.ref l) (.ref s.heap.objs.size)) _ _ { s with heap := s.heap.push (seqObj "list" #[] 0) }
  unfold Builtin.List.listExtendWith
  have ho' : (s.heap.push (seqObj "list" #[] 0)).get? l = some o := Heap.get?_push_of_some _ ho
  refine wpAny_bind (wpAny_typeOf (T := "tuple") ⟨o, ho', hc⟩ ?_)
  have ht : (Value.type "tuple" == Value.type "tuple") = true := by rfl
  rw [if_pos (by rw [ht]; simp)]
  refine wpAny_bind (listItems_at ho' hd ?_)
  refine wpAny_bind (listItems_at (xs := #[]) (n := 0) (Heap.get?_push_size _ rfl) rfl ?_)
  rw [if_neg (by simp)]
  refine wpAny_bind (listUpdate_at (xs := #[]) (n := 0) (Heap.get?_push_size _ rfl) rfl ?_ (Nat.zero_le _) (by show (#[] ++ vs.toArray).size ≤ sizeLine + 1; simp only [Array.size_append, List.size_toArray, List.length_nil]; omega))
  refine wpAny_pure ?_
  show wpAny (model prog w) A (do
      let o ← load s.heap.objs.size
      match o.data with
      | .seq xs _ => pure xs.toList
      | _ => unsupported "internal:collect") Q E { s with heap := (s.heap.push (seqObj "list" #[] 0)).update s.heap.objs.size (Obj.mapSeq (· ++ vs.toArray)) }
  refine wpAny_bind (wpAny_load (get?_update_seq (Heap.get?_push_size _ rfl) _) ?_)
  show wpAny _ _ (pure ((#[] : Array Value) ++ vs.toArray).toList) Q E _
  rw [show ((#[] : Array Value) ++ vs.toArray).toList = vs by simp]
  exact wpAny_pure h
theorem sorted_of_tuple {l : Addr} {vs : List Value} {Q : Value → Shared → Prop} (hl : PyProof.Rows.IsTup s.heap l vs.toArray) (hL : vs.length ≤ sizeLine)
    (body : ∀ E' : Value → Shared → Prop, wpAny (model prog w) A.in1.in1 (Builtin.«list.sort» ⟨[.ref (s.heap.objs.size + 1)], []⟩) (fun f s' => f = .done (.ret .none) ∧ Q (.ref (s.heap.objs.size + 1)) s') E' { s with heap := copyHeap s.heap vs }) :
    wpAny (model prog w) A (call (.builtin "sorted") [.ref l]) Q E s := by
  refine call_function_entry_kw kind_sorted plain_sorted entry_sorted (args_sorted1 _) ?_
  unfold Builtin.«sorted»
  refine wpAny_bind (m := checkCount "sorted" 1 1 _) (wpAny_pure ?_)
  refine wpAny_bind (collect_tuple hl ?_ hL)
  refine wpAny_bind (wpAny_newList ?_ hL)
  have hsz : ((s.heap.push (seqObj "list" #[] 0)).update s.heap.objs.size (Obj.mapSeq (· ++ vs.toArray))).objs.size = s.heap.objs.size + 1 := by
    rw [Heap.size_update, size_push']
  show wpAny _ _ _ _ _ { s with heap := copyHeap s.heap vs }
  rw [hsz]
  refine wpAny_bind (wpAny_holding (wpAny_call_entry_kw slot_list_sort ⟨_, copyHeap_at s.heap vs, rfl⟩ entry_list_sort ?body (args_list_sort _)))
  case body =>
    show wpAny (model prog w) A.in1.in1 (Builtin.«list.sort» ⟨[.ref (s.heap.objs.size + 1)], []⟩) _ _ _
    refine wpAny_mono (body _) (fun f s' hf => ?_) fun _ _ e => e
    obtain ⟨rfl, hq⟩ := hf
    exact ⟨_, rfl, wpAny_pure ⟨_, rfl, hq⟩⟩
theorem sorted_tuple_data {β : Type} {vs : List Value} {bs : List β} {enc : β → PyData} {R : Value → β → Prop} {l : Addr} {Q : Value → Shared → Prop} (hl : PyProof.Rows.IsTup s.heap l vs.toArray) (e : EachIs R vs bs) (er : EachIs (fun v b => ∃ as, Reads s.heap v (enc b) as) vs bs) (hal : AllAlike (bs.map enc)) (hk : Sortable (bs.map enc)) (hL : bs.length ≤ sizeLine)
    (hu : ∀ b, b ∈ bs → A.units + 2 + (enc b).depth < cLine) (h : ∀ out, out.length = bs.length → EachIs R out (bs.mergeSort (dataLe false enc)) → Q (.ref (s.heap.objs.size + 1)) { s with heap := sortedAll s.heap vs (List.toArray out) }) :
    wpAny (model prog w) A (call (.builtin "sorted") [.ref l]) Q E s := by
  have er' : EachIs (fun v b => ∃ as, Reads (sortingHeap (copyHeap s.heap vs) (s.heap.objs.size + 1) vs) v (enc b) as) vs bs := er.mono fun _ _ ⟨as, r⟩ => ⟨as, PyProof.Rows.Reads.keeps (fun _ _ => sorting_copy_old) r⟩
  refine sorted_of_tuple hl (by rw [e.length]; exact hL) fun _ => ?_
  exact list_sort_vals (s := { s with heap := copyHeap s.heap vs }) (copyHeap_at s.heap vs) (SortsAt.data (s := { s with heap := sortingHeap (copyHeap s.heap vs) (s.heap.objs.size + 1) vs }) (each_map (R := fun v d => ∃ as, Reads (sortingHeap (copyHeap s.heap vs) (s.heap.objs.size + 1) vs) v d as) enc er') hal hk (bound_map hu)) (by rw [e.length]; exact hL)
    ⟨rfl, h _ (by rw [sortVals_length false rfl]; exact e.length) (sortVals_data false e er' hal)⟩
end
section
variable {X : Cx}
/-- a value that stands for a datum -/
def StD (T : Addr) (F : Hp) (u : Value) (d : D) : Prop := ∃ v, RelV v u ∧ Dt T F v d
theorem each_std {T : Addr} {F : Hp} : ∀ {ds : List D} {vs : List V} {us : List Value}, DtAll T F vs ds → Vals vs us → PySem.W.EachIs (StD T F) us ds
  | [], _, _, h, r => by cases h; cases r; exact .nil
  | d :: ds, _, _, h, r => by
    cases h with | cons h1 h2 =>
    cases r with | cons r1 r2 =>
    exact .cons ⟨_, r1, h1⟩ (each_std h2 r2)
theorem std_each {T : Addr} {F : Hp} : ∀ {ds : List D} {us : List Value}, PySem.W.EachIs (StD T F) us ds → ∃ vs, DtAll T F vs ds ∧ Vals vs us
  | [], _, h => by cases h; exact ⟨[], .nil, .nil⟩
  | d :: ds, _, h => by
    cases h with | cons h1 h2 =>
    obtain ⟨v, r, q⟩ := h1
    obtain ⟨vs, r2, q2⟩ := std_each h2
    exact ⟨v :: vs, .cons q r2, .cons r q2⟩
theorem each_reads {T : Addr} {F H : Hp} {pins : List (Addr × Obj)} {σ : L2.St} {s : Shared} (I : Inv X pins σ H s) (sub : Ext F H) : ∀ {ds : List D} {vs : List V} {us : List Value}, DtAll T F vs ds → Vals vs us → (∀ d ∈ ds, d.shp) → PySem.W.EachIs (fun v b => ∃ as, Reads s.heap v (D.py b) as) us ds
  | [], _, _, h, r, _ => by cases h; cases r; exact .nil
  | d :: ds, _, _, h, r, sh => by
    cases h with | cons h1 h2 =>
    cases r with | cons r1 r2 =>
    exact .cons (Dp.reads I _ _ _ (Dt.dp sub _ _ h1 (SeqAt.canLay_of_shaped (sh d List.mem_cons_self))) r1) (each_reads I sub h2 r2 fun e he => sh e (List.mem_cons_of_mem _ he))
theorem cd_sorted (hu : X.A.units + 100 < cLine) : CallD X (.builtin "sorted") wSorted := by
  refine ⟨fun ds Q Q' m h => ?_, fun pins s σ H xs us Q I r G ε F ds R0 hx h => ?_⟩
  · unfold wSorted at h ⊢
    split at h
    · exact ⟨h.1, m _ h.2⟩
    · exact ⟨h.1, m _ h.2⟩
    · exact h.elim
  · have fin : ∀ (ds : List D) (vs : List Value), vs.length ≤ sizeLine → Cont G σ H F Q (.ow (ds.mergeSort dle)) ε → vs.length = ds.length → ∀ out : List Value, out.length = ds.length → PySem.W.EachIs (StD G.T F) out (ds.mergeSort dle) →
        EP X pins σ Q (.ref (s.heap.objs.size + 1)) { s with heap := sortedAll s.heap vs (List.toArray out) } := by
      intro ds vs hz q hl out ho he
      obtain ⟨ys, y1, y2⟩ := std_each he
      have old : ∀ b o, s.heap.get? b = some o → (sortedAll s.heap vs (List.toArray out)).get? b = some o := fun b o e => sortedAll_old e
      obtain ⟨n, hn⟩ := sortedAll_at s.heap vs (List.toArray out)
      have hfree : H (s.heap.objs.size + 1) = none := I.hok.fresh (Nat.le_succ _)
      refine ⟨.ref (s.heap.objs.size + 1), upd H (s.heap.objs.size + 1) (.lst ys), I.laid (t' := s.toks) old (Nat.le_succ _) ⟨?_, out, n, y2, ?_⟩, rfl, q.lst R0 y1 _ hfree⟩
      · rw [y2.length, ho, ← hl]; exact hz
      · simpa using hn
    unfold wSorted at h
    split at h
    · rename_i ds
      obtain ⟨sr, q⟩ := h
      obtain ⟨v, rfl, a, vs, rfl, h1, h2⟩ := hx.one
      obtain ⟨u, rfl, ru⟩ := vals1 r
      obtain rfl : u = Value.ref a := ru
      obtain ⟨its, rv, hl, hz⟩ := I.list (sqL_up (K := X.K) h1)
      have hlen : its.length = ds.length := by rw [← rv.length, h2.len]
      refine PySem.W.sorted_data (enc := D.py) (R := StD G.T F) hl.isList (each_std h2 rv) (each_reads I R0.sub h2 rv sr.shp) sr.alike sr.able (by rw [← h2.len]; exact hz) (fun b hb => ?_) fun out ho he => fin ds its (by rw [← rv.length]; exact hz) q hlen out ho he
      have := SeqAt.depth_of_shaped (sr.shp b hb)
      omega
    · rename_i ds
      obtain ⟨sr, q⟩ := h
      obtain ⟨v, rfl, hv⟩ := hx.one
      cases hv with | tup h1 h2 =>
      rename_i a vs
      obtain ⟨u, rfl, ru⟩ := vals1 r
      obtain rfl : u = Value.ref a := ru
      obtain ⟨its, rv, hl, hz⟩ := I.tuple (sqT_up (K := X.K) R0.sub h1)
      have hlen : its.length = ds.length := by rw [← rv.length, h2.len]
      refine sorted_tuple_data (enc := D.py) (R := StD G.T F) hl (each_std h2 rv) (each_reads I R0.sub h2 rv sr.shp) sr.alike sr.able (by rw [← h2.len]; exact hz) (fun b hb => ?_) fun out ho he => fin ds its (by rw [← rv.length]; exact hz) q hlen out ho he
      have := SeqAt.depth_of_shaped (sr.shp b hb)
      omega
    · exact h.elim
end
end DL

set_option Elab.async false
set_option linter.all false
set_option maxRecDepth 100000
set_option maxHeartbeats 4000000
/-! DLf: statements, loops at the data level. -/
namespace DL
open PySem PySem.Spec PyProof.Rows L2

structure DE where
  nx : Ev → Prop
  rt : R → Prop
  bk : Ev → Prop := fun _ => False
  ct : Ev → Prop := fun _ => False
abbrev TSd := DE → Ev → Prop
structure DE.le (D D' : DE) : Prop where
  nx : ∀ ε, D.nx ε → D'.nx ε
  rt : ∀ r, D.rt r → D'.rt r
  bk : ∀ ε, D.bk ε → D'.bk ε
  ct : ∀ ε, D.ct ε → D'.ct ε
def MonoS (t : TSd) : Prop := ∀ D D' ε, DE.le D D' → t D ε → t D' ε
def deOf (G : Gh) (F : Hp) (D : Ends) : DE where
  nx := fun ε => ∀ σ H F', Rel G ε σ H F' → Ext F F' → D.nx σ H
  rt := fun r => ∀ v σ ε H F', Rel G ε σ H F' → Ext F F' → RV G H F' v r → r.free → D.rt v H
  bk := fun ε => ∀ σ H F', Rel G ε σ H F' → Ext F F' → D.bk σ H
  ct := fun ε => ∀ σ H F', Rel G ε σ H F' → Ext F F' → D.ct σ H
def liftS (t : TSd) : TS := fun D σ H => ∃ G ε F, Rel G ε σ H F ∧ t (deOf G F D) ε
structure QS (X : Cx) (st : Stmt) (t : TSd) : Prop where
  ps : PS X st (liftS t)
  mono : MonoS t
structure QSs (X : Cx) (st : List Stmt) (t : TSd) : Prop where
  pss : PSs X st (liftS t)
  mono : MonoS t
theorem DE.le.refl (D : DE) : DE.le D D := ⟨fun _ h => h, fun _ h => h, fun _ h => h, fun _ h => h⟩
theorem deOf_ext {G : Gh} {F F' : Hp} {D : Ends} (h : Ext F F') : DE.le (deOf G F D) (deOf G F' D) :=
  ⟨fun _ q σ H F2 r e => q σ H F2 r (h.trans e), fun _ q v σ ε H F2 r e => q v σ ε H F2 r (h.trans e), fun _ q σ H F2 r e => q σ H F2 r (h.trans e), fun _ q σ H F2 r e => q σ H F2 r (h.trans e)⟩
theorem ps_imp {X : Cx} {st : Stmt} {t t' : TS} (h : PS X st t) (i : ∀ D σ H, t' D σ H → t D σ H) : PS X st t' := ⟨fun pins s σ H D I q => h.run pins s σ H D I (i D σ H q)⟩
theorem pss_imp {X : Cx} {st : List Stmt} {t t' : TS} (h : PSs X st t) (i : ∀ D σ H, t' D σ H → t D σ H) : PSs X st t' := ⟨fun pins s σ H D I q => h.run pins s σ H D I (i D σ H q)⟩

section
variable {X : Cx} {st : Stmt} {rest : List Stmt} {t u : TSd} {e : Expr} {te : TEd} {pos : Pos}
def dNext : TSd := fun D ε => D.nx ε
def dSeq (t u : TSd) : TSd := fun D ε => t { D with nx := u D } ε
theorem qss_nil : QSs X [] dNext := ⟨pss_imp pss_nil fun D σ H ⟨G, ε, F, R0, h⟩ => h σ H F R0 (.refl _), fun D D' ε l h => l.nx _ h⟩
theorem qss_cons (h1 : QS X st t) (h2 : QSs X rest u) : QSs X (st :: rest) (dSeq t u) := by
  refine ⟨pss_imp (pss_cons h1.ps h2.pss) fun D σ H ⟨G, ε, F, R0, h⟩ => ⟨G, ε, F, R0, h1.mono { deOf G F D with nx := u (deOf G F D) } _ _ ⟨fun ε' q σ' H' F' R1 ex => ⟨G, ε', F', R1, h2.mono _ _ _ (deOf_ext ex) q⟩, fun r q => q, fun r q => q, fun r q => q⟩ h⟩, fun D D' ε l h => h1.mono { D with nx := u D } { D' with nx := u D' } _ ⟨fun ε' q => h2.mono _ _ _ l q, l.rt, l.bk, l.ct⟩ h⟩
theorem qss_one (h1 : QS X st t) : QSs X [st] t := ⟨pss_one h1.ps, h1.mono⟩
theorem qs_pass : QS X (.Pass pos) dNext := ⟨ps_imp ps_pass fun D σ H ⟨G, ε, F, R0, h⟩ => h σ H F R0 (.refl _), fun D D' ε l h => l.nx _ h⟩
theorem qs_break : QS X (.Break pos) (fun D ε => D.bk ε) := ⟨ps_imp ps_break fun D σ H ⟨G, ε, F, R0, h⟩ => h σ H F R0 (.refl _), fun D D' ε l h => l.bk _ h⟩
theorem qs_continue : QS X (.Continue pos) (fun D ε => D.ct ε) := ⟨ps_imp ps_continue fun D σ H ⟨G, ε, F, R0, h⟩ => h σ H F R0 (.refl _), fun D D' ε l h => l.ct _ h⟩
def dRet (te : TEd) : TSd := fun D ε => te ε fun r ε1 => r.free ∧ D.rt r
theorem qs_ret (he : QE X e te) : QS X (.Return (some e) pos) (dRet te) := by
  refine ⟨ps_imp (ps_ret he.pe) fun D σ H ⟨G, ε, F, R0, h⟩ => ⟨G, ε, F, R0, he.mono _ _ _ (fun r ε1 ⟨f, q⟩ v H' F' R1 ex kp rv ln => q v σ ε1 H' F' R1 ex rv f) h⟩, fun D D' ε l h => he.mono _ _ _ (fun r ε1 ⟨f, q⟩ => ⟨f, l.rt _ q⟩) h⟩
theorem qs_retN : QS X (.Return none pos) (fun D _ => D.rt (.fr .non)) :=
  ⟨ps_imp ps_retN fun D σ H ⟨G, ε, F, R0, h⟩ => h .non σ ε H F R0 (.refl _) .non trivial, fun D D' ε l h => l.rt _ h⟩
def dDrop (te : TEd) : TSd := fun D ε => te ε fun _ ε1 => D.nx ε1
theorem qs_expr (he : QE X e te) (hs : swapsWith e none pos.line X.env = pure false := by rfl) : QS X (.Expr e pos) (dDrop te) :=
  ⟨ps_imp (ps_expr he.pe hs) fun D σ H ⟨G, ε, F, R0, h⟩ => ⟨G, ε, F, R0, he.mono _ _ _ (fun r ε1 q v H' F' R1 ex kp rv ln => q σ H' F' R1 ex) h⟩, fun D D' ε l h => he.mono _ _ _ (fun r ε1 q => l.nx _ q) h⟩
def dIfS (c : TTd) (t u : TSd) : TSd := fun D ε => c ε fun b ε1 => if b = true then t D ε1 else u D ε1
theorem qs_if {c : Expr} {a b : List Stmt} {tc : TTd} (hc : QT X c tc) (ha : QSs X a t) (hb : QSs X b u) : QS X (.If c a b pos) (dIfS tc t u) := by
  refine ⟨ps_imp (ps_if hc.pt ha.pss hb.pss) fun D σ H ⟨G, ε, F, R0, h⟩ => ⟨G, ε, F, R0, hc.mono _ _ _ (fun k ε1 q H' F' R1 ex kp => ?_) h⟩, fun D D' ε l h => hc.mono _ _ _ (fun k ε1 q => ?_) h⟩
  · cases k with
    | true => simp only [if_true] at q ⊢; exact ⟨G, ε1, F', R1, ha.mono _ _ _ (deOf_ext ex) q⟩
    | false => simp only [Bool.false_eq_true, if_false] at q ⊢; exact ⟨G, ε1, F', R1, hb.mono _ _ _ (deOf_ext ex) q⟩
  · cases k with
    | true => simp only [if_true] at q ⊢; exact ha.mono _ _ _ l q
    | false => simp only [Bool.false_eq_true, if_false] at q ⊢; exact hb.mono _ _ _ l q
end

/-! ### stores -/
section
variable {G : Gh} {ε : Ev} {σ : L2.St} {H F : Hp}
theorem setV_get {σ : L2.St} {i j : Nat} {v u : V} (hj : j = i → i < σ.length) (h : j ≠ i → σ[j]? = some (some u)) (e : j = i → u = v) : (σ.set i (some v))[j]? = some (some u) := by
  by_cases hji : j = i
  · subst hji
    rw [List.getElem?_set_self (hj rfl), e rfl]
  · rw [List.getElem?_set_ne (fun z => hji z.symm)]
    exact h hji
theorem Rel.store (R0 : Rel G ε σ H F) {i : Nat} {v : V} {r : R} (rv : RV G H F v r) (ln : r.own → Lone ε σ v) (fr : r.free) : Rel G (ε.set i (some r)) (σ.set i (some v)) H F := by
  have hl := R0.len
  have bound : ∀ {j : Nat} {r' : R}, (ε.set i (some r))[j]? = some (some r') → j < σ.length := fun {j r'} e => by
    by_cases hj : j < ε.length
    · omega
    · rw [List.getElem?_eq_none (by simpa using hj)] at e; cases e
  refine ⟨R0.sub, R0.keep, R0.low, R0.new, R0.tape, R0.nT, R0.tp, R0.script, R0.small, R0.sz, fun j r' e => ?_, fun j k r' r'' u e1 e2 o1 o2 s1 s2 => ?_, by simp [hl], fun j r' e => ?_⟩
  · have hb := bound e
    rcases set_get e with ⟨rfl, rfl⟩ | ⟨n, e⟩
    · exact ⟨v, by rw [List.getElem?_set_self hb], rv⟩
    · obtain ⟨u, e1, h1⟩ := R0.slots j r' e
      exact ⟨u, by rw [List.getElem?_set_ne (fun z => n z.symm)]; exact e1, h1⟩
  · have hb1 := bound e1
    have hb2 := bound e2
    rcases set_get e1 with ⟨rfl, rfl⟩ | ⟨n1, e1'⟩
    · rcases set_get e2 with ⟨rfl, rfl⟩ | ⟨n2, e2'⟩
      · rfl
      · rw [List.getElem?_set_self hb1] at s1
        rw [List.getElem?_set_ne (fun z => n2 z.symm)] at s2
        cases s1
        exact absurd s2 (ln o1 _ _ e2' o2)
    · rw [List.getElem?_set_ne (fun z => n1 z.symm)] at s1
      rcases set_get e2 with ⟨rfl, rfl⟩ | ⟨n2, e2'⟩
      · rw [List.getElem?_set_self hb2] at s2
        cases s2
        exact absurd s1 (ln o2 _ _ e1' o1)
      · rw [List.getElem?_set_ne (fun z => n2 z.symm)] at s2
        exact R0.sep j k r' r'' u e1' e2' o1 o2 s1 s2
  · rcases set_get e with ⟨rfl, rfl⟩ | ⟨n, e⟩
    · cases r' <;> first | exact fr | trivial
    · exact R0.kind j r' e
end
def dSet (i : Nat) (te : TEd) : TSd := fun D ε => te ε fun r ε1 => r.free ∧ D.nx (ε1.set i (some r))
theorem qs_set {X : Cx} {pos : Pos} {i : Nat} {x : Str} {e : Expr} {te : TEd} {pos' : Pos} (hN : X.N.Nodup) (he : QE X e te) (hi : X.N[i]? = some x := by rfl) (hx : Loc X.env.scope x := by first | exact Or.inl rfl | exact Or.inr rfl)
    (hs : swapsWith e (some (.Name x pos')) pos.line X.env = pure false := by rfl) (hf : X.fn x = true ∨ X.env.scope.names.lookup x = some .local := by first | exact .inl rfl | exact .inr rfl) :
    QS X (.Assign [.Name x pos'] e pos) (dSet i te) :=
  ⟨ps_imp (ps_set hN hi hx he.pe hs hf) fun D σ H ⟨G, ε, F, R0, h⟩ => ⟨G, ε, F, R0, he.mono _ _ _ (fun r ε1 ⟨f, q⟩ v H' F' R1 ex kp rv ln => q _ H' F' (R1.store rv ln f) ex) h⟩,
    fun D D' ε l h => he.mono _ _ _ (fun r ε1 ⟨f, q⟩ => ⟨f, l.nx _ q⟩) h⟩

/-! ### targets -/
inductive Tg where
  | nm (i : Nat)
  | tp (is : List Nat)
def gNames : List Nat → TGs
  | [] => gNil
  | i :: is => gCons (gName i) (gNames is)
def Tg.l2 (K : PySem.W.Frag) : Tg → TG
  | .nm i => gName i
  | .tp is => gTup K is.length (gNames is)
def puts : List Nat → List D → Ev → Ev
  | i :: is, d :: ds, ε => puts is ds (ε.set i (some (.fr d)))
  | _, _, ε => ε
def Tg.put : Tg → D → Ev → Option Ev
  | .nm i, d, ε => some (ε.set i (some (.fr d)))
  | .tp is, .tup ds, ε => if ds.length = is.length then some (puts is ds ε) else none
  | .tp _, _, _ => none
def Tg.is : Tg → List Nat
  | .nm i => [i]
  | .tp is => is
theorem wipe_set {σ : L2.St} {v : Option V} : ∀ {i : Nat} {vs : List Nat}, i ∈ vs → L2.wipe (σ.set i v) vs = L2.wipe σ vs := by
  intro i vs
  induction vs with
  | nil => intro h; cases h
  | cons k vs ih =>
    intro h
    unfold L2.wipe
    by_cases hk : i ∈ vs
    · rw [ih hk]
    · have e : i = k := by
        rcases List.mem_cons.mp h with h | h
        · exact h
        · exact absurd h hk
      subst e
      -- i is not in vs: setting commutes with the wipe, and the last set wins
      have comm : ∀ (ws : List Nat), i ∉ ws → L2.wipe (σ.set i v) ws = (L2.wipe σ ws).set i v := by
        intro ws
        induction ws with
        | nil => intro _; rfl
        | cons m ws ih2 =>
          intro hn
          unfold L2.wipe
          rw [ih2 (fun z => hn (List.mem_cons_of_mem _ z)), List.set_comm]
          exact fun z => hn (by rw [z]; exact List.mem_cons_self)
      rw [comm vs hk, List.set_set]
section
variable {G : Gh} {K : PySem.W.Frag}
theorem gNames_run {H F : Hp} {Q : L2.St → Hp → Prop} {ws : List Nat} : ∀ {is : List Nat} {ds : List D} {vs : List V} {ε : Ev} {σ : L2.St}, Rel G ε σ H F → DtAll G.T F vs ds → ds.length = is.length → (∀ i ∈ is, i ∈ ws) →
    (∀ σ', Rel G (puts is ds ε) σ' H F → L2.wipe σ' ws = L2.wipe σ ws → Q σ' H) → gNames is vs σ H Q
  | [], [], vs, ε, σ, R0, h, _, _, q => by cases h; exact ⟨rfl, q σ R0 rfl⟩
  | i :: is, d :: ds, _, ε, σ, R0, h, hl, hw, q => by
    cases h with | cons h1 h2 =>
    refine ⟨_, _, rfl, ?_⟩
    have R1 := R0.store (i := i) (r := .fr d) h1 (fun z => z.elim) trivial
    exact gNames_run (ws := ws) R1 h2 (by simpa using hl) (fun j hj => hw j (List.mem_cons_of_mem _ hj)) fun σ' R2 e => q σ' R2 (e.trans (wipe_set (hw i List.mem_cons_self)))
  | [], _ :: _, _, _, _, _, _, hl, _, _ => by cases hl
  | _ :: _, [], _, _, _, _, _, hl, _, _ => by cases hl
theorem Tg.run {tg : Tg} {H F : Hp} {Q : L2.St → Hp → Prop} {ws : List Nat} {d : D} {v : V} {ε ε' : Ev} {σ : L2.St} (R0 : Rel G ε σ H F) (h : Dt G.T F v d) (e : tg.put d ε = some ε') (hw : ∀ i ∈ tg.is, i ∈ ws)
    (q : ∀ σ', Rel G ε' σ' H F → L2.wipe σ' ws = L2.wipe σ ws → Q σ' H) : tg.l2 K v σ H Q := by
  cases tg with
  | nm i =>
    cases e
    exact q _ (R0.store (r := .fr d) h (fun z => z.elim) trivial) (wipe_set (hw i (List.mem_singleton.mpr rfl)))
  | tp is =>
    cases d with
    | tup ds =>
      cases h with | tup h1 h2 =>
      rename_i a vs
      have e' : (if ds.length = is.length then some (puts is ds ε) else none) = some ε' := e
      by_cases hl : ds.length = is.length
      · rw [if_pos hl] at e'
        cases e'
        exact ⟨a, vs, rfl, sqT_up R0.sub h1, by rw [h2.len]; exact hl, gNames_run R0 h2 hl hw q⟩
      · rw [if_neg hl] at e'; cases e'
    | _ => cases e
end
/-- a target of the code is this one -/
structure QG (X : Cx) (target : Expr) (tg : Tg) : Prop where
  pg : PG X target (tg.l2 X.K)
theorem qg_nm {X : Cx} {i : Nat} {x : Str} {pos : Pos} (hN : X.N.Nodup) (hi : X.N[i]? = some x := by rfl) (hx : Loc X.env.scope x := by first | exact Or.inl rfl | exact Or.inr rfl) (hf : X.fn x = true ∨ X.env.scope.names.lookup x = some .local := by first | exact .inl rfl | exact .inr rfl) : QG X (.Name x pos) (.nm i) :=
  ⟨pg_name hN hi hx hf⟩
theorem qg_tp {X : Cx} {es : List Expr} {k : Nat} {pos : Pos} {is : List Nat} (hc : X.calm = true) (h : PGs X es (gNames is)) (hn : (assignEach es X.env).length = is.length := by rfl) (hst : (assignEach es X.env).findIdx? (·.1) = none := by rfl) : QG X (.Tuple es k pos) (.tp is) :=
  ⟨pg_tup hc h hn hst⟩
/-- target = e by a target that unpacks -/
def dTgS (tg : Tg) (te : TEd) : TSd := fun D ε => te ε fun r ε1 => r.isFr = true ∧ ∃ ε2, tg.put r.d ε1 = some ε2 ∧ D.nx ε2
theorem qs_tg {X : Cx} {pos : Pos} {target e : Expr} {tg : Tg} {te : TEd} (he : QE X e te) (hg : QG X target tg) (hs : swapsWithSole [target] e pos.line X.env = pure false := by rfl) (hw : swappedStores [target] e X.env = pure none := by rfl)
    (h1 : (assignEach [target] X.env).map (·.2) = [assign target X.env] := by rfl) : QS X (.Assign [target] e pos) (dTgS tg te) :=
  ⟨ps_imp (ps_asg he.pe hg.pg hs hw h1) fun D σ H ⟨G, ε, F, R0, h⟩ => ⟨G, ε, F, R0, he.mono _ _ _ (fun r ε1 ⟨f, ε2, e, q⟩ v H' F' R1 ex kp rv ln => by
      rw [R.isFr_of f] at rv
      exact Tg.run (ws := tg.is) R1 rv e (fun i h => h) fun σ' R2 _ => q σ' H' F' R2 ex) h⟩,
    fun D D' ε l h => he.mono _ _ _ (fun r ε1 ⟨f, ε2, e, q⟩ => ⟨f, ε2, e, l.nx _ q⟩) h⟩

/-! ### what is walked -/
/-- an iterator J goes through ds, wherever F has grown -/
def WalkD (T : Addr) (F : Hp) (J : It) (ds : List D) : Prop := ds.length ≤ sizeLine ∧ ∀ H2 F2, Ext F F2 → Ext F2 H2 → (∀ i, i < ds.length → J.go i H2) ∧ J.stop ds.length H2 ∧
  ∀ i x H3, i < ds.length → J.yld i H2 x H3 → (H3 = H2 ∧ ∃ d, ds[i]? = some d ∧ Dt T F2 x d) ∨ ∃ p v1 v2 d1 d2, x = .ref p ∧ H2 p = none ∧ H3 = upd H2 p (.tup [v1, v2]) ∧ ds[i]? = some (.tup [d1, d2]) ∧ Dt T F2 v1 d1 ∧ Dt T F2 v2 d2
abbrev TId := Ev → (List D → Ev → Prop) → Prop
def MonoI (t : TId) : Prop := ∀ ε Q Q', (∀ r ε', Q r ε' → Q' r ε') → t ε Q → t ε Q'
def liftI (ti : TId) : TI := fun σ H R => ∃ G ε F, Rel G ε σ H F ∧ ti ε fun ds ε' => ∀ J H' F', Rel G ε' σ H' F' → Ext F F' → Kept G.T H H' → WalkD G.T F' J ds → R J H'
structure QI (X : Cx) (tg iter : Expr) (t : TId) : Prop where
  pi : PI X tg iter (liftI t)
  mono : MonoI t
/-- a list, a tuple -/
def dIt (te : TEd) : TId := fun ε Q => te ε fun r ε1 => match r.fz with
  | .fr (.lst ds) => Q ds ε1
  | .fr (.tup ds) => Q ds ε1
  | _ => False
theorem walkD_list {K : PySem.W.Frag} {T : Addr} {F : Hp} {a : Addr} {vs : List V} {ds : List D} (h1 : F a = some (.lst vs)) (h2 : DtAll T F vs ds) (hz : vs.length ≤ sizeLine) : WalkD T F (Itl K a) ds := ⟨by rw [← h2.len]; exact hz, fun H2 F2 ex sub => by
  have hs : SqL K H2 a vs := sqL_up (sub _ _ (ex _ _ h1))
  have w := walk_list (K := K) (a := a) (xs := vs)
  have hl := h2.len
  refine ⟨fun i hi => w.goes i H2 (by omega) hs, by rw [← hl]; exact w.stops H2 hs, fun i x H3 hi y => ?_⟩
  obtain ⟨e, y'⟩ := w.yields i H2 x H3 (by omega) hs y
  have hd : ds[i]? = some ds[i] := List.getElem?_eq_getElem hi
  obtain ⟨v, e1, e2⟩ := h2.get hd
  rw [y'] at e1
  cases e1
  exact .inl ⟨e, _, hd, Dt.mono ex _ _ e2⟩⟩
theorem walkD_tup {K : PySem.W.Frag} {T : Addr} {F : Hp} {a : Addr} {vs : List V} {ds : List D} (h1 : F a = some (.tup vs)) (h2 : DtAll T F vs ds) (hz : vs.length ≤ sizeLine) : WalkD T F (Itt K a) ds := ⟨by rw [← h2.len]; exact hz, fun H2 F2 ex sub => by
  have hs : SqT K H2 a vs := sqT_up sub (ex _ _ h1)
  have w := walk_tup (K := K) (a := a) (xs := vs)
  have hl := h2.len
  refine ⟨fun i hi => w.goes i H2 (by omega) hs, by rw [← hl]; exact w.stops H2 hs, fun i x H3 hi y => ?_⟩
  obtain ⟨e, y'⟩ := w.yields i H2 x H3 (by omega) hs y
  have hd : ds[i]? = some ds[i] := List.getElem?_eq_getElem hi
  obtain ⟨v, e1, e2⟩ := h2.get hd
  rw [y'] at e1
  cases e1
  exact .inl ⟨e, _, hd, Dt.mono ex _ _ e2⟩⟩
theorem qi_seq {X : Cx} {tg e : Expr} {te : TEd} (he : QE X e te) : QI X tg e (dIt te) := by
  refine ⟨⟨fun pins s σ H R I ⟨G, ε, F, R0, h⟩ => ?_⟩, fun ε Q Q' m h => he.mono _ _ _ (fun r ε1 q => ?_) h⟩
  · refine thn (he.gets I R0 h) ?_
    rintro v s1 ⟨x, H1, r, ε1, F1, I1, r1, p1, R1, ex, kp, rv⟩
    split at p1
    · rename_i ds e
      rw [e] at rv
      cases rv with | lst e1 e2 =>
      rename_i a vs
      obtain rfl : v = Value.ref a := r1
      obtain ⟨its, rv, p, hz⟩ := I1.list (sqL_up (K := X.K) (R1.sub _ _ e1))
      refine wpAny_pyIter_list p.isList ?_
      refine ⟨s1.heap.objs.size, [s1.heap.objs.size], _, _, H1, rfl, I1.kept (t' := s1.toks) fun b o e => Heap.get?_push_of_some _ e, turn_list a _, ⟨_, Heap.get?_push_size _ rfl, rfl, rfl⟩, fun b hb => ?_, p1 (Itl X.K a) H1 F1 R1 ex kp (walkD_list e1 e2 (R1.sz _ _ (.inl e1)))⟩
      have e : b = s1.heap.objs.size := by simpa using hb
      subst e
      exact I1.fpOk (Nat.le_refl _) (I1.hok.fresh (Nat.le_refl _))
    · rename_i ds e
      rw [e] at rv
      cases rv with | tup e1 e2 =>
      rename_i a vs
      obtain rfl : v = Value.ref a := r1
      obtain ⟨its, rv, p, hz⟩ := I1.tuple (sqT_up (K := X.K) R1.sub e1)
      refine wpAny_pyIter_tuple (show s1.heap.IsTuple a its.toArray from p) ?_
      refine ⟨s1.heap.objs.size, [s1.heap.objs.size], _, _, H1, rfl, I1.kept (t' := s1.toks) fun b o e => Heap.get?_push_of_some _ e, turn_tuple a _, ⟨_, Heap.get?_push_size _ rfl, rfl, rfl⟩, fun b hb => ?_, p1 (Itt X.K a) H1 F1 R1 ex kp (walkD_tup e1 e2 (R1.sz _ _ (.inr e1)))⟩
      have e : b = s1.heap.objs.size := by simpa using hb
      subst e
      exact I1.fpOk (Nat.le_refl _) (I1.hok.fresh (Nat.le_refl _))
    · exact p1.elim
  · split at q <;> simp_all
/-- a range -/
def rngD (lo : Int) (n : Nat) : List D := (List.range n).map fun i => .int (lo + (i : Nat))
theorem rngD_len (lo : Int) (n : Nat) : (rngD lo n).length = n := by simp [rngD]
theorem rngD_get {lo : Int} {n i : Nat} (h : i < n) : (rngD lo n)[i]? = some (.int (lo + (i : Nat))) := by
  unfold rngD
  rw [List.getElem?_map, List.getElem?_range h]
  rfl
theorem walkD_rng {T : Addr} {F : Hp} {lo : Int} {n : Nat} (hn : n ≤ sizeLine) : WalkD T F (Itr lo n) (rngD lo n) := ⟨by rw [rngD_len]; exact hn, fun H2 F2 ex sub => by
  refine ⟨fun i hi => by rw [rngD_len] at hi; exact hi, by rw [rngD_len]; exact Nat.le_refl _, fun i x H3 hi y => ?_⟩
  rw [rngD_len] at hi
  obtain ⟨e1, e2⟩ := y
  subst e1 e2
  exact .inl ⟨rfl, _, rngD_get hi, .int _⟩⟩
def dRng1 (ta : TAd) : TId := fun ε Q => ta ε fun rs ε1 => match rs with
  | [.fr (.int j)] => (-(2 ^ 62) ≤ j ∧ j ≤ 16777216) ∧ Q (rngD 0 j.toNat) ε1
  | _ => False
def dRng2 (ta : TAd) : TId := fun ε Q => ta ε fun rs ε1 => match rs with
  | [.fr (.int i), .fr (.int j)] => (-(2 ^ 62) ≤ i ∧ i < 2 ^ 62 ∧ -(2 ^ 62) ≤ j ∧ j < 2 ^ 62 ∧ j - i ≤ 16777216) ∧ Q (rngD i (j - i).toNat) ε1
  | _ => False
theorem dRng1_mono {ta : TAd} (h : MonoA ta) : MonoI (dRng1 ta) := fun ε Q Q' m q => h _ _ _ (fun rs ε1 q => by
  split at q
  · exact ⟨q.1, m _ _ q.2⟩
  · exact q.elim) q
theorem dRng2_mono {ta : TAd} (h : MonoA ta) : MonoI (dRng2 ta) := fun ε Q Q' m q => h _ _ _ (fun rs ε1 q => by
  split at q
  · exact ⟨q.1, m _ _ q.2⟩
  · exact q.elim) q
theorem PA.only {X : Cx} {es : List Expr} {t : TA} (h : PA X es t) (σ : L2.St) (H : Hp) : PA X es (fun σ' H' Q' => σ' = σ ∧ H' = H ∧ t σ H Q') := ⟨fun pos pins' s' σ' H' Q' I' h' => by
  obtain ⟨e1, e2, h2⟩ := h'
  rw [e1, e2] at I'
  rw [e1]
  exact h.run pos pins' s' σ H Q' I' h2⟩
theorem qi_rng1 {X : Cx} {tg a : Expr} {ta : TAd} {p pos : Pos} (hg : Gl X "range") (hm : X.mg "range" = none) (ha : QA X [a] ta) (hs : starEach [a] X.env = [(false, eval a X.env)] := by rfl) : QI X tg (.Call (.Name "range" p) [a] [] pos) (dRng1 ta) := by
  refine ⟨⟨fun pins s σ H R I ⟨G, ε, F, R0, h⟩ => ?_⟩, dRng1_mono ha.mono⟩
  refine (pi_range1 (tg := tg) hg hm (PA.only (t := fun σ H Q => liftA ta σ H Q) ha.pa σ H) hs).run pins s σ H R I ⟨rfl, rfl, G, ε, F, R0, ha.mono _ _ _ (fun rs ε1 q vs H1 F1 R1 ex kp rv no => ?_) h⟩
  split at q
  · cases rv with | cons r1 r2 =>
    cases r2
    cases r1
    have sl := sizeLine_eq
    have q1 := q.1
    exact ⟨_, rfl, q.1.1, by omega, q.2 _ H1 F1 R1 ex kp (walkD_rng (by omega))⟩
  · exact q.elim
theorem qi_rng2 {X : Cx} {tg a b : Expr} {ta : TAd} {p pos : Pos} (hg : Gl X "range") (hm : X.mg "range" = none) (ha : QA X [a, b] ta) (hs : starEach [a, b] X.env = [(false, eval a X.env), (false, eval b X.env)] := by rfl) (hs2 : starEach [b] X.env = [(false, eval b X.env)] := by rfl) : QI X tg (.Call (.Name "range" p) [a, b] [] pos) (dRng2 ta) := by
  refine ⟨⟨fun pins s σ H R I ⟨G, ε, F, R0, h⟩ => ?_⟩, dRng2_mono ha.mono⟩
  refine (pi_range2 (tg := tg) hg hm (PA.only (t := fun σ H Q => liftA ta σ H Q) ha.pa σ H) hs hs2).run pins s σ H R I ⟨rfl, rfl, G, ε, F, R0, ha.mono _ _ _ (fun rs ε1 q vs H1 F1 R1 ex kp rv no => ?_) h⟩
  split at q
  · cases rv with | cons r1 r2 =>
    cases r2 with | cons r2 r3 =>
    cases r3
    cases r1
    cases r2
    have sl := sizeLine_eq
    have q1 := q.1
    exact ⟨_, _, rfl, ⟨q1.1, q1.2.1, q1.2.2.1, q1.2.2.2.1⟩, q.2 _ H1 F1 R1 ex kp (walkD_rng (by omega))⟩
  · exact q.elim

/-! ### for, while -/
def dFor (ti : TId) (tg : Tg) (tb : TSd) : TSd := fun D ε => ti ε fun ds ε1 => ∃ I : Nat → Ev → Prop, I 0 ε1 ∧
  (∀ i d ε, ds[i]? = some d → I i ε → ∃ ε2, tg.put d ε = some ε2 ∧ tb { nx := I (i + 1), rt := D.rt, ct := I (i + 1), bk := D.nx } ε2) ∧ ∀ ε, I ds.length ε → D.nx ε
/-- a turn's value is a datum -/
theorem WalkD.step {G : Gh} {ε : Ev} {σ : L2.St} {H2 F2 F1 : Hp} {J : It} {ds : List D} {i : Nat} {x : V} {H3 : Hp} (w : WalkD G.T F1 J ds) (ex : Ext F1 F2) (R2 : Rel G ε σ H2 F2) (hi : i < ds.length) (y : J.yld i H2 x H3) :
    ∃ d F3, ds[i]? = some d ∧ Rel G ε σ H3 F3 ∧ Ext F2 F3 ∧ Kept G.T H2 H3 ∧ Dt G.T F3 x d := by
  rcases (w.2 H2 F2 ex R2.sub).2.2 i x H3 hi y with ⟨e, d, e1, e2⟩ | ⟨p, v1, v2, d1, d2, rfl, hp, rfl, e1, e2, e3⟩
  · subst e
    exact ⟨d, F2, e1, R2, .refl _, .refl _ _, e2⟩
  · obtain ⟨R3, kp, hF, h0, ln⟩ := R2.push (.tup [v1, v2]) hp
    obtain ⟨R4, ex4⟩ := R3.freeze (o := .tup [v1, v2]) upd_same hF h0 ln (fun us e => by rcases e with e | e <;> cases e; show 2 ≤ sizeLine; rw [sizeLine_eq]; decide)
    exact ⟨_, _, e1, R4, ex4, kp, .tup upd_same (.cons (Dt.mono ex4 _ _ e2) (.cons (Dt.mono ex4 _ _ e3) .nil))⟩
theorem qs_for {X : Cx} {target iter : Expr} {body : List Stmt} {ti : TId} {tg : Tg} {tb : TSd} {pos : Pos} (hp : PassesOwn (model X.prog X.w) X.A X.env X.xe) (hc : X.calm = true) (hi : QI X target iter ti) (hg : QG X target tg) (hb : QSs X body tb)
    (hs : ∀ x, foldedSetIterable iter X.env x = pure x := by intro _; rfl) : QS X (.For target iter body [] pos) (dFor ti tg tb) := by
  refine ⟨ps_imp (ps_for hp hc hi.pi hg.pg hb.pss hs) fun D σ H ⟨G, ε, F, R0, h⟩ => ⟨G, ε, F, R0, hi.mono _ _ _ (fun ds ε1 q J H1 F1 R1 ex1 kp1 w => ?_) h⟩, fun D D' ε l h => hi.mono _ _ _ (fun ds ε1 ⟨I, q0, q1, q2⟩ => ⟨I, q0, fun i d ε e p => ?_, fun ε p => l.nx _ (q2 ε p)⟩) h⟩
  · obtain ⟨I, q0, q1, q2⟩ := q
    refine ⟨fun i m σ' H' => m = ds.length - i ∧ i ≤ ds.length ∧ ∃ ε' F', Rel G ε' σ' H' F' ∧ Ext F1 F' ∧ I i ε', ⟨ds.length, by simp, Nat.zero_le _, ε1, F1, R1, .refl _, q0⟩, ?_⟩
    rintro i m σ' H' ⟨rfl, hle, ε', F', R2, ex2, p⟩
    by_cases hlt : i < ds.length
    · refine .inr ⟨(w.2 H' F' ex2 R2.sub).1 i hlt, fun σ3 H3 => ∃ ε3 F3, Rel G ε3 σ3 H3 F3 ∧ Ext F1 F3 ∧ I (i + 1) ε3, fun σ3 H3 ⟨ε3, F3, R3, ex3, p3⟩ => ⟨ds.length - (i + 1), by omega, rfl, hlt, ε3, F3, R3, ex3, p3⟩, fun x H3 y => ?_⟩
      obtain ⟨d, F3, e, R3, ex3, kp3, dx⟩ := w.step ex2 R2 hlt y
      obtain ⟨ε2, e2, tq⟩ := q1 i d ε' e p
      refine Tg.run (ws := tg.is) R3 dx e2 (fun i h => h) fun σ4 R4 _ => ?_
      refine ⟨G, ε2, F3, R4, hb.mono { nx := I (i + 1), rt := (deOf G F D).rt, ct := I (i + 1), bk := (deOf G F D).nx } _ _ ⟨fun ε5 p5 σ5 H5 F5 R5 ex5 => ⟨ε5, F5, R5, (ex2.trans ex3).trans ex5, p5⟩, fun r q v σ5 ε5 H5 F5 R5 ex5 => q v σ5 ε5 H5 F5 R5 (((ex1.trans ex2).trans ex3).trans ex5), fun ε5 q σ5 H5 F5 R5 ex5 => q σ5 H5 F5 R5 (((ex1.trans ex2).trans ex3).trans ex5), fun ε5 p5 σ5 H5 F5 R5 ex5 => ⟨ε5, F5, R5, (ex2.trans ex3).trans ex5, p5⟩⟩ tq⟩
    · have e : i = ds.length := by omega
      subst e
      exact .inl ⟨(w.2 H' F' ex2 R2.sub).2.1, q2 ε' p σ' H' F' R2 (ex1.trans ex2)⟩
  · obtain ⟨ε2, e2, tq⟩ := q1 i d ε e p
    exact ⟨ε2, e2, hb.mono { nx := I (i + 1), rt := D.rt, ct := I (i + 1), bk := D.nx } _ _ ⟨fun _ h => h, l.rt, l.nx, fun _ h => h⟩ tq⟩
def dWhile (c : TTd) (tb : TSd) : TSd := fun D ε => ∃ (I : Ev → Prop) (μ : Ev → Nat), I ε ∧ ∀ ε, I ε → c ε fun b ε1 => if b = true then tb { nx := fun ε' => I ε' ∧ μ ε' < μ ε, rt := D.rt, ct := fun ε' => I ε' ∧ μ ε' < μ ε, bk := D.nx } ε1 else D.nx ε1
theorem qs_while {X : Cx} {c : Expr} {body : List Stmt} {tc : TTd} {tb : TSd} {pos : Pos} (hp : PassesOwn (model X.prog X.w) X.A X.env X.xe) (hc : QT X c tc) (hb : QSs X body tb) : QS X (.While c body [] pos) (dWhile tc tb) := by
  refine ⟨ps_imp (ps_while hp hc.pt hb.pss) fun D σ H ⟨G, ε, F, R0, I, μ, q0, q1⟩ => ?_, fun D D' ε l ⟨I, μ, q0, q1⟩ => ⟨I, μ, q0, fun ε p => hc.mono _ _ _ (fun b ε1 q => ?_) (q1 ε p)⟩⟩
  · refine ⟨fun m σ' H' => ∃ ε' F', Rel G ε' σ' H' F' ∧ Ext F F' ∧ I ε' ∧ μ ε' = m, ⟨_, ε, F, R0, .refl _, q0, rfl⟩, ?_⟩
    rintro m σ' H' ⟨ε', F', R1, ex1, p, rfl⟩
    refine ⟨G, ε', F', R1, hc.mono _ _ _ (fun b ε1 q H2 F2 R2 ex2 kp2 => ?_) (q1 ε' p)⟩
    cases b with
    | true =>
      simp only [if_true] at q ⊢
      refine ⟨fun σ3 H3 => ∃ ε3 F3, Rel G ε3 σ3 H3 F3 ∧ Ext F F3 ∧ I ε3 ∧ μ ε3 < μ ε', fun σ3 H3 ⟨ε3, F3, R3, ex3, p3, l3⟩ => ⟨_, l3, ε3, F3, R3, ex3, p3, rfl⟩, G, ε1, F2, R2, hb.mono { nx := fun e => I e ∧ μ e < μ ε', rt := (deOf G F D).rt, ct := fun e => I e ∧ μ e < μ ε', bk := (deOf G F D).nx } _ _ ⟨fun ε5 p5 σ5 H5 F5 R5 ex5 => ⟨ε5, F5, R5, (ex1.trans ex2).trans ex5, p5.1, p5.2⟩, fun r q v σ5 ε5 H5 F5 R5 ex5 => q v σ5 ε5 H5 F5 R5 ((ex1.trans ex2).trans ex5), fun ε5 q σ5 H5 F5 R5 ex5 => q σ5 H5 F5 R5 ((ex1.trans ex2).trans ex5), fun ε5 p5 σ5 H5 F5 R5 ex5 => ⟨ε5, F5, R5, (ex1.trans ex2).trans ex5, p5.1, p5.2⟩⟩ q⟩
    | false =>
      simp only [Bool.false_eq_true, if_false] at q ⊢
      exact q σ' H2 F2 R2 (ex1.trans ex2)
  · cases b with
    | true => simp only [if_true] at q ⊢; exact hb.mono { nx := fun e => I e ∧ μ e < μ ε, rt := D.rt, ct := fun e => I e ∧ μ e < μ ε, bk := D.nx } _ _ ⟨fun _ h => h, l.rt, l.nx, fun _ h => h⟩ q
    | false => simp only [Bool.false_eq_true, if_false] at q ⊢; exact l.nx _ q
end DL

set_option Elab.async false
set_option linter.all false
set_option maxRecDepth 100000
set_option maxHeartbeats 4000000
/-! DLg: pins, comprehensions, defs and their calls at the data level. -/
namespace DL
open PySem PySem.Spec PyProof.Rows L2

/-! ### a list that is held ready -/
def Gh.pin (G : Gh) (a : Addr) (us : List V) : Gh := { G with H0 := upd G.H0 a (.lst us) }
/-- no slot walks the list at a -/
def NoPin (ε : Ev) (a : Addr) : Prop := ∀ (j : Nat) b ds, ε[j]? = some (some (.pin b ds)) → b ≠ a
section
variable {G : Gh} {ε : Ev} {σ : L2.St} {H F : Hp} {a : Addr} {us : List V}
theorem Rel.pin (R0 : Rel G ε σ H F) (hH : H a = some (.lst us)) (hF : F a = none) (h0 : G.H0 a = none) (ln : Lone ε σ (.ref a)) : Rel (G.pin a us) ε σ H F := by
  have nT := R0.neT h0
  refine ⟨R0.sub, fun b o e n => ?_, R0.low, fun b hb => ?_, R0.tape, R0.nT, ?_, R0.script, R0.small, R0.sz, fun i r e => ?_, R0.sep, R0.len, R0.kind⟩
  · by_cases hb : b = a
    · subst hb
      have e' : upd G.H0 b (.lst us) b = some o := e
      rw [upd_same] at e'
      rw [← e']; exact hH
    · have e' : upd G.H0 a (.lst us) b = some o := e
      rw [upd_ne hb] at e'
      exact R0.keep b o e' n
  · have hba : b ≠ a := fun z => by subst z; exact hb hF
    rcases R0.new b hb with h | h
    · exact .inl h
    · exact .inr (by show upd G.H0 a (.lst us) b = none; rw [upd_ne hba]; exact h)
  · show upd G.H0 a (.lst us) G.T ≠ none
    rw [upd_ne nT.symm]; exact R0.tp
  · obtain ⟨v, e1, h1⟩ := R0.slots i r e
    refine ⟨v, e1, ?_⟩
    cases r with
    | fr d => exact h1
    | ow ds =>
      obtain ⟨b, vs, rfl, h1, h2, h3, h4⟩ := h1
      have hb : b ≠ a := fun z => ln i _ e trivial (by rw [e1, z])
      exact ⟨b, vs, rfl, h1, h2, h3, by show upd G.H0 a (.lst us) b = none; rw [upd_ne hb]; exact h4⟩
    | od ds =>
      obtain ⟨b, vs, rfl, h1, h2, h3, h4⟩ := h1
      have hb : b ≠ a := fun z => ln i _ e trivial (by rw [e1, z])
      exact ⟨b, vs, rfl, h1, h2, h3, by show upd G.H0 a (.lst us) b = none; rw [upd_ne hb]; exact h4⟩
    | bo ds => exact h1
    | bd ds => exact h1
    | pin b ds =>
      obtain ⟨vs, rfl, h1, h2, h3⟩ := h1
      have hb : b ≠ a := fun z => by rw [z, h0] at h1; cases h1
      exact ⟨vs, rfl, by show upd G.H0 a (.lst us) b = _; rw [upd_ne hb]; exact h1, h2, h3⟩
theorem Rel.unpin (R0 : Rel (G.pin a us) ε σ H F) (h0 : G.H0 a = none) (nT : a ≠ G.T) (np : NoPin ε a) : Rel G ε σ H F ∧ H a = some (.lst us) ∧ (G.F0 a = none → F a = none) ∧ Lone ε σ (.ref a) := by
  have pa : (G.pin a us).H0 a = some (.lst us) := upd_same
  have pn : ∀ b, b ≠ a → (G.pin a us).H0 b = G.H0 b := fun b h => upd_ne h
  refine ⟨⟨R0.sub, fun b o e n => ?_, R0.low, fun b hb => ?_, R0.tape, R0.nT, ?_, R0.script, R0.small, R0.sz, fun i r e => ?_, R0.sep, R0.len, R0.kind⟩, R0.keep a _ pa nT, fun h => ?_, fun j r e o z => ?_⟩
  · have hb : b ≠ a := fun z => by rw [z, h0] at e; cases e
    exact R0.keep b o (by rw [pn b hb]; exact e) n
  · rcases R0.new b hb with h | h
    · exact .inl h
    · have hb : b ≠ a := fun z => by rw [z, pa] at h; cases h
      exact .inr (by rw [← pn b hb]; exact h)
  · have := R0.tp
    rwa [show (G.pin a us).T = G.T from rfl, pn _ (fun z => nT z.symm)] at this
  · obtain ⟨v, e1, h1⟩ := R0.slots i r e
    refine ⟨v, e1, ?_⟩
    cases r with
    | fr d => exact h1
    | ow ds =>
      obtain ⟨b, vs, rfl, h1, h2, h3, h4⟩ := h1
      have hb : b ≠ a := fun z => by rw [z, pa] at h4; cases h4
      exact ⟨b, vs, rfl, h1, h2, h3, by rw [← pn b hb]; exact h4⟩
    | od ds =>
      obtain ⟨b, vs, rfl, h1, h2, h3, h4⟩ := h1
      have hb : b ≠ a := fun z => by rw [z, pa] at h4; cases h4
      exact ⟨b, vs, rfl, h1, h2, h3, by rw [← pn b hb]; exact h4⟩
    | bo ds => exact h1
    | bd ds => exact h1
    | pin b ds =>
      obtain ⟨vs, rfl, h1, h2, h3⟩ := h1
      have hb : b ≠ a := np i b ds e
      exact ⟨vs, rfl, by rw [← pn b hb]; exact h1, h2, h3⟩
  · cases q : F a with
    | none => rfl
    | some o =>
      rcases R0.new a (by rw [q]; simp) with z | z
      · exact absurd h z
      · rw [pa] at z; cases z
  · obtain ⟨v, e1, h1⟩ := R0.slots j r e
    rw [e1] at z
    cases z
    cases r with
    | ow ds => obtain ⟨b, vs, e2, _, _, _, h4⟩ := h1; cases e2; rw [pa] at h4; cases h4
    | od ds => obtain ⟨b, vs, e2, _, _, _, h4⟩ := h1; cases e2; rw [pa] at h4; cases h4
    | fr d => exact o
    | bo ds => exact o
    | bd ds => exact o
    | pin b ds => exact o
/-- the held list changes -/
theorem Rel.repin (R0 : Rel (G.pin a us) ε σ H F) (h0 : G.H0 a = none) (nT : a ≠ G.T) (np : NoPin ε a) (nF : G.F0 a = none) (ws : List V) : Rel (G.pin a ws) ε σ (upd H a (.lst ws)) F := by
  obtain ⟨R1, hH, hF, ln⟩ := R0.unpin h0 nT np
  have fa := hF nF
  have R2 : Rel G ε σ (upd H a (.lst ws)) F := by
    refine ⟨fun b o e => ?_, fun b o e n => ?_, R1.low, R1.new, ?_, R1.nT, R1.tp, R1.script, R1.small, R1.sz, fun i r e => ?_, R1.sep, R1.len, R1.kind⟩
    · have hb : b ≠ a := fun z => by rw [z, fa] at e; cases e
      rw [upd_ne hb]; exact R1.sub b o e
    · have hb : b ≠ a := fun z => by rw [z, h0] at e; cases e
      rw [upd_ne hb]; exact R1.keep b o e n
    · obtain ⟨i, c, h⟩ := R1.tape
      exact ⟨i, c, by rw [upd_ne nT.symm]; exact h⟩
    · obtain ⟨v, e1, h1⟩ := R1.slots i r e
      refine ⟨v, e1, ?_⟩
      cases r with
      | fr d => exact h1
      | ow ds =>
        obtain ⟨b, vs, rfl, h1, h2⟩ := h1
        have hb : b ≠ a := fun z => ln i _ e trivial (by rw [e1, z])
        exact ⟨b, vs, rfl, by rw [upd_ne hb]; exact h1, h2⟩
      | od ds =>
        obtain ⟨b, vs, rfl, h1, h2⟩ := h1
        have hb : b ≠ a := fun z => ln i _ e trivial (by rw [e1, z])
        exact ⟨b, vs, rfl, by rw [upd_ne hb]; exact h1, h2⟩
      | bo ds => exact (R1.kind i _ e).elim
      | bd ds => exact (R1.kind i _ e).elim
      | pin b ds => exact h1
  exact R2.pin upd_same fa h0 ln
end

/-! ### comprehensions -/
def wipeE (ε : Ev) : List Nat → Ev
  | [] => ε
  | v :: vs => (wipeE ε vs).set v none
theorem wipeE_get {ε : Ev} {j : Nat} {r : R} : ∀ {vs : List Nat}, (wipeE ε vs)[j]? = some (some r) → ε[j]? = some (some r) ∧ j ∉ vs
  | [], h => ⟨h, by simp⟩
  | v :: vs, h => by
    unfold wipeE at h
    by_cases hj : v = j
    · subst hj
      by_cases hv : v < (wipeE ε vs).length
      · rw [List.getElem?_set_self hv] at h; cases h
      · rw [List.getElem?_eq_none (by simpa using hv)] at h; cases h
    · rw [List.getElem?_set_ne hj] at h
      obtain ⟨h1, h2⟩ := wipeE_get h
      exact ⟨h1, by simp only [List.mem_cons, not_or]; exact ⟨fun e => hj e.symm, h2⟩⟩
theorem wipeE_out {ε : Ev} {j : Nat} : ∀ {vs : List Nat}, j ∉ vs → (wipeE ε vs)[j]? = ε[j]?
  | [], _ => rfl
  | v :: vs, h => by
    simp only [List.mem_cons, not_or] at h
    unfold wipeE
    rw [List.getElem?_set_ne (fun z => h.1 z.symm)]
    exact wipeE_out h.2
theorem wipeE_len (ε : Ev) : ∀ vs : List Nat, (wipeE ε vs).length = ε.length
  | [] => rfl
  | v :: vs => by unfold wipeE; rw [List.length_set, wipeE_len ε vs]
theorem wipe_idem {σ : L2.St} (vs : List Nat) : L2.wipe (L2.wipe σ vs) vs = L2.wipe σ vs := by
  have aux : ∀ ws : List Nat, (∀ i ∈ ws, i ∈ vs) → L2.wipe (L2.wipe σ ws) vs = L2.wipe σ vs := by
    intro ws
    induction ws with
    | nil => intro _; rfl
    | cons w ws ih =>
      intro h
      show L2.wipe ((L2.wipe σ ws).set w none) vs = _
      rw [wipe_set (h w List.mem_cons_self)]
      exact ih fun i hi => h i (List.mem_cons_of_mem _ hi)
  exact aux vs fun _ h => h
section
variable {G : Gh} {ε : Ev} {σ : L2.St} {H F : Hp}
theorem Rel.wipe (R0 : Rel G ε σ H F) (vs : List Nat) : Rel G (wipeE ε vs) (L2.wipe σ vs) H F := by
  refine ⟨R0.sub, R0.keep, R0.low, R0.new, R0.tape, R0.nT, R0.tp, R0.script, R0.small, R0.sz, fun j r e => ?_, fun j k r r' v e1 e2 o1 o2 s1 s2 => ?_, by rw [wipeE_len, L2.wipe_length]; exact R0.len, fun j r e => R0.kind j r (wipeE_get e).1⟩
  · obtain ⟨e1, e2⟩ := wipeE_get e
    obtain ⟨v, s1, h1⟩ := R0.slots j r e1
    exact ⟨v, by rw [L2.wipe_out e2]; exact s1, h1⟩
  · exact R0.sep j k r r' v (wipeE_get e1).1 (wipeE_get e2).1 o1 o2 (L2.wipe_some s1).1 (L2.wipe_some s2).1
def slotFr (ε : Ev) (v : Nat) : Bool := match ε[v]? with
  | some (some (.fr _)) => true
  | some none => true
  | none => true
  | _ => false
/-- the block's own names get their values back -/
theorem Rel.restore {H1 F1 : Hp} (R0 : Rel G ε σ H1 F1) {vs : List Nat} (R1 : Rel G (wipeE ε vs) (L2.wipe σ vs) H F) (ex : Ext F1 F) (hv : vs.all (slotFr ε) = true) : Rel G ε σ H F := by
  have own : ∀ (j : Nat) (r : R), ε[j]? = some (some r) → r.own → j ∉ vs := fun j r e o hj => by
    have := List.all_eq_true.mp hv j hj
    unfold slotFr at this
    rw [e] at this
    cases r <;> first | exact o | cases this
  refine ⟨R1.sub, R1.keep, R1.low, R1.new, R1.tape, R1.nT, R1.tp, R1.script, R1.small, R1.sz, fun j r e => ?_, R0.sep, R0.len, R0.kind⟩
  by_cases hj : j ∈ vs
  · have := List.all_eq_true.mp hv j hj
    unfold slotFr at this
    rw [e] at this
    obtain ⟨v, s1, h1⟩ := R0.slots j r e
    refine ⟨v, s1, ?_⟩
    cases r with
    | fr d => exact Dt.mono ex _ _ h1
    | _ => cases this
  · obtain ⟨v, s1, h1⟩ := R1.slots j r (by rw [wipeE_out hj]; exact e)
    rw [L2.wipe_out hj] at s1
    exact ⟨v, s1, h1⟩
end
def dLC (ti : TId) (tg : Tg) (tt : TTd) (te : TEd) (vs : List Nat) : TEd := fun ε Q => ti ε fun ds ε1 => vs.all (slotFr ε1) = true ∧ ∃ P : Nat → List D → Prop, P 0 [] ∧
  (∀ i d acc, ds[i]? = some d → P i acc → ∃ ε2, tg.put d (wipeE ε1 vs) = some ε2 ∧ tt ε2 fun b ε3 => if b = true then te ε3 fun r ε4 => r.free ∧ wipeE ε4 vs = wipeE ε1 vs ∧ P (i + 1) (acc ++ [r.d]) else wipeE ε3 vs = wipeE ε1 vs ∧ P (i + 1) acc) ∧
  ∀ acc, acc.length ≤ ds.length → P ds.length acc → Q (.ow acc) ε1
theorem dLC_mono {ti : TId} {tg : Tg} {tt : TTd} {te : TEd} {vs : List Nat} (hi : MonoI ti) : MonoE (dLC ti tg tt te vs) := fun ε Q Q' m h =>
  hi _ _ _ (fun ds ε1 ⟨h0, P, h1, h2, h3⟩ => ⟨h0, P, h1, h2, fun acc hl p => m _ _ (h3 acc hl p)⟩) h
structure QTs (X : Cx) (ifs : List Expr) (t : TTd) : Prop where
  pts : PTs X ifs (liftT t)
  mono : MonoT t
def dYes : TTd := fun ε Q => Q true ε
theorem qts_nil {X : Cx} : QTs X [] dYes := ⟨⟨fun pins s σ H Q I ⟨G, ε, F, R0, h⟩ => pts_nil.run pins s σ H Q I (h H F R0 (.refl _) (.refl _ _))⟩, fun ε Q Q' m h => m _ _ h⟩
theorem qts_one {X : Cx} {c : Expr} {t : TTd} (h : QT X c t) : QTs X [c] t := ⟨pts_one h.pt, h.mono⟩
theorem RV.notD {G : Gh} {H F : Hp} {r : R} {v : V} (f : r.free) (h : RV G H F v r.fz) : Dt G.T F v r.d := by
  cases r with
  | fr d => exact h
  | ow d => exact h
  | od d => exact h
  | _ => exact f.elim
def tLine (t : TE) : TE := fun σ H Q => t σ H fun v H' => Line H' → Q v H'
theorem pe_line {X : Cx} {e : Expr} {t : TE} (h : PE X e t) : PE X e (tLine t) := ⟨fun pins s σ H Q I q => thn (h.run pins s σ H _ I q) fun u s1 ⟨v, H1, I1, r, q1⟩ => ⟨v, H1, I1, r, q1 (line_of I1)⟩⟩
theorem lc_imp {ti : TId} {tg : Tg} {tt : TTd} {te : TEd} {vs : List Nat} {K : PySem.W.Frag} (mi : MonoI ti) (mt : MonoT tt) (me : MonoE te) (hw : ∀ i ∈ tg.is, i ∈ vs) {σ : L2.St} {H : Hp} {Q : VK}
    (h : liftE (dLC ti tg tt te vs) σ H Q) : tLc (liftI ti) (tg.l2 K) (liftT tt) (tLine (liftE te)) vs σ H Q := by
  obtain ⟨G, ε, F, R0, h⟩ := h
  refine ⟨G, ε, F, R0, mi _ _ _ (fun ds ε1 q J H1 F1 R1 ex1 kp1 w D hD => ?_) h⟩
  obtain ⟨h0, P, q0, q1, q2⟩ := q
  have hz := w.1
  -- the new list
  obtain ⟨R2, kp2, hF2, hG2, ln2⟩ := R1.push (.lst []) hD
  have nT : D ≠ G.T := R1.neT hG2
  have nF0 : G.F0 D = none := by
    cases e : G.F0 D with
    | none => rfl
    | some o => have := R1.low _ _ e; rw [hF2] at this; cases this
  have np : NoPin ε1 D := fun j b ds' e z => by
    subst z
    obtain ⟨v, _, us, _, h1, _⟩ := R1.slots j _ e
    rw [hG2] at h1; cases h1
  have npw : NoPin (wipeE ε1 vs) D := fun j b ds' e => np j b ds' (wipeE_get e).1
  have R3 := (R2.pin upd_same hF2 hG2 ln2).wipe vs
  refine ⟨fun i m H' => m = ds.length - i ∧ i ≤ ds.length ∧ ∃ F' us acc, Rel (G.pin D us) (wipeE ε1 vs) (L2.wipe σ vs) H' F' ∧ Ext F1 F' ∧ Kept G.T H1 H' ∧ DtAll G.T F' us acc ∧ acc.length ≤ i ∧ P i acc,
    ⟨ds.length, by simp, Nat.zero_le _, F1, [], [], R3, .refl _, kp2, .nil, Nat.zero_le _, q0⟩, ?_⟩
  rintro i m H' ⟨rfl, hle, F', us, acc, R4, ex4, kp4, da, hal, p⟩
  by_cases hlt : i < ds.length
  · refine .inr ⟨(w.2 H' F' ex4 R4.sub).1 i hlt, fun H'' => ∃ F'' us' acc', Rel (G.pin D us') (wipeE ε1 vs) (L2.wipe σ vs) H'' F'' ∧ Ext F1 F'' ∧ Kept G.T H1 H'' ∧ DtAll G.T F'' us' acc' ∧ acc'.length ≤ i + 1 ∧ P (i + 1) acc',
      fun H'' ⟨F'', us', acc', a1, a2, a3, a4, a5, a6⟩ => ⟨ds.length - (i + 1), by omega, rfl, hlt, F'', us', acc', a1, a2, a3, a4, a5, a6⟩, fun x H3 y => ?_⟩
    obtain ⟨d, F3, e, R5, ex5, kp5, dx⟩ := WalkD.step (G := G.pin D us) w ex4 R4 hlt y
    obtain ⟨ε2, e2, tq⟩ := q1 i d acc e p
    refine Tg.run (ws := vs) R5 dx e2 hw fun σ2 R6 ew => ?_
    rw [wipe_idem] at ew
    refine ⟨ew, G.pin D us, ε2, F3, R6, mt _ _ _ (fun b ε3 q H4 F4 R7 ex7 kp7 => ?_) tq⟩
    cases b with
    | false =>
      simp only [Bool.false_eq_true, if_false] at q ⊢
      have R8 := R7.wipe vs
      rw [q.1, ew] at R8
      exact ⟨F4, us, acc, R8, (ex4.trans ex5).trans ex7, (kp4.trans kp5).trans kp7, DtAll.mono (ex5.trans ex7) _ _ da, by omega, q.2⟩
    | true =>
      simp only [if_true] at q ⊢
      refine ⟨G.pin D us, ε3, F4, R7, me _ _ _ (fun r ε4 q v H5 F5 R8 ex8 kp8 rv ln li => ?_) q⟩
      obtain ⟨fr, we, p'⟩ := q
      obtain ⟨F6, R9, ex9, rv9⟩ := R8.let_go rv ln (fun a us e => li a us (.inl e))
      have R10 := R9.wipe vs
      rw [we, ew] at R10
      obtain ⟨R11, hH11, _, _⟩ := R10.unpin hG2 nT npw
      refine ⟨us, hH11, ?_, F6, us ++ [v], acc ++ [r.d], R10.repin hG2 nT npw nF0 (us ++ [v]), ((ex4.trans ex5).trans ex7).trans (ex8.trans ex9), fun b o e n => ?_, (DtAll.mono ((ex5.trans ex7).trans (ex8.trans ex9)) _ _ da).append (.one (RV.notD (G := G.pin D us) fr rv9)), ?_, p'⟩
      · rw [da.len]
        omega
      · have hb : b ≠ D := fun z => by rw [z, hD] at e; cases e
        rw [upd_ne hb]
        exact (((kp4.trans kp5).trans kp7).trans kp8) b o e n
      · rw [List.length_append, List.length_singleton]
        omega
  · have e : i = ds.length := by omega
    subst e
    refine .inl ⟨(w.2 H' F' ex4 R4.sub).2.1, ?_⟩
    obtain ⟨R5, hH5, hF5, ln5⟩ := R4.unpin hG2 nT npw
    have R6 := R1.restore R5 ex4 h0
    have lnE : Lone ε1 σ (.ref D) := fun j r e o z => by
      have hj : j ∉ vs := fun hj => by
        have := List.all_eq_true.mp h0 j hj
        unfold slotFr at this
        rw [e] at this
        cases r <;> first | exact o | cases this
      exact ln5 j r (by rw [wipeE_out hj]; exact e) o (by rw [L2.wipe_out hj]; exact z)
    exact q2 acc hal p _ _ _ R6 (ex1.trans ex4) (kp1.trans kp4) ⟨D, us, rfl, hH5, da, hF5 nF0, hG2⟩ fun _ => lnE

section
variable {X : Cx} {elt target iter : Expr} {ifs : List Expr} {scope : Scope} {own : List (Str × Nat)} {pos : Pos} {ti : TId} {tg : Tg} {tt : TTd} {te : TEd}
theorem qe_lc (own : List (Str × Nat)) (hc : X.calm = true) (hN : X.N.Nodup) (hi : QI X target iter ti) (ok : BlkOk X.N X.env.scope scope own)
    (hg : ∀ (s : Shared) (H : Hp) (C : Addr) (cl : List (Str × Addr)) (fp : List Addr), QG (X.blk s H scope (compEnvC scope cl C X.env) fp) target tg) (ht : ∀ (s : Shared) (H : Hp) (C : Addr) (cl : List (Str × Addr)) (fp : List Addr), QTs (X.blk s H scope (compEnvC scope cl C X.env) fp) ifs tt)
    (he : ∀ (s : Shared) (H : Hp) (C : Addr) (cl : List (Str × Addr)) (fp : List Addr), QE (X.blk s H scope (compEnvC scope cl C X.env) fp) elt te) (hw : ∀ i ∈ tg.is, i ∈ own.map (·.2) := by decide) (hs : ∀ x, foldedSetIterable iter X.env x = pure x := by intro _; rfl) :
    QE X (.ListComp elt [⟨target, iter, ifs, 0⟩] scope pos) (dLC ti tg tt te (own.map (·.2))) := by
  have mt : MonoT tt := (ht ⟨X.s_0.heap, X.s_0.gens, X.s_0.drawn, X.s_0.toks, X.s_0.os⟩ X.H_0 0 [] []).mono
  have me : MonoE te := (he ⟨X.s_0.heap, X.s_0.gens, X.s_0.drawn, X.s_0.toks, X.s_0.os⟩ X.H_0 0 [] []).mono
  refine ⟨⟨fun pins s σ H Q I h => ?_⟩, dLC_mono hi.mono⟩
  exact (pe_lc (wi := liftI ti) (g := tg.l2 X.K) (tt := liftT tt) (te := tLine (liftE te)) hc hN hi.pi ok (fun s H C cl fp => (hg s H C cl fp).pg) (fun s H C cl fp => (ht s H C cl fp).pts) (fun s H C cl fp => pe_line (he s H C cl fp).pe) hs).run pins s σ H Q I (lc_imp hi.mono mt me hw h)
theorem qs_setLc {i : Nat} {y : Str} {py : Pos} {spos : Pos} (own : List (Str × Nat)) (hc : X.calm = true) (hN : X.N.Nodup)
    (hi : QI X target iter ti) (ok : BlkOk X.N X.env.scope scope own)
    (hg : ∀ (s : Shared) (H : Hp) (C : Addr) (cl : List (Str × Addr)) (fp : List Addr), QG (X.blk s H scope (compEnvC scope cl C X.env) fp) target tg) (ht : ∀ (s : Shared) (H : Hp) (C : Addr) (cl : List (Str × Addr)) (fp : List Addr), QTs (X.blk s H scope (compEnvC scope cl C X.env) fp) ifs tt)
    (he : ∀ (s : Shared) (H : Hp) (C : Addr) (cl : List (Str × Addr)) (fp : List Addr), QE (X.blk s H scope (compEnvC scope cl C X.env) fp) elt te) (hsw : swapsWith (.ListComp elt [⟨target, iter, ifs, 0⟩] scope pos) (some (.Name y py)) spos.line X.env = pure true) (hy : X.N[i]? = some y := by rfl) (hyl : X.env.scope.names.lookup y = some .local := by rfl)
    (hw : ∀ i ∈ tg.is, i ∈ own.map (·.2) := by decide) (hs : ∀ x, foldedSetIterable iter X.env x = pure x := by intro _; rfl) :
    QS X (.Assign [.Name y py] (.ListComp elt [⟨target, iter, ifs, 0⟩] scope pos) spos) (dSet i (dLC ti tg tt te (own.map (·.2)))) := by
  have mt : MonoT tt := (ht ⟨X.s_0.heap, X.s_0.gens, X.s_0.drawn, X.s_0.toks, X.s_0.os⟩ X.H_0 0 [] []).mono
  have me : MonoE te := (he ⟨X.s_0.heap, X.s_0.gens, X.s_0.drawn, X.s_0.toks, X.s_0.os⟩ X.H_0 0 [] []).mono
  have mm := dLC_mono (tg := tg) (tt := tt) (te := te) (vs := own.map (·.2)) hi.mono
  refine ⟨ps_imp (ps_setLc (wi := liftI ti) (g := tg.l2 X.K) (tt := liftT tt) (te := tLine (liftE te)) hc hN hy hyl hsw hi.pi ok (fun s H C cl fp => (hg s H C cl fp).pg) (fun s H C cl fp => (ht s H C cl fp).pts) (fun s H C cl fp => pe_line (he s H C cl fp).pe) hs) fun D σ H ⟨G, ε, F, R0, h⟩ => ?_, fun D D' ε l h => mm _ _ _ (fun r ε1 ⟨f, q⟩ => ⟨f, l.nx _ q⟩) h⟩
  exact lc_imp hi.mono mt me hw (Q := fun x H1 => gName i x σ H1 D.nx) ⟨G, ε, F, R0, mm _ _ _ (fun r ε1 ⟨f, q⟩ v H' F' R1 ex kp rv ln => q _ H' F' (R1.store rv ln f) ex) h⟩
end
end DL

set_option Elab.async false
set_option linter.all false
set_option maxRecDepth 100000
set_option maxHeartbeats 4000000
/-! DLh: defs, calls, methods, further statements at the data level. -/
namespace DL
open PySem PySem.Spec PyProof.Rows L2

/-! ### promises by data -/
abbrev DSp := List D → (R → Prop) → Prop
structure FnPre (T L : Addr) (ns : List Int) (H F : Hp) : Prop where
  sub : Ext F H
  tape : ∃ i c, H T = some (.lst [.ref L, .int i, .int c])
  nT : F T = none
  script : F L = some (.lst (ns.map V.int))
  small : ns.length ≤ 63
  sz : ∀ a vs, (F a = some (.lst vs) ∨ F a = some (.tup vs)) → vs.length ≤ sizeLine
def liftSp (sp : DSp) : Sp := fun vs H Q _ => ∃ T L ns F ds, FnPre T L ns H F ∧ DtAll T F vs ds ∧ sp ds fun r => ∀ v H' F', FnPre T L ns H' F' → Kept T H H' → Ext F F' → (∀ a, F' a ≠ none → F a ≠ none ∨ H a = none) → RV ⟨T, L, ns, H, F⟩ H' F' v r → r.free → Q v H'
def retD (Q : R → Prop) : DE := { nx := fun _ => Q (.fr .non), rt := Q }
def startE (N : List Str) (ds : List D) : Ev := ds.map (fun d => some (.fr d)) ++ List.replicate (N.length - ds.length) none
def MonoD (sp : DSp) : Prop := ∀ ds Q Q', (∀ r, Q r → Q' r) → sp ds Q → sp ds Q'
section
variable {P : Program} {w : World} {K : PySem.W.Frag} {mg : Str → Option Value} {base : Heap}
theorem Rel.pre {G : Gh} {ε : Ev} {σ : L2.St} {H F : Hp} (R0 : Rel G ε σ H F) : FnPre G.T G.L G.ns H F := ⟨R0.sub, R0.tape, R0.nT, R0.script, R0.small, R0.sz⟩
theorem rel_start {T L : Addr} {ns : List Int} {H F : Hp} {N : List Str} {vs : List V} {ds : List D} (pre : FnPre T L ns H F) (h : DtAll T F vs ds) (hN : ds.length ≤ N.length) : Rel ⟨T, L, ns, H, F⟩ (startE N ds) (L2.start N vs) H F := by
  have hl := h.len
  have sl : ∀ (i : Nat) (r : R), (startE N ds)[i]? = some (some r) → ∃ d, ds[i]? = some d ∧ r = .fr d := fun i r e => by
    unfold startE at e
    by_cases hi : i < ds.length
    · rw [List.getElem?_append_left (by simpa using hi), List.getElem?_map] at e
      cases q : ds[i]? with
      | none => rw [q] at e; cases e
      | some d => rw [q] at e; cases e; exact ⟨d, rfl, rfl⟩
    · rw [List.getElem?_append_right (by simpa using hi), List.getElem?_replicate] at e
      split at e <;> cases e
  refine ⟨pre.sub, fun a o e _ => e, .refl _, fun a h => .inl h, pre.tape, pre.nT, ?_, pre.script, pre.small, pre.sz, fun i r e => ?_, fun i j r r' v e1 e2 o1 => ?_, ?_, fun i r e => ?_⟩
  · obtain ⟨i, c, e⟩ := pre.tape
    show H T ≠ none
    rw [e]
    simp
  · obtain ⟨d, e1, rfl⟩ := sl i r e
    obtain ⟨v, e2, h2⟩ := h.get e1
    refine ⟨v, ?_, h2⟩
    have hi : i < vs.length := by
      by_cases hi : i < vs.length
      · exact hi
      · rw [List.getElem?_eq_none (by omega)] at e2; cases e2
    unfold L2.start
    rw [List.getElem?_append_left (by simpa using hi), List.getElem?_map, e2]
    rfl
  · obtain ⟨d, _, rfl⟩ := sl i r e1
    exact o1.elim
  · simp [startE, L2.start, hl]
  · obtain ⟨d, _, rfl⟩ := sl i r e
    trivial
/-- THE RULE for a def -/
theorem fn_dl {x qual : Str} {st : Stmt} {f : Addr} {fd : FuncData} {N ps : List Str} {k : Nat} {sp : DSp} (F : Fun K x qual st f fd) (S : FnScope N ps (defScope st)) (hlen : ∀ ds Q, sp ds Q → ds.length = ps.length)
    (hbody : ∀ (cdv : Value) (A : Around) (outer : List Env) (s : Shared) (H : Hp) (E : XK), Room k (A.deeper (envOfC qual (defScope st) s.heap.objs.size f cdv)) →
      ∃ t, QSs (cxOf CX0 P w K mg base N qual (defScope st) f cdv A outer s H E).nox (defBody st) t ∧ ∀ ds Q, sp ds Q → t (retD Q) (startE N ds)) : FnOk P w K mg base CX0 (k + 1) f fd ps (liftSp sp) := by
  refine F.ok S (fun vs H Q E ⟨T, L, ns, F, ds, pre, h, q⟩ => by rw [h.len]; exact hlen ds _ q) (fun cdv A outer s H vs Q E hr ⟨T, L, ns, F, ds, pre, h, q⟩ => ?_)
  obtain ⟨t, ht, hq⟩ := hbody cdv A outer s H E hr
  refine ⟨liftS t, ht.pss, ⟨T, L, ns, H, F⟩, startE N ds, F, ?_, ht.mono (retD _) _ _ ⟨fun ε q σ' H' F' R1 ex => ?_, fun r q v σ' ε' H' F' R1 ex rv fr => ?_, fun _ (h : False) => h.elim, fun _ (h : False) => h.elim⟩ (hq ds _ q)⟩
  · refine rel_start pre h ?_
    have h1 := hlen ds _ q
    have h2 := congrArg List.length S.pre
    rw [List.length_take] at h2
    omega
  · exact q .non H' F' R1.pre R1.keep ex R1.new .non trivial
  · exact q v H' F' R1.pre R1.keep ex R1.new rv fr
end

/-! ### calls -/
def R.isFree : R → Bool
  | .fr _ => true
  | .ow _ => true
  | .od _ => true
  | _ => false
def R.flat : R → Bool
  | .fr d => d.flat
  | _ => false
def callOk (rs : List R) (r : R) : Prop := rs.all R.isFr = true ∨ r.flat = true
def dCall (sp : DSp) (ta : TAd) : TEd := fun ε Q => ta ε fun rs ε1 => sp (rs.map R.d) fun r => callOk rs r ∧ Q r ε1
def tLineA (t : TA) : TA := fun σ H Q => t σ H fun vs H' => Line H' → Q vs H'
theorem pa_line {X : Cx} {es : List Expr} {t : TA} (h : PA X es t) : PA X es (tLineA t) := ⟨fun pos pins s σ H Q I q => thn (h.run pos pins s σ H _ I q) fun us s1 ⟨vs, H1, I1, r, q1⟩ => ⟨vs, H1, I1, r, q1 (line_of I1)⟩⟩
/-- lent lists join the frozen part for a call -/
theorem lend {G : Gh} {ε : Ev} {σ : L2.St} {H F : Hp} (R0 : Rel G ε σ H F) (hl : Line H) : ∀ {vs : List V} {rs : List R}, RVs G H F vs rs → (∀ r ∈ rs, ¬ r.own) → ∃ F', Ext F F' ∧ FnPre G.T G.L G.ns H F' ∧ DtAll G.T F' vs (rs.map R.d) ∧ (rs.all R.isFr = true → F' = F)
  | _, _, .nil, _ => ⟨F, .refl _, R0.pre, .nil, fun _ => rfl⟩
  | _, _, .cons (v := v) (vs := vs) (r := r) (rs := rs) h t, n => by
    obtain ⟨F', ex, pre, da, eq⟩ := lend R0 hl t fun r hr => n r (List.mem_cons_of_mem _ hr)
    have add : ∀ (a : Addr) (o : HO) (d : D), H a = some o → (∀ us, o = .lst us ∨ o = .tup us → us.length ≤ sizeLine) → a ≠ G.T → v = .ref a → (∀ F2, F2 a = some o → Ext F F2 → Dt G.T F2 (.ref a) d) → r.isFr = false → r.d = d →
        ∃ F'', Ext F F'' ∧ FnPre G.T G.L G.ns H F'' ∧ DtAll G.T F'' (v :: vs) (r.d :: rs.map R.d) ∧ (r.isFr = true → F'' = F) := by
      intro a o d hH hz nT ev hd nf ed
      have ex2 : Ext F' (upd F' a o) := fun b u e => by
        by_cases hb : b = a
        · subst hb
          have := pre.sub _ _ e
          rw [hH] at this
          cases this
          exact upd_same
        · rw [upd_ne hb]; exact e
      refine ⟨upd F' a o, ex.trans ex2, ⟨fun b u e => ?_, pre.tape, ?_, ex2 _ _ pre.script, pre.small, fun b us e => ?_⟩, ?_, fun z => by rw [nf] at z; cases z⟩
      · by_cases hb : b = a
        · subst hb; rw [upd_same] at e; cases e; exact hH
        · rw [upd_ne hb] at e; exact pre.sub _ _ e
      · rw [upd_ne nT.symm]; exact pre.nT
      · by_cases hb : b = a
        · subst hb; rw [upd_same] at e
          exact hz us (e.elim (fun e => .inl (Option.some.inj e)) (fun e => .inr (Option.some.inj e)))
        · rw [upd_ne hb] at e; exact pre.sz b us e
      · rw [ed, ev]
        exact .cons (hd _ upd_same (ex.trans ex2)) (DtAll.mono ex2 _ _ da)
    cases r with
    | fr d => exact ⟨F', ex, pre, .cons (Dt.mono ex _ _ h) da, fun z => eq (by simpa [R.isFr] using z)⟩
    | ow ds => exact absurd trivial (n _ List.mem_cons_self)
    | od ds => exact absurd trivial (n _ List.mem_cons_self)
    | bo ds =>
      obtain ⟨a, us, e, h1, h2, h3⟩ := h
      obtain ⟨F'', a1, a2, a3, _⟩ := add a (.lst us) (.lst ds) h1 (fun ws e => by rcases e with e | e <;> cases e; exact hl _ _ (.inl h1)) h3 e (fun F2 e2 x => .lst e2 (DtAll.mono x _ _ h2)) rfl rfl
      exact ⟨F'', a1, a2, a3, fun z => by simp [R.isFr] at z⟩
    | bd ds =>
      obtain ⟨a, us, e, h1, h2, h3⟩ := h
      obtain ⟨F'', a1, a2, a3, _⟩ := add a (.dK us) (.dct ds) h1 (fun ws e => by rcases e with e | e <;> cases e) h3 e (fun F2 e2 x => .dct e2 (DtKV.mono x _ _ h2)) rfl rfl
      exact ⟨F'', a1, a2, a3, fun z => by simp [R.isFr] at z⟩
    | pin a ds =>
      obtain ⟨us, e, h1, h2, h3⟩ := h
      have h1 := R0.keep _ _ h1 h3
      obtain ⟨F'', a1, a2, a3, _⟩ := add a (.lst us) (.lst ds) h1 (fun ws e => by rcases e with e | e <;> cases e; exact hl _ _ (.inl h1)) h3 e (fun F2 e2 x => .lst e2 (DtAll.mono x _ _ h2)) rfl rfl
      exact ⟨F'', a1, a2, a3, fun z => by simp [R.isFr] at z⟩
theorem Dt.flat_any {T : Addr} {F F' : Hp} {v : V} {d : D} (h : Dt T F v d) (f : d.flat = true) : Dt T F' v d := by
  cases d <;> first | (cases f; done) | (cases h; first | exact .non | exact .bl _ | exact .int _ | exact .str _)
/-- behind a call -/
theorem Rel.called {G : Gh} {ε : Ev} {σ : L2.St} {H F : Hp} (R0 : Rel G ε σ H F) {H' F' : Hp} (pre : FnPre G.T G.L G.ns H' F') (kp : Kept G.T H H') (ex : Ext F F') (new : ∀ a, F' a ≠ none → F a ≠ none ∨ H a = none) : Rel G ε σ H' F' := by
  refine ⟨pre.sub, fun a o e n => kp _ _ (R0.keep a o e n) n, R0.low.trans ex, fun a h => ?_, pre.tape, pre.nT, R0.tp, pre.script, R0.small, pre.sz, fun i r e => ?_, R0.sep, R0.len, R0.kind⟩
  · rcases new a h with h | h
    · exact R0.new a h
    · by_cases hT : a = G.T
      · obtain ⟨i, c, e⟩ := R0.tape
        rw [hT, e] at h; cases h
      · right
        cases q : G.H0 a with
        | none => rfl
        | some o => have := R0.keep a o q hT; rw [h] at this; cases this
  · obtain ⟨v, e1, h1⟩ := R0.slots i r e
    have nn : ∀ a o, H a = some o → F a = none → F' a = none := fun a o e1 e2 => by
      cases q : F' a with
      | none => rfl
      | some u =>
        rcases new a (by rw [q]; simp) with z | z
        · exact absurd e2 z
        · rw [e1] at z; cases z
    refine ⟨v, e1, ?_⟩
    cases r with
    | fr d => exact Dt.mono ex _ _ h1
    | ow ds => obtain ⟨b, vs, rfl, h1, h2, h3, h4⟩ := h1; exact ⟨b, vs, rfl, kp _ _ h1 (R0.neT h4), DtAll.mono ex _ _ h2, nn _ _ h1 h3, h4⟩
    | od ds => obtain ⟨b, vs, rfl, h1, h2, h3, h4⟩ := h1; exact ⟨b, vs, rfl, kp _ _ h1 (R0.neT h4), DtKV.mono ex _ _ h2, nn _ _ h1 h3, h4⟩
    | bo ds => exact (R0.kind i _ e).elim
    | bd ds => exact (R0.kind i _ e).elim
    | pin b ds => obtain ⟨vs, rfl, h1, h2, h3⟩ := h1; exact ⟨vs, rfl, h1, DtAll.mono ex _ _ h2, h3⟩
/-- .. where nothing of it is kept but what is flat -/
theorem Rel.called_flat {G : Gh} {ε : Ev} {σ : L2.St} {H F : Hp} (R0 : Rel G ε σ H F) {H' : Hp} (tape : ∃ i c, H' G.T = some (.lst [.ref G.L, .int i, .int c])) (kp : Kept G.T H H') : Rel G ε σ H' F :=
  R0.called ⟨fun a o e => kp _ _ (R0.sub a o e) (R0.neT' e), tape, R0.nT, R0.script, R0.small, R0.sz⟩ kp (.refl _) fun a h => .inl h
section
variable {X : Cx} {k : Nat} {f : Addr} {fd : FuncData} {ps : List Str} {sp : DSp} {x : Str} {p pos : Pos} {e : Expr} {es : List Expr} {ta : TAd}
theorem dCall_mono (m : MonoD sp) (ha : MonoA ta) : MonoE (dCall sp ta) := fun ε Q Q' i h => ha _ _ _ (fun rs ε1 q => m _ _ _ (fun r ⟨c, q⟩ => ⟨c, i _ _ q⟩) q) h
/-- from the arguments to the promise -/
theorem call_imp (m : MonoD sp) {G : Gh} {ε1 : Ev} {σ : L2.St} {H F H1 F1 : Hp} {Q : VK} {E : XK} {vs : List V} {rs : List R} (R1 : Rel G ε1 σ H1 F1) (ex : Ext F F1) (kp : Kept G.T H H1) (rv : RVs G H1 F1 vs rs) (no : ∀ r ∈ rs, ¬ r.own) (hl : Line H1)
    (h : sp (rs.map R.d) fun r => callOk rs r ∧ Cont G σ H F Q r ε1) : liftSp sp vs H1 Q E := by
  obtain ⟨F2, ex2, pre2, da, eq⟩ := lend R1 hl rv no
  refine ⟨G.T, G.L, G.ns, F2, rs.map R.d, pre2, da, m _ _ _ (fun r ⟨c, q⟩ v H' F' pre' kp' ex' new rv' fr => ?_) h⟩
  rcases c with c | c
  · have e := eq c
    subst e
    have R2 := R1.called pre' kp' ex' new
    refine q v H' F' R2 (ex.trans ex') (kp.trans kp') ?_ fun o i r' e o' z => ?_
    · cases r with
      | fr d => exact rv'
      | ow ds =>
        obtain ⟨b, us, e, h1, h2, h3, h4⟩ := rv'
        refine ⟨b, us, e, h1, h2, h3, ?_⟩
        have h4 : H1 b = none := h4
        by_cases hT : b = G.T
        · obtain ⟨i, c, e⟩ := R1.tape
          rw [hT, e] at h4; cases h4
        · cases q : G.H0 b with
          | none => rfl
          | some o => have := R1.keep b o q hT; rw [h4] at this; cases this
      | od ds =>
        obtain ⟨b, us, e, h1, h2, h3, h4⟩ := rv'
        refine ⟨b, us, e, h1, h2, h3, ?_⟩
        have h4 : H1 b = none := h4
        by_cases hT : b = G.T
        · obtain ⟨i, c, e⟩ := R1.tape
          rw [hT, e] at h4; cases h4
        · cases q : G.H0 b with
          | none => rfl
          | some o => have := R1.keep b o q hT; rw [h4] at this; cases this
      | _ => exact fr.elim
    · obtain ⟨u, e1, h1⟩ := R1.slots i r' e
      rw [e1] at z
      cases z
      have hv : ∃ a, v = .ref a ∧ H1 a = none := by
        cases r with
        | ow ds => obtain ⟨b, us, e, _, _, _, h4⟩ := rv'; exact ⟨b, e, h4⟩
        | od ds => obtain ⟨b, us, e, _, _, _, h4⟩ := rv'; exact ⟨b, e, h4⟩
        | _ => exact o.elim
      obtain ⟨a, rfl, ha⟩ := hv
      cases r' with
      | ow ds => obtain ⟨b, us, e, h1, _⟩ := h1; cases e; rw [ha] at h1; cases h1
      | od ds => obtain ⟨b, us, e, h1, _⟩ := h1; cases e; rw [ha] at h1; cases h1
      | _ => exact o'.elim
  · cases r with
    | fr d =>
      have c : d.flat = true := c
      exact q v H' F1 (R1.called_flat pre'.tape kp') ex (kp.trans kp') (Dt.flat_any rv' c) fun o => o.elim
    | _ => cases c
theorem qe_call (F : FnOk X.prog X.w X.K X.mg X.base CX0 k f fd ps (liftSp sp)) (m : MonoD sp) (hr : Room k X.A) (hg : Gl X x) (hm : X.mg x = some (.ref f)) (hk : PySem.W.keepIn X.K (.ref f) = true) (hb : Binds X.K fd ps []) (ha : QA X (e :: es) ta)
    (hdb : (x == ("__debug__" : Str)) = false := by decide) (he : starEach (e :: es) X.env = (false, eval e X.env) :: starEach es X.env := by rfl) (hpl : (backTo pos (starEach es X.env)).any (·.1) = false := by rfl) :
    QE X (.Call (.Name x p) (e :: es) [] pos) (dCall sp ta) := by
  refine ⟨⟨fun pins s σ H Q I ⟨G, ε, F0, R0, h⟩ => ?_⟩, dCall_mono m ha.mono⟩
  refine (pe_call F hr hg hm hk hb .nil pass0 (pa_line ha.pa) hdb he hpl).run pins s σ H Q I ⟨G, ε, F0, R0, ha.mono _ _ _ (fun rs ε1 q vs H1 F1 R1 ex kp rv no hl => ?_) h⟩
  show liftSp sp (vs ++ []) H1 Q E0
  rw [List.append_nil]
  exact call_imp m R1 ex kp rv no hl q
end
/-- a promise by an argument of one's own -/
def SP {α : Type} (arg : α → List D) (pre : α → Prop) (post : α → R → Prop) : DSp := fun ds Q => ∃ x, ds = arg x ∧ pre x ∧ ∀ r, post x r → Q r
theorem SP_mono {α : Type} {arg : α → List D} {pre : α → Prop} {post : α → R → Prop} : MonoD (SP arg pre post) := fun ds Q Q' m ⟨x, e, p, q⟩ => ⟨x, e, p, fun r h => m r (q r h)⟩
end DL

set_option Elab.async false
set_option linter.all false
set_option maxRecDepth 100000
set_option maxHeartbeats 4000000
/-! DLi: the law's draw. -/
namespace DL
open PySem PySem.Spec PyProof.Rows L2

def spDraw : DSp := fun ds Q => ∃ many : Int, ds = [.tape, .int many] ∧ 0 < many ∧ many.natAbs < 2 ^ 1000 ∧ ∀ r, 0 ≤ r → r < many → Q (.fr (.int r))
theorem spDraw_mono : MonoD spDraw := fun ds Q Q' m ⟨many, e, h1, h2, q⟩ => ⟨many, e, h1, h2, fun r a b => m _ (q r a b)⟩
section
variable {K : PySem.W.Frag} {σ : L2.St} {H : Hp} {T L : Addr} {Q : VK} {xs : List V} {v : V}
theorem tIx {k : Int} (hT : H T = some (.lst xs)) (e : atI xs k = some v) (q : Q v H) (h0 : σ[0]? = some (some (.ref T)) := by rfl) : tOp (rIxL K) (tVar 0) (tC (.int k)) σ H Q := ⟨_, h0, T, xs, k, v, rfl, rfl, SqL.of hT, e, q⟩
theorem draw_mod {c many : Int} (h : 0 < many) : 0 ≤ c % many ∧ c % many < many := ⟨Int.emod_nonneg _ (by omega), Int.emod_lt_of_pos _ h⟩
theorem draw_sq {c : Int} (p : Int) (hp : p = 2305843009213693951) : (-(2 ^ 64) < c % p ∧ c % p < 2 ^ 64) := by
  subst hp
  have h1 := Int.emod_nonneg c (show (2305843009213693951 : Int) ≠ 0 by decide)
  have h2 := Int.emod_lt_of_pos c (show (0 : Int) < 2305843009213693951 by decide)
  omega
end
section
variable (K : PySem.W.Frag)
abbrev tT (k : Int) : TE := tOp (rIxL K) (tVar 0) (tC (.int k))
abbrev tLenT : TE := tCB (fun xs H Q => ∃ p ys, xs = [.ref p] ∧ (SqL K H p ys ∨ SqT K H p ys) ∧ Q (.int ys.length) H) (tCons (tT K 0) tNil)
abbrev rMod : R2 := rI (fun _ j => 0 < j) fun i j => .int (i % j)
abbrev rPl : R2 := rI0 fun i j => .int (i + j)
abbrev rTm : R2 := rI CMul fun i j => .int (i * j)
abbrev rLt0 : R2 := rI0 fun i j => .bl (decide (i < j))
def dwEnd : TS := tSeq (tAsg (tOp rMod (tT K 2) (tVar 1)) (gName 4)) (tSeq (tAsg (tOp (rI CDivW fun i j => .int (i / j)) (tT K 2) (tVar 1)) (gSub (tVar 0) (tC (.int 2)) rSetL)) (tRet (tVar 4)))
def dwStore : TS := tSeq (tAsg (tOp rPl (tT K 1) (tC (.int 1))) (gSub (tVar 0) (tC (.int 1)) rSetL)) (tAsg (tVar 3) (gSub (tVar 0) (tC (.int 2)) rSetL))
def dwMix : TS := tSeq (tAsg (tOp rMod (tOp rPl (tVar 3) (tOp rTm (tC (.int 1000003)) (tT K 1))) (tVar 2)) (gName 3))
  (tSeq (tAsg (tOp rMod (tOp rPl (tOp rPl (tOp rTm (tVar 3) (tVar 3)) (tOp rTm (tC (.int 1181783497276652981)) (tVar 3))) (tC (.int 2049848353892358983))) (tVar 2)) (gName 3))
  (tAsg (tOp rMod (tOp rPl (tOp rTm (tVar 3) (tVar 3)) (tC (.int 1442695040888963407))) (tVar 2)) (gName 3)))
def dwTest : TT := tOr (tTest (tOp (rI0 fun i j => .bl (decide (j ≤ i))) (tT K 1) (tLenT K))) (tTest (tOp rLt0 (tVar 3) (tOp (rI CPow fun i j => .int (i ^ j.toNat)) (tC (.int 10)) (tC (.int 18)))))
def dwTail : TS := tSeq (tIfS (dwTest K) (dwMix K) tNext) (dwStore K)
def dwIn : TS := tSeq (tAsg (tC (.int 0)) (gName 3)) (tSeq (tIfS (tTest (tOp (rI0 fun i j => .bl (decide (j < i))) (tLenT K) (tC (.int 0)))) (tAsg (tOp (rIxL K) (tT K 0) (tOp rMod (tT K 1) (tLenT K))) (gName 3)) tNext) (dwTail K))
def dwAll : TS := tSeq (tAsg (tC (.int 2305843009213693951)) (gName 2)) (tSeq (tIfS (tTest (tOp rLt0 (tT K 2) (tVar 1))) (dwIn K) tNext) (dwEnd K))
end
theorem ok_draw {P : Program} {w : World} {K : PySem.W.Frag} {mg : Str → Option Value} {base : Heap} {st : Stmt} {f : Addr} {fd : FuncData} {k : Nat} (F : Fun K "_law_draw" "_law_draw" st f fd)
    (S : FnScope ["tape", "many", "prime", "cell", "found"] ["tape", "many"] (defScope st))
    (body : ∀ (cdv : Value) (A : Around) (outer : List Env) (s : Shared) (H : Hp) (E : XK), Room k (A.deeper (envOfC "_law_draw" (defScope st) s.heap.objs.size f cdv)) →
      PSs (cxOf CX0 P w K mg base ["tape", "many", "prime", "cell", "found"] "_law_draw" (defScope st) f cdv A outer s H E).nox (defBody st) (dwAll K)) : FnOk P w K mg base CX0 (k + 1) f fd ["tape", "many"] (liftSp spDraw) := by
  refine F.ok S (fun vs H Q E ⟨T, L, ns, F, ds, pre, h, q⟩ => ?_) (fun cdv A outer s H vs Q E hr ⟨T, L, ns, F, ds, pre, h, q⟩ => ?_)
  · obtain ⟨many, rfl, _⟩ := q
    rw [h.len]
    rfl
  · refine ⟨_, body cdv A outer s H E hr, ?_⟩
    obtain ⟨many, rfl, hm, hb, q⟩ := q
    cases h with | cons a1 h =>
    cases h with | cons a2 h =>
    cases h
    cases a1
    cases a2
    obtain ⟨i, c, hT⟩ := pre.tape
    -- the end, from any tape
    have fin : ∀ (i' c' : Int) (σ2 σ3 : Option V), dwEnd K { nx := fun _ H' => Q .non H', rt := Q } [some (.ref T), some (.int many), σ2, σ3, none] (upd H T (.lst [.ref L, .int i', .int c'])) := by
      intro i' c' σ2 σ3
      refine tIx upd_same rfl ⟨_, rfl, c', many, rfl, rfl, hm, ?_⟩
      refine tIx upd_same rfl ⟨_, rfl, c', many, rfl, rfl, wide_div hm hb (by decide) (by decide), _, rfl, T, _, 2, 2, rfl, rfl, upd_same, rfl, .int (c' % many), rfl, ?_⟩
      have m := draw_mod (c := c') hm
      refine q (c' % many) m.1 m.2 _ _ F ⟨fun b o e => ?_, ⟨i', c' / many, upd_same⟩, pre.nT, pre.script, pre.small, pre.sz⟩ (fun b o e n => ?_) (.refl _) (fun a h => .inl h) (.int _) trivial
      · have hb : b ≠ T := fun z => by rw [z, pre.nT] at e; cases e
        rw [upd_ne hb, upd_ne hb]; exact pre.sub _ _ e
      · rw [upd_ne n, upd_ne n]; exact e
    have hu : upd H T (.lst [.ref L, .int i, .int c]) = H := by
      funext b
      unfold upd
      split
      · rename_i e; rw [e, hT]
      · rfl
    have hLH : H L = some (.lst (ns.map V.int)) := pre.sub _ _ pre.script
    have lenT : ∀ {σ : L2.St} {Q : VK}, σ[0]? = some (some (.ref T)) → Q (.int (ns.map V.int).length) H → tLenT K σ H Q := fun {σ Q} h0 q => tIx hT rfl ⟨L, ns.map V.int, rfl, .inl (SqL.of hLH), q⟩ h0
    refine tIx hT rfl ⟨_, rfl, c, many, rfl, rfl, _, rfl, ?_⟩
    by_cases hc : c < many
    · rw [decide_eq_true hc]
      have store : ∀ (cell : Int), dwStore K { nx := dwEnd K { nx := fun _ H' => Q .non H', rt := Q }, rt := Q } [some (.ref T), some (.int many), some (.int 2305843009213693951), some (.int cell), none] H := by
        intro cell
        refine tIx hT rfl ⟨i, 1, rfl, rfl, _, rfl, T, _, 1, 1, rfl, rfl, hT, rfl, ?_⟩
        refine ⟨_, rfl, _, rfl, T, _, 2, 2, rfl, rfl, upd_same, rfl, ?_⟩
        rw [upd_upd]
        exact fin (i + 1) cell _ _
      have tail : ∀ (cell : Int), dwTail K { nx := dwEnd K { nx := fun _ H' => Q .non H', rt := Q }, rt := Q } [some (.ref T), some (.int many), some (.int 2305843009213693951), some (.int cell), none] H := by
        intro cell
        have body3 : dwMix K { nx := dwStore K { nx := dwEnd K { nx := fun _ H' => Q .non H', rt := Q }, rt := Q }, rt := Q } [some (.ref T), some (.int many), some (.int 2305843009213693951), some (.int cell), none] H := by
          refine ⟨_, rfl, tIx hT rfl ⟨1000003, i, rfl, rfl, .inl (by decide), cell, _, rfl, rfl, _, rfl, _, _, rfl, rfl, (show (0 : Int) < 2305843009213693951 by decide), ?_⟩⟩
          generalize (cell + 1000003 * i) = c1
          have s1 := draw_sq (c := c1) 2305843009213693951 rfl
          refine ⟨_, rfl, _, rfl, _, _, rfl, rfl, .inl s1, _, rfl, 1181783497276652981, _, rfl, rfl, .inl (by decide), _, _, rfl, rfl, _, 2049848353892358983, rfl, rfl, _, rfl, _, _, rfl, rfl, (show (0 : Int) < 2305843009213693951 by decide), ?_⟩
          generalize ((c1 % 2305843009213693951) * (c1 % 2305843009213693951) + 1181783497276652981 * (c1 % 2305843009213693951) + 2049848353892358983) = c2
          have s2 := draw_sq (c := c2) 2305843009213693951 rfl
          refine ⟨_, rfl, _, rfl, _, _, rfl, rfl, .inl s2, _, 1442695040888963407, rfl, rfl, _, rfl, _, _, rfl, rfl, (show (0 : Int) < 2305843009213693951 by decide), ?_⟩
          exact store _
        refine tIx hT rfl (lenT rfl ⟨i, _, rfl, rfl, _, rfl, ?_⟩)
        by_cases h1 : ((ns.map V.int).length : Int) ≤ i
        · rw [decide_eq_true h1]
          exact body3
        · rw [decide_eq_false h1]
          refine ⟨_, rfl, 10, 18, rfl, rfl, ⟨by decide, by decide, by decide⟩, cell, _, rfl, rfl, _, rfl, ?_⟩
          by_cases h2 : cell < (10 : Int) ^ (18 : Int).toNat
          · rw [decide_eq_true h2]
            exact body3
          · rw [decide_eq_false h2]
            exact store cell
      refine tIx hT rfl ⟨L, ns.map V.int, rfl, .inl (SqL.of hLH), _, 0, rfl, rfl, _, rfl, ?_⟩
      by_cases hn : (0 : Int) < ((ns.map V.int).length : Int)
      · rw [decide_eq_true hn]
        refine tIx hT rfl (tIx hT rfl (lenT rfl ⟨i, _, rfl, rfl, hn, ?_⟩))
        have m := draw_mod (c := i) hn
        have hlt : (i % ((ns.map V.int).length : Int)).toNat < ns.length := by rw [List.length_map] at m ⊢; omega
        refine ⟨L, ns.map V.int, _, .int ns[(i % ((ns.map V.int).length : Int)).toNat], rfl, rfl, SqL.of hLH, ?_, tail _⟩
        have e := atI_nat (xs := ns.map V.int) (j := (i % ((ns.map V.int).length : Int)).toNat) (v := .int ns[(i % ((ns.map V.int).length : Int)).toNat]) (by rw [List.getElem?_map, List.getElem?_eq_getElem hlt]; rfl)
        rw [Int.toNat_of_nonneg m.1] at e
        exact e
      · rw [decide_eq_false hn]
        exact tail 0
    · rw [decide_eq_false hc]
      have := fin i c (some (.int 2305843009213693951)) none
      rw [hu] at this
      exact this
end DL

set_option Elab.async false
set_option linter.all false
set_option maxRecDepth 100000
set_option maxHeartbeats 4000000
/-! DLj: enumerate, zip, isinstance, methods, further statements. -/
namespace DL
open PySem PySem.Spec PyProof.Rows L2

/-! ### enumerate -/
section
variable {prog : Program} {w : World} {A : Around} {E : Value → Shared → Prop} {s : Shared}
theorem draws_tuple (hh : A.handled = none) (it l : Addr) (hne : l ≠ it) (items : Array Value) :
    Draws prog w A it [it, l] items.size (fun i v => items[i]? = some v) (fun i h => h.IsTupleIter it l i ∧ h.IsTuple l items) where
  live := fun _ _ st => let ⟨o, ho, _⟩ := st.1; ⟨o, ho⟩
  frame := fun _ _ _ st hk => ⟨st.1.at fun o e => hk it (by simp) o e, by
    obtain ⟨o, ho, r⟩ := st.2
    exact ⟨o, hk l (by simp) o ho, r⟩⟩
  item := fun i s Q E hi st hQ => by
    refine RZ.nextOf_tuple_item st.1 st.2 (x := items[i]) (by simp [hi]) fun h' hit' hs' => ?_
    refine hQ _ h' s.toks (by simp [hi]) ⟨hit', ?_⟩ hs'
    obtain ⟨o, ho, r⟩ := st.2
    exact ⟨o, hs'.extBut l o hne ho, r⟩
  done := fun s Q E st hE => RZ.nextOf_tuple_end hh st.1 st.2 (by simp) hE
theorem meets_enumerate_newT (l : Addr) (items : Array Value) (n : Nat) (dct : Option Addr) (sl : Array (Option Value)) :
    Meets (Builtin.«enumerate.__new__» ⟨[.type "enumerate", .ref l], []⟩) (fun _ R s => s.heap.get? l = some { cls := .type "tuple", dict := dct, data := .seq items n, slots := sl } ∧
      R (.ok (.ret (.ref (s.heap.push { cls := .type "tuple_iterator", data := .fields #[.ref l, .int 0 0] }).objs.size)))
        { s with heap := (s.heap.push { cls := .type "tuple_iterator", data := .fields #[.ref l, .int 0 0] }).push { cls := .type "enumerate", data := .fields #[.none, .bool false, .ref s.heap.objs.size, rawInt 0, .none, .none] } }) :=
  .of_wp fun prog w A R s h => by
    obtain ⟨hp, g, d, tk, os⟩ := s; obtain ⟨hl, h⟩ := h
    have hsub := sub_enumerate
    have hL : Heap.IsTuple (Shared.heap ⟨hp, g, d, tk, os⟩) l items := ⟨_, hl, rfl, n, rfl⟩
    wp_walk using AutoSeq1.wpAny_loadPart' hl
    refine wpAny_stack_any fun st => wpAny_pure ?_
    split
    · rename_i c _ _ _ _ _
      cases (c == Value.type "enumerate")
      · wp_walk using AutoSeq1.wpAny_loadPart' hl, wpAny_pyIter_tuple hL
        exact ⟨_, rfl, h⟩
      · wp_walk using AutoSeq1.wpAny_loadPart' hl, wpAny_pyIter_tuple hL
        exact ⟨_, rfl, h⟩
    · wp_walk using AutoSeq1.wpAny_loadPart' hl, wpAny_pyIter_tuple hL
      exact ⟨_, rfl, h⟩
theorem call_enumerate_tuple {l : Addr} {items : Array Value} {Q : Value → Shared → Prop} (hL : s.heap.IsTuple l items)
    (h : ∀ h', IsEnum h' (s.heap.objs.size + 1) s.heap.objs.size 0 .none → h'.IsTupleIter s.heap.objs.size l 0 → h'.objs.size = s.heap.objs.size + 2 →
      (∀ b o, s.heap.get? b = some o → h'.get? b = some o) → Q (.ref (s.heap.objs.size + 1)) { s with heap := h' }) :
    wpAny (model prog w) A (call (.type "enumerate") [.ref l]) Q E s := by
  obtain ⟨⟨c, dct, dt, sl⟩, hl, hc, n, hd⟩ := hL
  replace hc : c = .type "tuple" := hc
  replace hd : dt = .seq items n := hd
  subst hc hd
  refine callType_new F.called_enumerate (by decide) (F.typeCall_enumerate_1 _) (F.newCall_enumerate_1 _) (fun obj => F.args_object_init_2 obj _) F.entry_enumerate_new
    (meets_enumerate_newT l items n dct sl) ⟨hl, ?_⟩
  have hz : (s.heap.push { cls := .type "tuple_iterator", data := .fields #[.ref l, .int 0 0] }).objs.size = s.heap.objs.size + 1 := Heap.size_push ..
  show _ ∧ _
  rw [hz]
  have he : IsEnum ((s.heap.push { cls := .type "tuple_iterator", data := .fields #[.ref l, .int 0 0] }).push
      { cls := .type "enumerate", data := .fields #[.none, .bool false, .ref s.heap.objs.size, rawInt 0, .none, .none] }) (s.heap.objs.size + 1) s.heap.objs.size 0 .none := by
    have := Heap.get?_push_size (s.heap.push { cls := .type "tuple_iterator", data := .fields #[.ref l, .int 0 0] })
      (o := { cls := .type "enumerate", data := .fields #[.none, .bool false, .ref s.heap.objs.size, rawInt 0, .none, .none] }) rfl
    rw [hz] at this; exact this
  refine ⟨⟨_, he, rfl⟩, h _ he ⟨_, Heap.get?_push_of_some _ (Heap.get?_push_size _ rfl), rfl, rfl⟩ (by rw [Heap.size_push, hz]) fun b o x => Heap.get?_push_of_some _ (Heap.get?_push_of_some _ x)⟩
end
def IteT (K : PySem.W.Frag) (a : Addr) : It :=
  ⟨fun i H => ∃ (xs : List V) (x : V), SqT K H a xs ∧ xs[i]? = some x, fun i H v H' => ∃ T x, v = .ref T ∧ H T = none ∧ H' = upd H T (.tup [.int (i : Nat), x]) ∧ ∀ xs, SqT K H a xs → xs[i]? = some x, fun i H => ∃ xs : List V, SqT K H a xs ∧ xs.length ≤ i⟩
theorem turn_enumT {P : Program} {w : World} {K : PySem.W.Frag} {elts : List Expr} {kk : Nat} {tpos : Pos} (a e it : Addr) :
    Turn P w K (.Tuple elts kk tpos) (IteT K a) [e, it] e (fun i h => (∃ old, IsEnum h e it ((i : Nat) : Int) old) ∧ h.IsTupleIter it a i ∧ e ≠ it) where
  mem := by simp
  obj := fun i h st b hb => by
    obtain ⟨⟨old, he⟩, ⟨o, ho, hc, hd⟩, _⟩ := st
    have e' : b = e ∨ b = it := by simpa using hb
    rcases e' with z | z
    · rw [z]; exact ⟨_, he, fun v q => nomatch q⟩
    · rw [z]; exact ⟨o, ho, fun v q => by rw [hd] at q; cases q⟩
  keep := fun i h h' st k => let ⟨⟨old, he⟩, hi, hne⟩ := st; ⟨⟨old, k e (by simp) _ he⟩, hi.at fun o q => k it (by simp) o q, hne⟩
  item := by
    intro X hP hw hK hc i pins s σ H E I hf st hg
    subst hP hw hK
    obtain ⟨⟨old, he⟩, hit, hne⟩ := st
    obtain ⟨xs, x, hq, hx⟩ := hg
    obtain ⟨its, rv, p, hz⟩ := I.tuple hq
    obtain ⟨u, hu, ru⟩ := rv.get hx
    have hel : e < s.heap.objs.size := Heap.lt_size he
    have hil : it < s.heap.objs.size := by obtain ⟨_, q, _⟩ := hit; exact Heap.lt_size q
    have p' : s.heap.IsTuple a its.toArray := p
    have hai : a ≠ it := fun z => by
      obtain ⟨o, ho, hc1, _⟩ := p'
      obtain ⟨o2, ho2, hc2, _⟩ := hit
      rw [z, ho2] at ho; cases ho; rw [hc2] at hc1; exact absurd (Value.type.inj hc1) (by decide)
    have hae : e ≠ a := fun z => by
      obtain ⟨o, ho, hc1, _⟩ := p'
      have he' : s.heap.get? e = some _ := he
      rw [z, ho] at he'; cases he'; exact absurd (Value.type.inj hc1) (by decide)
    have hi : i < its.toArray.size := by
      rw [List.size_toArray]
      by_cases h : i < its.length
      · exact h
      · rw [List.getElem?_eq_none (by omega)] at hu; cases hu
    refine wpAny_pyNext_enum_itemD (draws_tuple (show X.A.in1.handled = none from I.ok.hd hc) it a hai its.toArray) he ⟨hit, p'⟩ hi hne (by simp [hne, hae]) fun x' h' tk hx' ho hst' hT hsz hk => ?_
    have ex : x' = u := by
      have h1 : its.toArray[i]? = some x' := hx'
      have h2 : its.toArray[i]? = some u := by simpa using hu
      rw [h1] at h2; exact Option.some.inj h2
    subst ex
    refine ⟨_, rfl, wpAny_letOwnedTupleGo_enum (s := { s with heap := h', toks := tk + 1 }) ho fun h'' he' sb => ?_⟩
    have hT2 : h''.get? s.heap.objs.size = some { cls := .type "tuple", data := .seq #[.int i tk, x'] } := (sb.2 _ (Nat.ne_of_gt hel)).trans hT
    have new : ObjOk X.prog X.w (upd H s.heap.objs.size (.tup [.int (i : Nat), x])) h'' s.heap.objs.size (.tup [.int (i : Nat), x]) :=
      ⟨by show 2 ≤ sizeLine; decide, [.int i tk, x'], .cons ⟨_, rfl⟩ (.cons ru .nil), ⟨_, hT2, rfl, _, rfl⟩⟩
    have I1 : Inv X pins σ (upd H s.heap.objs.size (.tup [.int (i : Nat), x])) { s with heap := h'', toks := tk + 1 } :=
      I.turnedNew (ch := [e, it]) (fun b ob hb q => (sb.2 b (fun z => hb (by simp [z]))).trans (hk b ob (fun z => hb (by simp [z])) (fun z => hb (by simp [z])) q)) hf (Nat.le_refl _) new
    refine ⟨.ref s.heap.objs.size, _, I1, rfl, ⟨_, x, rfl, I.hok.fresh (Nat.le_refl _), rfl, fun ys hy => by rw [I.tuple_inj hy hq]; exact hx⟩, ⟨⟨x', ?_⟩, hst'.1.at fun o q => (sb.2 it (Ne.symm hne)).trans q, hne⟩, fun b hb => ?_⟩
    · have e1 : ((i + 1 : Nat) : Int) = (i : Int) + 1 := by omega
      rw [e1]; exact he'
    · have hb' : b < s.heap.objs.size := by
        have e' : b = e ∨ b = it := by simpa using hb
        rcases e' with z | z
        · rw [z]; exact hel
        · rw [z]; exact hil
      rw [upd_ne (Nat.ne_of_lt hb')]
      exact (hf b hb).1
  done := by
    intro X hP hw hK hc i pins s σ H E I hf st hg
    subst hP hw hK
    obtain ⟨⟨old, he⟩, hit, hne⟩ := st
    obtain ⟨xs, hq, hx⟩ := hg
    obtain ⟨its, rv, p, hz⟩ := I.tuple hq
    obtain ⟨f0, f1, f2, f3, f4, f5⟩ := hf it (by simp)
    have hl := rv.length
    have p' : s.heap.IsTuple a its.toArray := p
    have hT : s.TypeIs (.ref e) "enumerate" := ⟨_, he, rfl⟩
    unfold pyNext
    refine wpAny_bind (wpAny_attempt (wpAny_callSpecial?_slot (name := Str.ofString "__next__") hT F.slot_enumerate_next
      (wpAny_call_entry F.slot_enumerate_next hT F.entry_enumerate_next ?_ (F.args_enumerate_next_1 _))))
    show wpAny _ _ (field (.ref e) 2 >>= _) _ _ _
    refine wpAny_bind (wpAny_field he rfl (x := .ref it) rfl ?_)
    refine wpAny_bind (RZ.nextOf_tuple_end (I.ok.hd hc) hit p' (by simp; omega) fun h' x he' hx' => ?_)
    obtain ⟨o, ho, hc⟩ := hx'
    refine wpAny_bind (wpAny_isInstance (T := "StopIteration") (b := true) ⟨o, ho, hc⟩ isSubtype_stop ?_)
    exact wpAny_pure ⟨rfl, I.turned (t' := s.toks) (fun b o hb q => he' b o hb q) f0 f1 f3 f4 f5⟩
  self := fun A i s Q E st h => let ⟨⟨_, he⟩, _⟩ := st; wpAny_pyIter_enum he h
def enumD (k : Nat) : List D → List D
  | [] => []
  | d :: ds => .tup [.int (k : Nat), d] :: enumD (k + 1) ds
theorem enumD_len : ∀ (k : Nat) (ds : List D), (enumD k ds).length = ds.length
  | _, [] => rfl
  | k, _ :: ds => by simp [enumD, enumD_len (k + 1) ds]
theorem enumD_get : ∀ {k i : Nat} {ds : List D} {d : D}, ds[i]? = some d → (enumD k ds)[i]? = some (.tup [.int ((k + i : Nat) : Int), d])
  | _, _, [], _, h => by simp at h
  | k, 0, _ :: _, _, h => by simp at h; subst h; rfl
  | k, i + 1, _ :: ds, d, h => by
    have := enumD_get (k := k + 1) (i := i) (ds := ds) (d := d) (by simpa using h)
    rw [show k + 1 + i = k + (i + 1) by omega] at this
    simpa [enumD] using this
theorem walkD_enum {K : PySem.W.Frag} {T : Addr} {F : Hp} {a : Addr} {vs : List V} {ds : List D} (h1 : F a = some (.lst vs)) (h2 : DtAll T F vs ds) (hz : vs.length ≤ sizeLine) : WalkD T F (Ite K a) (enumD 0 ds) := ⟨by rw [enumD_len, ← h2.len]; exact hz, fun H2 F2 ex sub => by
  have hs : SqL K H2 a vs := sqL_up (sub _ _ (ex _ _ h1))
  have hl := h2.len
  refine ⟨fun i hi => ?_, ⟨vs, hs, by rw [enumD_len]; omega⟩, fun i x H3 hi y => ?_⟩
  · rw [enumD_len] at hi
    exact ⟨vs, vs[i], hs, by simp [show i < vs.length by omega]⟩
  · rw [enumD_len] at hi
    obtain ⟨p, u, rfl, hp, rfl, q⟩ := y
    have hd : ds[i]? = some ds[i] := List.getElem?_eq_getElem hi
    obtain ⟨v, e1, e2⟩ := h2.get hd
    rw [q vs hs] at e1
    cases e1
    exact .inr ⟨p, _, _, _, _, rfl, hp, rfl, by rw [enumD_get hd]; rw [Nat.zero_add], .int _, Dt.mono ex _ _ e2⟩⟩
theorem walkD_enumT {K : PySem.W.Frag} {T : Addr} {F : Hp} {a : Addr} {vs : List V} {ds : List D} (h1 : F a = some (.tup vs)) (h2 : DtAll T F vs ds) (hz : vs.length ≤ sizeLine) : WalkD T F (IteT K a) (enumD 0 ds) := ⟨by rw [enumD_len, ← h2.len]; exact hz, fun H2 F2 ex sub => by
  have hs : SqT K H2 a vs := sqT_up sub (ex _ _ h1)
  have hl := h2.len
  refine ⟨fun i hi => ?_, ⟨vs, hs, by rw [enumD_len]; omega⟩, fun i x H3 hi y => ?_⟩
  · rw [enumD_len] at hi
    exact ⟨vs, vs[i], hs, by simp [show i < vs.length by omega]⟩
  · rw [enumD_len] at hi
    obtain ⟨p, u, rfl, hp, rfl, q⟩ := y
    have hd : ds[i]? = some ds[i] := List.getElem?_eq_getElem hi
    obtain ⟨v, e1, e2⟩ := h2.get hd
    rw [q vs hs] at e1
    cases e1
    exact .inr ⟨p, _, _, _, _, rfl, hp, rfl, by rw [enumD_get hd]; rw [Nat.zero_add], .int _, Dt.mono ex _ _ e2⟩⟩
def dEnum (ta : TAd) : TId := fun ε Q => ta ε fun rs ε1 => match rs with
  | [.fr (.lst ds)] => Q (enumD 0 ds) ε1
  | [.fr (.tup ds)] => Q (enumD 0 ds) ε1
  | _ => False
theorem qi_enum {X : Cx} {e : Expr} {ta : TAd} {p pos tpos : Pos} {elts : List Expr} {kk : Nat} (hg : Gl X "enumerate") (hm : X.mg "enumerate" = none) (ha : QA X [e] ta) (hs : starEach [e] X.env = [(false, eval e X.env)] := by rfl) :
    QI X (.Tuple elts kk tpos) (.Call (.Name "enumerate" p) [e] [] pos) (dEnum ta) := by
  refine ⟨⟨fun pins s σ H R I ⟨G, ε, F, R0, h⟩ => ?_⟩, fun ε Q Q' m h => ha.mono _ _ _ (fun rs ε1 q => by split at q <;> simp_all) h⟩
  refine Call_ (ld_blt I hg hm boot_enumerate (PyProof.Rows.callWith_type1 (thn (ha.get pos I R0 h) ?_) hs rfl))
  rintro us s1 ⟨vs, H1, rs, ε1, F1, I1, r1, q1, R1, ex1, kp1, rv, no⟩
  have fin : ∀ (b : Addr), b = s1.heap.objs.size + 1 ∨ b = s1.heap.objs.size → s1.heap.objs.size ≤ b := fun b hb => by
    rcases hb with rfl | rfl
    · exact Nat.le_succ _
    · exact Nat.le_refl _
  split at q1
  · cases rv with | cons v1 v2 =>
    cases v2
    cases v1 with | lst e1 e2 =>
    rename_i a vs
    cases r1 with | cons r rr =>
    cases rr
    cases r
    obtain ⟨its, rv', p', hz⟩ := I1.list (sqL_up (K := X.K) (R1.sub _ _ e1))
    refine call_enumerate_list p'.isList fun h' he hit hsz hk => wpAny_pyIter_enum he ?_
    have I2 : Inv X pins σ H1 { s1 with heap := h' } := I1.kept (t' := s1.toks) hk
    refine ⟨s1.heap.objs.size + 1, [s1.heap.objs.size + 1, s1.heap.objs.size], _, _, H1, rfl, I2, turn_enum a (s1.heap.objs.size + 1) s1.heap.objs.size, ⟨⟨.none, he⟩, hit, Nat.succ_ne_self _⟩, fun b hb => ?_, q1 (Ite X.K a) H1 F1 R1 ex1 kp1 (walkD_enum e1 e2 (R1.sz _ _ (.inl e1)))⟩
    have e' : b = s1.heap.objs.size + 1 ∨ b = s1.heap.objs.size := by simpa using hb
    exact I1.fpOk (fin b e') (I1.hok.fresh (fin b e'))
  · cases rv with | cons v1 v2 =>
    cases v2
    cases v1 with | tup e1 e2 =>
    rename_i a vs
    cases r1 with | cons r rr =>
    cases rr
    cases r
    obtain ⟨its, rv', p', hz⟩ := I1.tuple (sqT_up (K := X.K) R1.sub e1)
    refine call_enumerate_tuple (show s1.heap.IsTuple a its.toArray from p') fun h' he hit hsz hk => wpAny_pyIter_enum he ?_
    have I2 : Inv X pins σ H1 { s1 with heap := h' } := I1.kept (t' := s1.toks) hk
    refine ⟨s1.heap.objs.size + 1, [s1.heap.objs.size + 1, s1.heap.objs.size], _, _, H1, rfl, I2, turn_enumT a (s1.heap.objs.size + 1) s1.heap.objs.size, ⟨⟨.none, he⟩, hit, Nat.succ_ne_self _⟩, fun b hb => ?_, q1 (IteT X.K a) H1 F1 R1 ex1 kp1 (walkD_enumT e1 e2 (R1.sz _ _ (.inr e1)))⟩
    have e' : b = s1.heap.objs.size + 1 ∨ b = s1.heap.objs.size := by simpa using hb
    exact I1.fpOk (fin b e') (I1.hok.fresh (fin b e'))
  · exact q1.elim

/-! ### zip -/
def zipD : List D → List D → List D
  | d :: ds, e :: es => .tup [d, e] :: zipD ds es
  | _, _ => []
theorem zipD_len : ∀ (ds es : List D), (zipD ds es).length = min ds.length es.length
  | [], _ => by simp [zipD]
  | _ :: _, [] => by simp [zipD]
  | d :: ds, e :: es => by
    show (zipD ds es).length + 1 = min (ds.length + 1) (es.length + 1)
    rw [zipD_len ds es]
    omega
theorem zipD_get : ∀ {i : Nat} {ds es : List D} {d e : D}, ds[i]? = some d → es[i]? = some e → (zipD ds es)[i]? = some (.tup [d, e])
  | _, [], _, _, _, h, _ => by simp at h
  | _, _ :: _, [], _, _, _, h => by simp at h
  | 0, _ :: _, _ :: _, _, _, h, h' => by simp at h h'; subst h; subst h'; rfl
  | i + 1, _ :: ds, _ :: es, d, e, h, h' => by
    have := zipD_get (i := i) (ds := ds) (es := es) (d := d) (e := e) (by simpa using h) (by simpa using h')
    simpa [zipD] using this
theorem walkD_zip {K : PySem.W.Frag} {T : Addr} {F : Hp} {a b : Addr} {vs us : List V} {ds es : List D} (h1 : F a = some (.lst vs)) (h2 : DtAll T F vs ds) (h3 : F b = some (.lst us)) (h4 : DtAll T F us es) (hz : vs.length ≤ sizeLine) : WalkD T F (Itz K a b) (zipD ds es) := ⟨by rw [zipD_len, ← h2.len]; omega, fun H2 F2 ex sub => by
  have hs : SqL K H2 a vs := sqL_up (sub _ _ (ex _ _ h1))
  have ht : SqL K H2 b us := sqL_up (sub _ _ (ex _ _ h3))
  have hl := h2.len
  have hl' := h4.len
  have w := walk_zip (K := K) (a := a) (b := b) (xs := vs) (ys := us) (n := (zipD ds es).length) (by rw [zipD_len]; omega)
  refine ⟨fun i hi => w.goes i H2 hi ⟨hs, ht⟩, w.stops H2 ⟨hs, ht⟩, fun i x H3 hi y => ?_⟩
  obtain ⟨p, u, v, rfl, hp, rfl, q1, q2⟩ := w.yields i H2 x H3 hi ⟨hs, ht⟩ y
  rw [zipD_len] at hi
  have hd : ds[i]? = some (ds[i]'(by omega)) := List.getElem?_eq_getElem (by omega)
  have he : es[i]? = some (es[i]'(by omega)) := List.getElem?_eq_getElem (by omega)
  obtain ⟨v1, e1, e2⟩ := h2.get hd
  obtain ⟨v2, e3, e4⟩ := h4.get he
  have q1' : vs[i]? = some u := q1
  have q2' : us[i]? = some v := q2
  rw [q1'] at e1
  rw [q2'] at e3
  cases e1
  cases e3
  exact .inr ⟨p, _, _, _, _, rfl, hp, rfl, zipD_get hd he, Dt.mono ex _ _ e2, Dt.mono ex _ _ e4⟩⟩
theorem walkD_zipT {K : PySem.W.Frag} {T : Addr} {F : Hp} {a b : Addr} {vs us : List V} {ds es : List D} (h1 : F a = some (.tup vs)) (h2 : DtAll T F vs ds) (h3 : F b = some (.tup us)) (h4 : DtAll T F us es) (hz : vs.length ≤ sizeLine) : WalkD T F (RZ.ItzT K a b) (zipD ds es) := ⟨by rw [zipD_len, ← h2.len]; omega, fun H2 F2 ex sub => by
  have hs : SqT K H2 a vs := sqT_up sub (ex _ _ h1)
  have ht : SqT K H2 b us := sqT_up sub (ex _ _ h3)
  have hl := h2.len
  have hl' := h4.len
  refine ⟨fun i hi => ?_, ⟨vs, us, hs, ht, by rw [zipD_len]; omega⟩, fun i x H3 hi y => ?_⟩
  · rw [zipD_len] at hi
    exact ⟨vs, us, vs[i]'(by omega), us[i]'(by omega), hs, ht, by simp [show i < vs.length by omega], by simp [show i < us.length by omega]⟩
  · rw [zipD_len] at hi
    obtain ⟨p, u, v, rfl, hp, rfl, q1, q2⟩ := y
    have hd : ds[i]? = some (ds[i]'(by omega)) := List.getElem?_eq_getElem (by omega)
    have he : es[i]? = some (es[i]'(by omega)) := List.getElem?_eq_getElem (by omega)
    obtain ⟨v1, e1, e2⟩ := h2.get hd
    obtain ⟨v2, e3, e4⟩ := h4.get he
    rw [q1 vs hs] at e1
    rw [q2 us ht] at e3
    cases e1
    cases e3
    exact .inr ⟨p, _, _, _, _, rfl, hp, rfl, zipD_get hd he, Dt.mono ex _ _ e2, Dt.mono ex _ _ e4⟩⟩
def dZip (ta : TAd) : TId := fun ε Q => ta ε fun rs ε1 => match rs with
  | [.fr (.lst ds), .fr (.lst es)] => Q (zipD ds es) ε1
  | [.fr (.tup ds), .fr (.tup es)] => Q (zipD ds es) ε1
  | _ => False
theorem qi_zip {X : Cx} {e e2 : Expr} {ta : TAd} {p pos tpos : Pos} {elts : List Expr} {kk : Nat} (hg : Gl X "zip") (hm : X.mg "zip" = none) (ha : QA X [e, e2] ta)
    (hs : starEach [e, e2] X.env = (false, eval e X.env) :: starEach [e2] X.env := by rfl) (hpl : (backTo pos (starEach [e2] X.env)).any (·.1) = false := by rfl) :
    QI X (.Tuple elts kk tpos) (.Call (.Name "zip" p) [e, e2] [] pos) (dZip ta) := by
  refine ⟨⟨fun pins s σ H R I ⟨G, ε, F, R0, h⟩ => ?_⟩, fun ε Q Q' m h => ha.mono _ _ _ (fun rs ε1 q => by split at q <;> simp_all) h⟩
  refine (RZ.pi_zipA (tpos := tpos) (elts := elts) (kk := kk) hg hm (PA.only (t := fun σ H Q => liftA ta σ H Q) ha.pa σ H) hs hpl).run pins s σ H R I ⟨rfl, rfl, G, ε, F, R0, ha.mono _ _ _ (fun rs ε1 q vs H1 F1 R1 ex kp rv no => ?_) h⟩
  split at q
  · cases rv with | cons v1 v2 =>
    cases v2 with | cons v2 v3 =>
    cases v3
    cases v1 with | lst e1 e2 =>
    cases v2 with | lst e3 e4 =>
    exact ⟨_, _, _, _, rfl, .inl ⟨sqL_up (R1.sub _ _ e1), sqL_up (R1.sub _ _ e3), q _ H1 F1 R1 ex kp (walkD_zip e1 e2 e3 e4 (R1.sz _ _ (.inl e1)))⟩⟩
  · cases rv with | cons v1 v2 =>
    cases v2 with | cons v2 v3 =>
    cases v3
    cases v1 with | tup e1 e2 =>
    cases v2 with | tup e3 e4 =>
    exact ⟨_, _, _, _, rfl, .inr ⟨sqT_up R1.sub e1, sqT_up R1.sub e3, q _ H1 F1 R1 ex kp (walkD_zipT e1 e2 e3 e4 (R1.sz _ _ (.inr e1)))⟩⟩
  · exact q.elim

/-! ### isinstance -/
def D.tyn : D → String
  | .non => "NoneType"
  | .bl _ => "bool"
  | .int _ => "int"
  | .str _ => "str"
  | .lst _ => "list"
  | .tup _ => "tuple"
  | .dct _ => "dict"
  | .tape => "list"
theorem DV.ty {K : PySem.W.Frag} {G : Gh} {ε : Ev} {σ : L2.St} {H F : Hp} {v : V} {d : D} (R0 : Rel G ε σ H F) (h : DV G.T H F v d) : TyX K H v (.type d.tyn) := by
  cases d with
  | lst ds => obtain ⟨a, vs, rfl, h1, _⟩ := h; exact .base (.lst h1)
  | dct ds => obtain ⟨a, vs, rfl, h1, _⟩ := h; exact .base (.dK h1)
  | tup ds => cases h with | tup e _ => exact .base (.tup (R0.sub _ _ e))
  | non => cases h; exact .base .non
  | bl _ => cases h; exact .base (.bl _)
  | int _ => cases h; exact .base (.int _)
  | str _ => cases h; exact .base (.str _)
  | tape => cases h; obtain ⟨i, c, e⟩ := R0.tape; exact .base (.lst e)
def tyOk (a b : String) : Bool := a == b || (a == "bool" && b == "int")
def dIsi (T : String) (te : TEd) : TEd := fun ε Q => te ε fun r ε1 => Q (.fr (.bl (tyOk r.d.tyn T))) ε1
def dIsi2 (T U : String) (te : TEd) : TEd := fun ε Q => te ε fun r ε1 => Q (.fr (.bl (tyOk r.d.tyn T || tyOk r.d.tyn U))) ε1
theorem kitB_ty (d : D) {T : String} (hT : T = "int" ∨ T = "bool" ∨ T = "str" ∨ T = "list" ∨ T = "tuple") : kitB d.tyn T = some (tyOk d.tyn T) := by
  rcases hT with rfl | rfl | rfl | rfl | rfl <;> cases d <;> simp only [D.tyn] <;> decide +kernel
theorem qe_isi {X : Cx} {e : Expr} {te : TEd} {p p2 pos : Pos} {x : Str} {T : String} (hT : T = "int" ∨ T = "bool" ∨ T = "str" ∨ T = "list" ∨ T = "tuple") (hg : Gl X "isinstance") (hm : X.mg "isinstance" = none) (hgT : Gl X x) (hmT : X.mg x = none) (hv : bootBuiltins x = some (.type T)) (he : QE X e te)
    (hn : x ≠ "__name__" := by decide) (hdb : (x == ("__debug__" : Str)) = false := by decide) (hs1 : starEach [e, .Name x p2] X.env = (false, eval e X.env) :: starEach [.Name x p2] X.env := by rfl) (hs2 : starEach [.Name x p2] X.env = (false, eval (.Name x p2) X.env) :: starEach [] X.env := by rfl)
    (hpl : (backTo pos (starEach [.Name x p2] X.env)).any (·.1) = false := by rfl) :
    QE X (.Call (.Name "isinstance" p) [e, .Name x p2] [] pos) (dIsi T te) := by
  refine ⟨⟨fun pins s σ H Q I ⟨G, ε, F, R0, h⟩ => ?_⟩, fun ε Q Q' m h => he.mono _ _ _ (fun r ε1 q => m _ _ q) h⟩
  have PE1 : PE X e (fun σ' H' Q' => σ' = σ ∧ H' = H ∧ te ε fun r ε1 => ∀ v H1 F1, Rel G ε1 σ H1 F1 → Ext F F1 → Kept G.T H H1 → RV G H1 F1 v r → Q' v H1) := ⟨fun pins' s' σ' H' Q' I' ⟨e1, e2, q⟩ => by
    rw [e1, e2] at I'
    rw [e1]
    exact he.pe.run pins' s' σ H Q' I' ⟨G, ε, F, R0, he.mono _ _ _ (fun r ε1 q v H1 F1 R1 ex kp rv ln => q v H1 F1 R1 ex kp rv) q⟩⟩
  refine (pe_callB call_isi hg hm boot_isinstance (pa_cons PE1 (pa_cons (pe_bltn (v := .ty T) hgT hmT hv rfl hn hdb) pa_nil hs2) hs1) (he := hs1) (hpl := hpl)).run pins s σ H Q I ⟨rfl, rfl, he.mono _ _ _ (fun r ε1 q v H1 F1 R1 ex kp rv => ?_) h⟩
  exact ⟨v, .ty T, _, _, tyOk r.d.tyn T, rfl, .ty T, DV.ty R1 (rv.dv R1), kit_ty (kitB_ty r.d hT), (q.shift ex kp).same R1 (.bl _)⟩
theorem qe_isi2 {X : Cx} {e : Expr} {te : TEd} {p p2 p3 pt pos : Pos} {x y : Str} {T U : String} {kt : Nat} (hT : T = "int" ∨ T = "bool" ∨ T = "str" ∨ T = "list" ∨ T = "tuple") (hU : U = "int" ∨ U = "bool" ∨ U = "str" ∨ U = "list" ∨ U = "tuple") (hg : Gl X "isinstance") (hm : X.mg "isinstance" = none) (hgT : Gl X x) (hmT : X.mg x = none) (hv : bootBuiltins x = some (.type T)) (hgU : Gl X y) (hmU : X.mg y = none) (hvU : bootBuiltins y = some (.type U)) (he : QE X e te)
    (hn : x ≠ "__name__" := by decide) (hdb : (x == ("__debug__" : Str)) = false := by decide) (hn' : y ≠ "__name__" := by decide) (hdb' : (y == ("__debug__" : Str)) = false := by decide)
    (ht1 : starEach [.Name x p2, .Name y p3] X.env = (false, eval (.Name x p2) X.env) :: starEach [.Name y p3] X.env := by rfl) (ht2 : starEach [.Name y p3] X.env = (false, eval (.Name y p3) X.env) :: starEach [] X.env := by rfl)
    (hs1 : starEach [e, .Tuple [.Name x p2, .Name y p3] kt pt] X.env = (false, eval e X.env) :: starEach [.Tuple [.Name x p2, .Name y p3] kt pt] X.env := by rfl) (hs2 : starEach [.Tuple [.Name x p2, .Name y p3] kt pt] X.env = (false, eval (.Tuple [.Name x p2, .Name y p3] kt pt) X.env) :: starEach [] X.env := by rfl)
    (hpl : (backTo pos (starEach [.Tuple [.Name x p2, .Name y p3] kt pt] X.env)).any (·.1) = false := by rfl) :
    QE X (.Call (.Name "isinstance" p) [e, .Tuple [.Name x p2, .Name y p3] kt pt] [] pos) (dIsi2 T U te) := by
  refine ⟨⟨fun pins s σ H Q I ⟨G, ε, F, R0, h⟩ => ?_⟩, fun ε Q Q' m h => he.mono _ _ _ (fun r ε1 q => m _ _ q) h⟩
  have PE1 : PE X e (fun σ' H' Q' => σ' = σ ∧ H' = H ∧ te ε fun r ε1 => ∀ v H1 F1, Rel G ε1 σ H1 F1 → Ext F F1 → Kept G.T H H1 → RV G H1 F1 v r.fz → Q' v H1) := ⟨fun pins' s' σ' H' Q' I' ⟨e1, e2, q⟩ => by
    rw [e1, e2] at I'
    rw [e1]
    refine thn (he.gets I' R0 q) ?_
    rintro u s1 ⟨v, H1, r, ε1, F1, I1, r1, p1, R1, ex, kp, rv⟩
    exact ⟨v, H1, I1, r1, p1 v H1 F1 R1 ex kp rv⟩⟩
  refine (pe_callB call_isiT hg hm boot_isinstance (pa_cons PE1 (pa_cons (pe_tup (pa_cons (pe_bltn (v := .ty T) hgT hmT hv rfl hn hdb) (pa_cons (pe_bltn (v := .ty U) hgU hmU hvU rfl hn' hdb') pa_nil ht2) ht1)) pa_nil hs2) hs1) (he := hs1) (hpl := hpl)).run pins s σ H Q I ⟨rfl, rfl, he.mono _ _ _ (fun r ε1 q v H1 F1 R1 ex kp rv => ?_) h⟩
  refine ⟨by show 2 ≤ sizeLine; rw [sizeLine_eq]; decide, fun tp htp => ?_⟩
  obtain ⟨R2, kp2, _⟩ := R1.push (.tup [.ty T, .ty U]) htp
  have rv2 := rv.keep R1 (R.fz_own _) (.refl _) kp2
  have dv := rv2.dv R2
  rw [R.fz_d] at dv
  refine ⟨v, tp, [.ty T, .ty U], _, [.type T, .type U], (tyOk r.d.tyn T || tyOk r.d.tyn U), rfl, upd_same, .cons (.ty T) (.cons (.ty U) .nil), DV.ty R2 dv, ?_, (q.shift ex (kp.trans kp2)).same R2 (.bl _)⟩
  refine kitAny_cons (kit_ty (kitB_ty r.d hT)) (fun e1 => ?_) (fun e1 => by rw [e1]; rfl)
  rw [e1, Bool.false_or]
  exact kitAny_cons (kit_ty (kitB_ty r.d hU)) (fun e2 => by rw [e2]; exact kitAny_nil) (fun e2 => e2)
end DL

set_option Elab.async false
set_option linter.all false
set_option maxRecDepth 100000
set_option maxHeartbeats 4000000
/-! DLk: methods, changes of owned lists, further stores. -/
namespace DL
open PySem PySem.Spec PyProof.Rows L2

section
variable {X : Cx} {pins : List (Addr × Obj)} {σ : L2.St} {H F : Hp} {s : Shared} {G : Gh} {ε : Ev} {e : Expr} {te : TEd}
/-- an expression met at one state, for L2's rules -/
def tHere (σ : L2.St) (H : Hp) (G : Gh) (F : Hp) (te : TEd) (ε : Ev) (P : V → Hp → R → Ev → Hp → Prop → Prop) : TE := fun σ' H' Q' => σ' = σ ∧ H' = H ∧ te ε fun r ε1 => ∀ v H1 F1, Rel G ε1 σ H1 F1 → Ext F F1 → Kept G.T H H1 → RV G H1 F1 v r.fz → Line H1 → P v H1 r ε1 F1 (Q' v H1)
theorem pe_here (he : QE X e te) (R0 : Rel G ε σ H F) {P : V → Hp → R → Ev → Hp → Prop → Prop} (hP : ∀ v H1 r ε1 F1 q, P v H1 r ε1 F1 q → q) : PE X e (tHere σ H G F te ε P) := ⟨fun pins' s' σ' H' Q' I' ⟨e1, e2, q⟩ => by
    rw [e1, e2] at I'
    rw [e1]
    refine thn (he.gets I' R0 q) ?_
    rintro u s1 ⟨v, H1, r, ε1, F1, I1, r1, p1, R1, ex, kp, rv⟩
    exact ⟨v, H1, I1, r1, hP _ _ _ _ _ _ (p1 v H1 F1 R1 ex kp rv (line_of I1))⟩⟩
end

/-! ### methods of texts -/
abbrev WM := D → D → (R → Prop) → Prop
def splitL (a b : List Nat) : List (List Nat) := (Txt.split (S a) (S b)).map fun x => x.cps.toList
def joinL (a : List Nat) (ls : List (List Nat)) : List Nat := (Txt.join (S a) (ls.map S)).cps.toList
def wSplit : WM
  | .str a, .str b, Q => b ≠ [] ∧ a.length + 2 ≤ sizeLine ∧ Q (.ow ((splitL a b).map D.str))
  | _, _, _ => False
def wJoin : WM
  | .str a, .lst ds, Q => ∃ ls : List (List Nat), ds = ls.map D.str ∧ (ls.map (·.length)).sum + ls.length * a.length ≤ 16777216 ∧ Q (.fr (.str (joinL a ls)))
  | _, _, _ => False
def dM1 (w : WM) (to te : TEd) : TEd := fun ε Q => to ε fun r1 ε1 => (∃ l, r1 = .fr (.str l)) ∧ te ε1 fun r2 ε2 => w r1.d r2.d fun r => Q r ε2
section
variable {X : Cx} {o e : Expr} {to te : TEd} {apos pos : Pos} {w : WM}
theorem dM1_mono (mw : ∀ x y Q Q', (∀ r, Q r → Q' r) → w x y Q → w x y Q') (ho : MonoE to) (he : MonoE te) : MonoE (dM1 w to te) := fun ε Q Q' m h => ho _ _ _ (fun r1 ε1 ⟨l, q⟩ => ⟨l, he _ _ _ (fun r2 ε2 q => mw _ _ _ _ (fun r q => m _ _ q) q) q⟩) h
theorem qe_m1 {r : V → List V → Hp → VK → Prop} {name : Str} (mw : ∀ x y Q Q', (∀ r, Q r → Q' r) → w x y Q → w x y Q') (ho : QE X o to) (he : QE X e te)
    (pe : ∀ {to' te' : TE}, PE X o to' → PE X e te' → PE X (.Call (.Attribute o name apos) [e] [] pos) (tM1 r to' te'))
    (link : ∀ (σ : L2.St) (H F : Hp) (G : Gh) (ε : Ev) (x y : V) (dx dy : D) (Q : VK), Line H → Rel G ε σ H F → DV G.T H F x dx → DV G.T H F y dy → w dx dy (fun r => Cont G σ H F Q r ε) → r x [y] H Q) :
    QE X (.Call (.Attribute o name apos) [e] [] pos) (dM1 w to te) := by
  refine ⟨⟨fun pins s σ H Q I ⟨G, ε, F, R0, h⟩ => ?_⟩, dM1_mono mw ho.mono he.mono⟩
  refine (pe (pe_here (P := fun _ _ _ _ _ q => q) ho R0 (fun _ _ _ _ _ _ q => q)) (pe_line he.pe)).run pins s σ H Q I ⟨rfl, rfl, ho.mono _ _ _ (fun r1 ε1 ⟨⟨l, el⟩, q⟩ v H1 F1 R1 ex kp rv li => ?_) h⟩
  subst el
  cases rv
  refine ⟨⟨S l, rfl⟩, G, ε1, F1, R1, he.mono _ _ _ (fun r2 ε2 q v2 H2 F2 R2 ex2 kp2 rv2 ln2 li2 => ?_) q⟩
  exact link σ H2 F2 G ε2 _ v2 (.str l) r2.d Q li2 R2 (Dt.strS l) (rv2.dv R2) (mw _ _ _ _ (fun r q => q.shift (ex.trans ex2) (kp.trans kp2)) q)
theorem qe_split (ho : QE X o to) (he : QE X e te) (hs : starEach [e] X.env = [(false, eval e X.env)] := by rfl) (hbase : attributeBase o "split" X.env (eval o X.env) = eval o X.env := by rfl) (hline : (apos.endLine == pos.line) = true := by rfl) :
    QE X (.Call (.Attribute o "split" apos) [e] [] pos) (dM1 wSplit to te) := by
  refine qe_m1 (fun x y Q Q' m h => ?_) ho he (fun a b => pe_split a b hs hbase hline) fun σ H F G ε x y dx dy Q li R0 hx hy h => ?_
  · unfold wSplit at h ⊢
    split <;> simp_all
  · unfold wSplit at h
    split at h
    · rename_i a b
      cases hx; cases hy
      refine ⟨S a, S b, rfl, rfl, ?_, by rw [S_len]; exact h.2.1, h.2.2.lst R0 ?_⟩
      · rw [S_len]
        cases b with
        | nil => exact absurd rfl h.1
        | cons _ _ => rfl
      · have := DtAll.of_strX (T := G.T) (F := F) (Txt.split (S a) (S b))
        unfold splitL
        rw [List.map_map]
        exact this
    · exact h.elim
theorem qe_join (ho : QE X o to) (he : QE X e te) (hs : starEach [e] X.env = [(false, eval e X.env)] := by rfl) (hbase : attributeBase o "join" X.env (eval o X.env) = eval o X.env := by rfl) (hline : (apos.endLine == pos.line) = true := by rfl) :
    QE X (.Call (.Attribute o "join" apos) [e] [] pos) (dM1 wJoin to te) := by
  refine qe_m1 (fun x y Q Q' m h => ?_) ho he (fun a b => pe_join a b hs hbase hline) fun σ H F G ε x y dx dy Q li R0 hx hy h => ?_
  · unfold wJoin at h ⊢
    split at h
    · obtain ⟨ls, e, z, q⟩ := h; exact ⟨ls, e, z, m _ q⟩
    · exact h.elim
  · unfold wJoin at h
    split at h
    · rename_i a ds
      obtain ⟨ls, rfl, z, q⟩ := h
      cases hx
      obtain ⟨p, vs, rfl, h1, h2⟩ := hy
      have e := h2.strs
      subst e
      refine ⟨S a, p, ls.map S, rfl, rfl, .inl (sqL_up h1), ?_, q.same R0 (Dt.strX _)⟩
      rw [List.length_map, S_len, List.map_map]
      have : (ls.map ((fun x : Str => x.length) ∘ S)) = ls.map (·.length) := by
        apply List.map_congr_left
        intro l _
        exact S_len l
      rw [this]
      exact z
    · exact h.elim
end

/-! ### lists that a slot owns -/
theorem Rel.modify {G : Gh} {ε : Ev} {σ : L2.St} {H F : Hp} (R0 : Rel G ε σ H F) {i : Nat} {ds es : List D} {us : List V} (e : ε[i]? = some (some (.ow ds))) (h : DtAll G.T F us es) :
    ∃ a vs, σ[i]? = some (some (.ref a)) ∧ H a = some (.lst vs) ∧ DtAll G.T F vs ds ∧ Rel G (ε.set i (some (.ow es))) σ (upd H a (.lst us)) F := by
  obtain ⟨v, e1, a, vs, rfl, h1, h2, h3, h4⟩ := R0.slots i _ e
  have nT := R0.neT h4
  have oth : ∀ (j : Nat) (r : R) (b : Addr), ε[j]? = some (some r) → r.own → j ≠ i → σ[j]? = some (some (.ref b)) → b ≠ a := fun j r b e' o n s z => by
    subst z
    exact n (R0.sep j i r _ _ e' e o trivial s e1)
  refine ⟨a, vs, e1, h1, h2, ⟨fun b o e => ?_, fun b o e n => ?_, R0.low, R0.new, ?_, R0.nT, R0.tp, R0.script, R0.small, R0.sz, fun j r e' => ?_, fun j k r r' v e1' e2' o1 o2 s1 s2 => ?_, by simp [R0.len], fun j r e' => ?_⟩⟩
  · have hb : b ≠ a := fun z => by rw [z, h3] at e; cases e
    rw [upd_ne hb]; exact R0.sub b o e
  · have hb : b ≠ a := fun z => by rw [z, h4] at e; cases e
    rw [upd_ne hb]; exact R0.keep b o e n
  · obtain ⟨k, c, q⟩ := R0.tape
    exact ⟨k, c, by rw [upd_ne nT.symm]; exact q⟩
  · rcases set_get e' with ⟨rfl, rfl⟩ | ⟨n, e'⟩
    · exact ⟨.ref a, e1, a, us, rfl, upd_same, h, h3, h4⟩
    · obtain ⟨v, s1, q⟩ := R0.slots j r e'
      refine ⟨v, s1, ?_⟩
      cases r with
      | fr d => exact q
      | ow ds => obtain ⟨b, ws, rfl, q1, q2⟩ := q; exact ⟨b, ws, rfl, by rw [upd_ne (oth j _ b e' trivial n s1)]; exact q1, q2⟩
      | od ds => obtain ⟨b, ws, rfl, q1, q2⟩ := q; exact ⟨b, ws, rfl, by rw [upd_ne (oth j _ b e' trivial n s1)]; exact q1, q2⟩
      | bo ds => exact (R0.kind j _ e').elim
      | bd ds => exact (R0.kind j _ e').elim
      | pin b ds => exact q
  · have back : ∀ {j : Nat} {r : R}, (ε.set i (some (.ow es)))[j]? = some (some r) → r.own → ∃ r', ε[j]? = some (some r') ∧ r'.own := fun {j r} e' o => by
      rcases set_get e' with ⟨rfl, rfl⟩ | ⟨n, e'⟩
      · exact ⟨_, e, trivial⟩
      · exact ⟨r, e', o⟩
    obtain ⟨q1, f1, g1⟩ := back e1' o1
    obtain ⟨q2, f2, g2⟩ := back e2' o2
    exact R0.sep j k q1 q2 v f1 f2 g1 g2 s1 s2
  · rcases set_get e' with ⟨rfl, rfl⟩ | ⟨n, e'⟩
    · trivial
    · exact R0.kind j r e'
def dApp (i : Nat) (te : TEd) : TSd := fun D ε => (∃ ds0, ε[i]? = some (some (.ow ds0))) ∧ te ε fun r ε1 => r.free ∧ ∃ ds, ε1[i]? = some (some (.ow ds)) ∧ ds.length < sizeLine ∧ D.nx (ε1.set i (some (.ow (ds ++ [r.d]))))
section
variable {X : Cx} {e : Expr} {te : TEd} {apos cpos pos p : Pos} {x : Str} {i : Nat}
theorem qs_app (he : QE X e te) (hi : X.N[i]? = some x := by rfl) (hv : Vis X.env.scope x := by first | exact Or.inl rfl | exact Or.inr (Or.inl rfl) | exact Or.inr (Or.inr rfl)) (hd : (x == ("__debug__" : Str)) = false := by decide) (hcd : (x == ("__classdict__" : Str)) = false := by decide)
    (hs : swapsWith (.Call (.Attribute (.Name x p) "append" apos) [e] [] cpos) none pos.line X.env = pure false := by rfl)
    (hbase : attributeBase (.Name x p) "append" X.env (eval (.Name x p) X.env) = eval (.Name x p) X.env := by rfl)
    (hfew : ((backTo cpos (starEach [e] X.env)).all (fun x => !x.1) && (backToKw cpos (keywordEach [] X.env)).all (fun x => x.1.isSome)
      && decide (([e] : List Expr).length + ([] : List Keyword).length + (if ([] : List Keyword).isEmpty then 0 else 1) < 30)) = true := by rfl)
    (hline : (apos.endLine == cpos.line) = true := by rfl) (hse : starEach [e] X.env = (false, eval e X.env) :: starEach [] X.env := by rfl) (hplain : (backTo cpos (starEach [] X.env)).any (·.1) = false := by rfl) :
    QS X (.Expr (.Call (.Attribute (.Name x p) "append" apos) [e] [] cpos) pos) (dApp i te) := by
  refine ⟨ps_imp (ps_expr (pe_bm PySem.F.plainAttrs_list PySem.F.slot_list_append PySem.F.type_list_append mt_append (pe_var (i := i) hi hv hd hcd) (pa_cons (pe_line he.pe) pa_nil hse) hbase hfew hline hse hplain) hs) fun D σ H ⟨G, ε, F, R0, h⟩ => ?_, fun D D' ε l ⟨h0, h⟩ => ⟨h0, he.mono _ _ _ (fun r ε1 ⟨f, ds, a, b, q⟩ => ⟨f, ds, a, b, l.nx _ q⟩) h⟩⟩
  obtain ⟨⟨ds0, e0⟩, h⟩ := h
  obtain ⟨v, e1, a, vs, rfl, h1, h2, h3, h4⟩ := R0.slots i _ e0
  refine ⟨.ref a, e1, .inl ⟨rfl, _, SqL.of h1⟩, G, ε, F, R0, he.mono _ _ _ (fun r ε1 q v H1 F1 R1 ex kp rv ln li => ?_) h⟩
  obtain ⟨f, ds, e2, hl, q⟩ := q
  obtain ⟨F2, R2, ex2, rv2⟩ := R1.let_go rv ln (fun a us e => li a us (.inl e))
  obtain ⟨v', e1', a', vs', e3, q1, q2, _⟩ := R2.slots i _ e2
  rw [e1] at e1'
  cases e1'
  cases e3
  obtain ⟨b, ws, s1, g1, g2, R3⟩ := R2.modify e2 (us := vs' ++ [v]) (q2.append (.one (RV.notD f rv2)))
  rw [e1] at s1
  cases s1
  exact ⟨a, vs', v, rfl, rfl, q1, by rw [q2.len]; exact hl, q _ _ _ R3 (ex.trans ex2)⟩
end

/-! ### x op= e -/
def dAug (i : Nat) (f : Int → Int → Int) (te : TEd) : TSd := fun D ε => ∃ a, ε[i]? = some (some (.fr (.int a))) ∧ te ε fun r ε1 => ∃ b, r = .fr (.int b) ∧ D.nx (ε1.set i (some (.fr (.int (f a b)))))
theorem ip_mul : PIp X .Mult (fun x y H Q => ∃ i j, x = .int i ∧ y = .int j ∧ CMulW i j ∧ Q (.int (i * j)) H) := by
  intro pins s σ H x y v u Q I r1 r2 h
  obtain ⟨i, j, e1, e2, c, q⟩ := h
  subst e1; subst e2
  obtain ⟨t, rfl⟩ := r1
  obtain ⟨t', rfl⟩ := r2
  exact imul_int ⟨.int _, H, I.tok _, ⟨_, rfl⟩, q⟩ c.ok
def dAugM (i : Nat) (te : TEd) : TSd := fun D ε => ∃ a, ε[i]? = some (some (.fr (.int a))) ∧ te ε fun r ε1 => ∃ b, r = .fr (.int b) ∧ CMulW a b ∧ D.nx (ε1.set i (some (.fr (.int (a * b)))))
section
variable {X : Cx} {e : Expr} {te : TEd} {pos pos' : Pos} {x : Str} {i : Nat} {op : Operator} {f : Int → Int → Int}
theorem qs_aug (ho : PIp X op (ipI f)) (hN : X.N.Nodup) (he : QE X e te) (hi : X.N[i]? = some x := by rfl) (hx : Loc X.env.scope x := by first | exact Or.inl rfl | exact Or.inr rfl) (hf : X.fn x = true ∨ X.env.scope.names.lookup x = some .local := by first | exact .inl rfl | exact .inr rfl) : QS X (.AugAssign (.Name x pos') op e pos) (dAug i f te) := by
  refine ⟨ps_imp (ps_aug hN hi hx he.pe ho hf) fun D σ H ⟨G, ε, F, R0, h⟩ => ?_, fun D D' ε l ⟨a, h0, h⟩ => ⟨a, h0, he.mono _ _ _ (fun r ε1 ⟨b, a, q⟩ => ⟨b, a, l.nx _ q⟩) h⟩⟩
  obtain ⟨a, e0, h⟩ := h
  obtain ⟨v, e1, q1⟩ := R0.slots i _ e0
  cases q1
  refine ⟨.int a, e1, G, ε, F, R0, he.mono _ _ _ (fun r ε1 ⟨b, eb, q⟩ v H1 F1 R1 ex kp rv ln => ?_) h⟩
  subst eb
  cases rv
  exact ⟨a, b, rfl, rfl, q _ _ _ (R1.store (r := .fr (.int (f a b))) (.int _) (fun z => z.elim) trivial) ex⟩
theorem qs_augM (hN : X.N.Nodup) (he : QE X e te) (hi : X.N[i]? = some x := by rfl) (hx : Loc X.env.scope x := by first | exact Or.inl rfl | exact Or.inr rfl) (hf : X.fn x = true ∨ X.env.scope.names.lookup x = some .local := by first | exact .inl rfl | exact .inr rfl) : QS X (.AugAssign (.Name x pos') .Mult e pos) (dAugM i te) := by
  refine ⟨ps_imp (ps_aug hN hi hx he.pe ip_mul hf) fun D σ H ⟨G, ε, F, R0, h⟩ => ?_, fun D D' ε l ⟨a, h0, h⟩ => ⟨a, h0, he.mono _ _ _ (fun r ε1 ⟨b, a, c, q⟩ => ⟨b, a, c, l.nx _ q⟩) h⟩⟩
  obtain ⟨a, e0, h⟩ := h
  obtain ⟨v, e1, q1⟩ := R0.slots i _ e0
  cases q1
  refine ⟨.int a, e1, G, ε, F, R0, he.mono _ _ _ (fun r ε1 ⟨b, eb, c, q⟩ v H1 F1 R1 ex kp rv ln => ?_) h⟩
  subst eb
  cases rv
  exact ⟨a, b, rfl, rfl, c, q _ _ _ (R1.store (r := .fr (.int (a * b))) (.int _) (fun z => z.elim) trivial) ex⟩
end

/-! ### x, y = a, b -/
def dPar (i j : Nat) (ta tb : TEd) : TSd := fun D ε => ta ε fun r1 ε1 => tb ε1 fun r2 ε2 => (r1.free ∧ r2.free ∧ (r1.isFr = true ∨ r2.isFr = true)) ∧ D.nx ((ε2.set i (some r1)).set j (some r2))

/-! ### the law's own start -/
/-- tape = [list(script), 0, 0] -/
theorem law_start {ns : List Int} {K : PySem.W.Frag} {H : Hp} {N : Nat} {a : Addr} (hS : SqL K H a (ns.map V.int)) (hl : ns.length ≤ 63) {L T : Addr} (hL : H L = none) (hT : upd H L (.lst (ns.map V.int)) T = none) :
    FnPre T L ns (upd (upd H L (.lst (ns.map V.int))) T (.lst [.ref L, .int 0, .int 0])) (upd (fun _ => none) L (.lst (ns.map V.int))) := by
  have nLT : L ≠ T := fun e => by rw [← e, upd_same] at hT; cases hT
  refine ⟨fun b o e => ?_, ⟨0, 0, upd_same⟩, ?_, upd_same, hl, fun b vs e => ?_⟩
  · by_cases hb : b = L
    · subst hb
      rw [upd_same] at e
      cases e
      rw [upd_ne nLT, upd_same]
    · rw [upd_ne hb] at e; cases e
  · rw [upd_ne nLT.symm]
  · by_cases hb : b = L
    · subst hb
      rw [upd_same] at e
      rcases e with e | e
      · cases e
        rw [List.length_map, sizeLine_eq]
        omega
      · cases e
    · rw [upd_ne hb] at e; rcases e with e | e <;> cases e
end DL

set_option Elab.async false
set_option linter.all false
set_option maxRecDepth 100000
set_option maxHeartbeats 4000000
/-! DLl: a name's last use, the law's own def. -/
namespace DL
open PySem PySem.Spec PyProof.Rows L2

/-- the name's last use: the value moves -/
def dMv (i : Nat) : TEd := fun ε Q => match ε[i]? with
  | some (some (.fr d)) => Q (.fr d) ε
  | some (some (.ow ds)) => Q (.ow ds) (ε.set i none)
  | some (some (.od ks)) => Q (.od ks) (ε.set i none)
  | _ => False
theorem unset_get {ε : Ev} {i j : Nat} {r' : R} (h : (ε.set i none)[j]? = some (some r')) : j ≠ i ∧ ε[j]? = some (some r') := by
  by_cases hj : j = i
  · subst hj
    by_cases hl : j < ε.length
    · rw [List.getElem?_set_self hl] at h; cases h
    · rw [List.getElem?_eq_none (by simpa using hl)] at h; cases h
  · rw [List.getElem?_set_ne (fun z => hj z.symm)] at h
    exact ⟨hj, h⟩
theorem Rel.unset {G : Gh} {ε : Ev} {σ : L2.St} {H F : Hp} (R0 : Rel G ε σ H F) (i : Nat) : Rel G (ε.set i none) σ H F :=
  ⟨R0.sub, R0.keep, R0.low, R0.new, R0.tape, R0.nT, R0.tp, R0.script, R0.small, R0.sz, fun j r e => R0.slots j r (unset_get e).2,
    fun j k r r' v e1 e2 => R0.sep j k r r' v (unset_get e1).2 (unset_get e2).2, by simp [R0.len], fun j r e => R0.kind j r (unset_get e).2⟩
theorem Rel.unset_lone {G : Gh} {ε : Ev} {σ : L2.St} {H F : Hp} (R0 : Rel G ε σ H F) {i : Nat} {r : R} {v : V} (e : ε[i]? = some (some r)) (o : r.own) (s : σ[i]? = some (some v)) : Lone (ε.set i none) σ v := fun j r' e' o' s' => by
  have u := unset_get e'
  exact u.1 (R0.sep j i r' r v u.2 e o' o s' s)
section
variable {X : Cx} {pos : Pos}
theorem qe_mv {i : Nat} {x : Str} (hN : X.N[i]? = some x := by rfl) (hv : Vis X.env.scope x := by first | exact Or.inl rfl | exact Or.inr (Or.inl rfl) | exact Or.inr (Or.inr rfl)) (hd : (x == ("__debug__" : Str)) = false := by decide) (hcd : (x == ("__classdict__" : Str)) = false := by decide) :
    QE X (.Name x pos) (dMv i) := by
  refine ⟨⟨fun pins s σ H Q I h => ?_⟩, fun ε Q Q' m h => ?_⟩
  · obtain ⟨G, ε, F, R0, h⟩ := h
    unfold dMv at h
    split at h
    · rename_i d e
      obtain ⟨v, e1, h1⟩ := R0.slots i _ e
      exact (pe_var (i := i) hN hv hd hcd).run pins s σ H Q I ⟨v, e1, h v H F R0 (.refl _) (.refl _ _) h1 (fun z => z.elim)⟩
    · rename_i d e
      obtain ⟨v, e1, h1⟩ := R0.slots i _ e
      exact (pe_var (i := i) hN hv hd hcd).run pins s σ H Q I ⟨_, e1, h _ H F (R0.unset i) (.refl _) (.refl _ _) h1 (fun o => R0.unset_lone e o e1)⟩
    · rename_i d e
      obtain ⟨v, e1, h1⟩ := R0.slots i _ e
      exact (pe_var (i := i) hN hv hd hcd).run pins s σ H Q I ⟨_, e1, h _ H F (R0.unset i) (.refl _) (.refl _ _) h1 (fun o => R0.unset_lone e o e1)⟩
    · exact h.elim
  · unfold dMv at h ⊢
    split <;> simp_all
end

/-! ### the law's def -/
def spLaw (K : PySem.W.Frag) : Sp := fun vs H Q _ => ∃ (a : Addr) (ns : List Int), vs = [.ref a] ∧ SqL K H a (ns.map V.int) ∧ ns.length ≤ 63 ∧ ∀ H', Q (.bl true) H'
def lawE (N : List Str) : Ev := none :: some (.fr .tape) :: List.replicate (N.length - 2) none
def lawD : DE := { nx := fun _ => False, rt := fun r => r = .fr (.bl true) }
abbrev tTape (K : PySem.W.Frag) : TS := tAsg (tLst (tCons (tCB (fun xs H Q => ∃ p ys, xs = [.ref p] ∧ (SqL K H p ys ∨ SqT K H p ys) ∧ ∀ l, H l = none → Q (.ref l) (upd H l (.lst ys))) (tCons (tVar 0) tNil)) (tCons (tC (.int 0)) (tCons (tC (.int 0)) tNil)))) (gName 1)
theorem ok_law {P : Program} {w : World} {K : PySem.W.Frag} {mg : Str → Option Value} {base : Heap} {st : Stmt} {f : Addr} {fd : FuncData} {k : Nat} {x2 : Str} {N : List Str} {s0 : Stmt} {rest : List Stmt} (F : Fun K "law" "law" st f fd)
    (S : FnScope ("script" :: x2 :: N) ["script"] (defScope st)) (hb : defBody st = s0 :: rest)
    (body : ∀ (cdv : Value) (A : Around) (outer : List Env) (s : Shared) (H : Hp) (E : XK), Room k (A.deeper (envOfC "law" (defScope st) s.heap.objs.size f cdv)) →
      PS (cxOf CX0 P w K mg base ("script" :: x2 :: N) "law" (defScope st) f cdv A outer s H E).nox s0 (tTape K) ∧
      ∃ t, QSs (cxOf CX0 P w K mg base ("script" :: x2 :: N) "law" (defScope st) f cdv A outer s H E).nox rest t ∧ t lawD (lawE ("script" :: x2 :: N))) : FnOk P w K mg base CX0 (k + 1) f fd ["script"] (spLaw K) := by
  refine F.ok S (fun vs H Q E ⟨a, ns, e, _⟩ => by rw [e]; rfl) (fun cdv A outer s H vs Q E hr ⟨a, ns, e, hS, hl, q⟩ => ?_)
  subst e
  obtain ⟨h0, t, ht, hq⟩ := body cdv A outer s H E hr
  rw [hb]
  refine ⟨_, pss_cons h0 ht.pss, ?_⟩
  refine ⟨.ref a, rfl, a, _, rfl, .inl hS, fun L hL => ?_⟩
  refine ⟨(by rw [sizeLine_eq]; show 3 ≤ 16777216; decide), fun T hT => ?_⟩
  have pre := law_start (N := 0) hS hl hL hT
  refine ⟨⟨T, L, ns, upd (upd H L (.lst (ns.map V.int))) T (.lst [.ref L, .int 0, .int 0]), upd (fun _ => none) L (.lst (ns.map V.int))⟩, lawE ("script" :: x2 :: N), upd (fun _ => none) L (.lst (ns.map V.int)), ?_, ?_⟩
  · have sl : ∀ (i : Nat) (r : R), (lawE ("script" :: x2 :: N))[i]? = some (some r) → i = 1 ∧ r = .fr .tape := fun i r e => by
      unfold lawE at e
      match i with
      | 0 => cases e
      | 1 => cases e; exact ⟨rfl, rfl⟩
      | i + 2 =>
        simp only [List.getElem?_cons_succ] at e
        have := List.mem_of_getElem? e
        rw [List.mem_replicate] at this
        cases this.2
    refine ⟨pre.sub, fun a o e n => e, fun a o e => e, fun a e => .inl e, pre.tape, pre.nT, ?_, pre.script, pre.small, pre.sz, fun i r e => ?_, fun i j r r' v e1 e2 o1 o2 s1 s2 => ?_, ?_, fun i r e => ?_⟩
    · show upd _ T _ T ≠ none
      rw [upd_same]; simp
    · obtain ⟨rfl, rfl⟩ := sl i r e
      exact ⟨.ref T, rfl, .tape⟩
    · obtain ⟨rfl, rfl⟩ := sl i r e1
      exact o1.elim
    · simp [lawE, L2.start]
    · obtain ⟨rfl, rfl⟩ := sl i r e
      trivial
  · refine ht.mono lawD _ _ ⟨fun ε (h : False) => h.elim, fun r e v σ ε H' F' R1 ex rv fr => ?_, fun ε (h : False) => h.elim, fun ε (h : False) => h.elim⟩ hq
    subst e
    cases rv
    exact q H'
end DL

set_option Elab.async false
set_option linter.all false
set_option maxRecDepth 100000
set_option maxHeartbeats 4000000
/-! DLm: the transformers at full application (printed by mk_m.py). -/
namespace DL
open PySem PySem.Spec PyProof.Rows L2

section
variable {ε : Ev} {B : DE} {t u : TSd} {ta tb tc te to : TEd} {tA : TAd} {c tt : TTd} {ti : TId} {w w2 : W2} {QE : R → Ev → Prop} {QT : Bool → Ev → Prop} {QA : List R → Ev → Prop} {QI : List D → Ev → Prop} {i j : Nat} {tg : Tg} {vs : List Nat} {sp : DSp} {wl : WL}
theorem e_dSeq  : dSeq t u B ε = (t { B with nx := u B } ε) := rfl
theorem e_dNext  : dNext B ε = (B.nx ε) := rfl
theorem e_dSet  : dSet i te B ε = (te ε fun r ε1 => r.free ∧ B.nx (ε1.set i (some r))) := rfl
theorem e_dRet  : dRet te B ε = (te ε fun r ε1 => r.free ∧ B.rt r) := rfl
theorem e_dDrop  : dDrop te B ε = (te ε fun _ ε1 => B.nx ε1) := rfl
theorem e_dIfS  : dIfS c t u B ε = (c ε fun b ε1 => if b = true then t B ε1 else u B ε1) := rfl
theorem e_dTgS  : dTgS tg te B ε = (te ε fun r ε1 => r.isFr = true ∧ ∃ ε2, tg.put r.d ε1 = some ε2 ∧ B.nx ε2) := rfl
theorem e_dC {d : D} : dC d ε QE = (QE (.fr d) ε) := rfl
theorem e_dBin  : dBin w ta tb ε QE = (ta ε fun r1 ε1 => tb ε1 fun r2 ε2 => w r1.d r2.d fun r => QE r ε2) := rfl
theorem e_dTst  : dTst ta ε QT = (ta ε fun r ε' => ∃ k, r = .fr (.bl k) ∧ QT k ε') := rfl
theorem e_dChn  : dChn w w2 ta tb tc ε QE = (ta ε fun r1 ε1 => tb ε1 fun r2 ε2 => w r1.d r2.d fun r => ∃ k, r = .fr (.bl k) ∧ (if k = true then tc ε2 fun r3 ε3 => w2 r2.d r3.d fun r' => QE r' ε3 else QE (.fr (.bl false)) ε2)) := rfl
theorem e_dAnd {t u : TTd} : dAnd t u ε QT = (t ε fun k ε1 => if k = true then u ε1 QT else QT false ε1) := rfl
theorem e_dOr {t u : TTd} : dOr t u ε QT = (t ε fun k ε1 => if k = true then QT true ε1 else u ε1 QT) := rfl
theorem e_dNot {t : TTd} : dNot t ε QT = (t ε fun k ε1 => QT (!k) ε1) := rfl
theorem e_dAndV  : dAndV ta tb ε QE = (ta ε fun r ε1 => ∃ k, r = .fr (.bl k) ∧ if k = true then tb ε1 QE else QE (.fr (.bl false)) ε1) := rfl
theorem e_dOrV  : dOrV ta tb ε QE = (ta ε fun r ε1 => ∃ k, r = .fr (.bl k) ∧ if k = true then QE (.fr (.bl true)) ε1 else tb ε1 QE) := rfl
theorem e_dNotV  : dNotV ta ε QE = (ta ε fun r ε1 => ∃ k, r = .fr (.bl k) ∧ QE (.fr (.bl (!k))) ε1) := rfl
theorem e_dIf  : dIf c ta tb ε QE = (c ε fun k ε1 => if k = true then ta ε1 QE else tb ε1 QE) := rfl
theorem e_dNil  : dNil ε QA = (QA [] ε) := rfl
theorem e_dCons  : dCons ta tA ε QA = (ta ε fun r ε1 => tA ε1 fun rs ε2 => QA (r.fz :: rs) ε2) := rfl
theorem e_dLst  : dLst tA ε QE = (tA ε fun rs ε1 => rs.all R.isFr = true ∧ rs.length ≤ sizeLine ∧ QE (.ow (rs.map R.d)) ε1) := rfl
theorem e_dTup  : dTup tA ε QE = (tA ε fun rs ε1 => rs.all R.isFr = true ∧ rs.length ≤ sizeLine ∧ QE (.fr (.tup (rs.map R.d))) ε1) := rfl
theorem e_dCB  : dCB wl tA ε QE = (tA ε fun rs ε1 => wl (rs.map R.d) fun r => QE r ε1) := rfl
theorem e_dCall  : dCall sp tA ε QE = (tA ε fun rs ε1 => sp (rs.map R.d) fun r => callOk rs r ∧ QE r ε1) := rfl
theorem e_dYes  : dYes ε QT = (QT true ε) := rfl
theorem e_dApp  : dApp i te B ε = ((∃ ds0, ε[i]? = some (some (.ow ds0))) ∧ te ε fun r ε1 => r.free ∧ ∃ ds, ε1[i]? = some (some (.ow ds)) ∧ ds.length < sizeLine ∧ B.nx (ε1.set i (some (.ow (ds ++ [r.d]))))) := rfl
theorem e_dAug {f : Int → Int → Int} : dAug i f te B ε = (∃ a, ε[i]? = some (some (.fr (.int a))) ∧ te ε fun r ε1 => ∃ b, r = .fr (.int b) ∧ B.nx (ε1.set i (some (.fr (.int (f a b)))))) := rfl
theorem e_dAugM  : dAugM i te B ε = (∃ a, ε[i]? = some (some (.fr (.int a))) ∧ te ε fun r ε1 => ∃ b, r = .fr (.int b) ∧ CMulW a b ∧ B.nx (ε1.set i (some (.fr (.int (a * b)))))) := rfl
theorem e_dIsi {T : String} : dIsi T te ε QE = (te ε fun r ε1 => QE (.fr (.bl (tyOk r.d.tyn T))) ε1) := rfl
theorem e_dIsi2 {T U : String} : dIsi2 T U te ε QE = (te ε fun r ε1 => QE (.fr (.bl (tyOk r.d.tyn T || tyOk r.d.tyn U))) ε1) := rfl
theorem e_dSl {tl th : TOd} : dSl ta tl th ε QE = (ta ε fun r ε1 => tl ε1 fun l ε2 => th ε2 fun u ε3 => wSl r.d l u fun r' => QE r' ε3) := rfl
theorem e_dNoP {QO : Option Int → Ev → Prop} : dNoP ε QO = (QO none ε) := rfl
theorem e_dPart {QO : Option Int → Ev → Prop} : dPart te ε QO = (te ε fun r ε' => ∃ i, r = .fr (.int i) ∧ QO (some i) ε') := rfl
theorem e_dM1 {wm : WM} : dM1 wm to te ε QE = (to ε fun r1 ε1 => (∃ l, r1 = .fr (.str l)) ∧ te ε1 fun r2 ε2 => wm r1.d r2.d fun r => QE r ε2) := rfl

theorem nm_fr {d : D} (h : ε[i]? = some (some (.fr d))) (q : QE (.fr d) ε) : dNm i ε QE := by unfold dNm; rw [h]; exact q
def FOR (tg : Tg) (tb : TSd) (B : DE) (ds : List D) (ε1 : Ev) : Prop := ∃ I : Nat → Ev → Prop, I 0 ε1 ∧
  (∀ i d ε, ds[i]? = some d → I i ε → ∃ ε2, tg.put d ε = some ε2 ∧ tb { nx := I (i + 1), rt := B.rt, ct := I (i + 1), bk := B.nx } ε2) ∧ ∀ ε, I ds.length ε → B.nx ε
theorem e_dFor : dFor ti tg t B ε = ti ε (FOR tg t B) := rfl
def COMP (tg : Tg) (tt : TTd) (te : TEd) (vs : List Nat) (Q : R → Ev → Prop) (ds : List D) (ε1 : Ev) : Prop := vs.all (slotFr ε1) = true ∧ ∃ P : Nat → List D → Prop, P 0 [] ∧
  (∀ i d acc, ds[i]? = some d → P i acc → ∃ ε2, tg.put d (wipeE ε1 vs) = some ε2 ∧ tt ε2 fun b ε3 => if b = true then te ε3 fun r ε4 => r.free ∧ wipeE ε4 vs = wipeE ε1 vs ∧ P (i + 1) (acc ++ [r.d]) else wipeE ε3 vs = wipeE ε1 vs ∧ P (i + 1) acc) ∧
  ∀ acc, acc.length ≤ ds.length → P ds.length acc → Q (.ow acc) ε1
theorem e_dLC : dLC ti tg tt te vs ε QE = ti ε (COMP tg tt te vs QE) := rfl
theorem e_dIt : dIt te ε QI = te ε fun r ε1 => match r.fz with | .fr (.lst ds) => QI ds ε1 | .fr (.tup ds) => QI ds ε1 | _ => False := rfl
theorem e_dRng1 : dRng1 tA ε QI = tA ε fun rs ε1 => match rs with | [.fr (.int j)] => (-(2 ^ 62) ≤ j ∧ j ≤ 16777216) ∧ QI (rngD 0 j.toNat) ε1 | _ => False := rfl
theorem e_dRng2 : dRng2 tA ε QI = tA ε fun rs ε1 => match rs with | [.fr (.int i), .fr (.int j)] => (-(2 ^ 62) ≤ i ∧ i < 2 ^ 62 ∧ -(2 ^ 62) ≤ j ∧ j < 2 ^ 62 ∧ j - i ≤ 16777216) ∧ QI (rngD i (j - i).toNat) ε1 | _ => False := rfl
theorem e_dEnum : dEnum tA ε QI = tA ε fun rs ε1 => match rs with | [.fr (.lst ds)] => QI (enumD 0 ds) ε1 | [.fr (.tup ds)] => QI (enumD 0 ds) ε1 | _ => False := rfl
theorem e_dZip : dZip tA ε QI = tA ε fun rs ε1 => match rs with | [.fr (.lst ds), .fr (.lst es)] => QI (zipD ds es) ε1 | [.fr (.tup ds), .fr (.tup es)] => QI (zipD ds es) ε1 | _ => False := rfl
theorem e_nmU : dNm i ε QE = match ε[i]? with | some (some (.fr d)) => QE (.fr d) ε | some (some (.ow ds)) => QE (.fr (.lst ds)) (ε.set i (some (.fr (.lst ds)))) | some (some (.od ks)) => QE (.fr (.dct ks)) (ε.set i (some (.fr (.dct ks)))) | _ => False := rfl
theorem e_boU : dBo i ε QE = match ε[i]? with | some (some (.fr d)) => QE (.fr d) ε | some (some (.ow ds)) => QE (.bo ds) ε | some (some (.od ks)) => QE (.bd ks) ε | some (some (.pin _ ds)) => QE (.bo ds) ε | _ => False := rfl
theorem e_mvU : dMv i ε QE = match ε[i]? with | some (some (.fr d)) => QE (.fr d) ε | some (some (.ow ds)) => QE (.ow ds) (ε.set i none) | some (some (.od ks)) => QE (.od ks) (ε.set i none) | _ => False := rfl
theorem e_sp {α : Type} {arg : α → List D} {pre : α → Prop} {post : α → R → Prop} {ds : List D} {Q : R → Prop} : SP arg pre post ds Q = ∃ x, ds = arg x ∧ pre x ∧ ∀ r, post x r → Q r := rfl
end

/-! ### constructors -/
theorem nm0f {x0 x1 x2 x3 x4 x5 x6 x7 x8 x9 x10 x11 x12 x13 x14 x15 : Option R} {ε : Ev} {d : D} {ds : List D} {ks : List (L2.Key × D)} {QE : R → Ev → Prop} : dNm 0 (some (.fr d) :: ε) QE = QE (.fr d) (some (.fr d) :: ε) := rfl
theorem nm0o {x0 x1 x2 x3 x4 x5 x6 x7 x8 x9 x10 x11 x12 x13 x14 x15 : Option R} {ε : Ev} {d : D} {ds : List D} {ks : List (L2.Key × D)} {QE : R → Ev → Prop} : dNm 0 (some (.ow ds) :: ε) QE = QE (.fr (.lst ds)) (some (.fr (.lst ds)) :: ε) := rfl
theorem nm0d {x0 x1 x2 x3 x4 x5 x6 x7 x8 x9 x10 x11 x12 x13 x14 x15 : Option R} {ε : Ev} {d : D} {ds : List D} {ks : List (L2.Key × D)} {QE : R → Ev → Prop} : dNm 0 (some (.od ks) :: ε) QE = QE (.fr (.dct ks)) (some (.fr (.dct ks)) :: ε) := rfl
theorem bo0f {x0 x1 x2 x3 x4 x5 x6 x7 x8 x9 x10 x11 x12 x13 x14 x15 : Option R} {ε : Ev} {d : D} {ds : List D} {ks : List (L2.Key × D)} {QE : R → Ev → Prop} : dBo 0 (some (.fr d) :: ε) QE = QE (.fr d) (some (.fr d) :: ε) := rfl
theorem bo0o {x0 x1 x2 x3 x4 x5 x6 x7 x8 x9 x10 x11 x12 x13 x14 x15 : Option R} {ε : Ev} {d : D} {ds : List D} {ks : List (L2.Key × D)} {QE : R → Ev → Prop} : dBo 0 (some (.ow ds) :: ε) QE = QE (.bo ds) (some (.ow ds) :: ε) := rfl
theorem bo0d {x0 x1 x2 x3 x4 x5 x6 x7 x8 x9 x10 x11 x12 x13 x14 x15 : Option R} {ε : Ev} {d : D} {ds : List D} {ks : List (L2.Key × D)} {QE : R → Ev → Prop} : dBo 0 (some (.od ks) :: ε) QE = QE (.bd ks) (some (.od ks) :: ε) := rfl
theorem mv0f {x0 x1 x2 x3 x4 x5 x6 x7 x8 x9 x10 x11 x12 x13 x14 x15 : Option R} {ε : Ev} {d : D} {ds : List D} {ks : List (L2.Key × D)} {QE : R → Ev → Prop} : dMv 0 (some (.fr d) :: ε) QE = QE (.fr d) (some (.fr d) :: ε) := rfl
theorem mv0o {x0 x1 x2 x3 x4 x5 x6 x7 x8 x9 x10 x11 x12 x13 x14 x15 : Option R} {ε : Ev} {d : D} {ds : List D} {ks : List (L2.Key × D)} {QE : R → Ev → Prop} : dMv 0 (some (.ow ds) :: ε) QE = QE (.ow ds) (none :: ε) := rfl
theorem mv0d {x0 x1 x2 x3 x4 x5 x6 x7 x8 x9 x10 x11 x12 x13 x14 x15 : Option R} {ε : Ev} {d : D} {ds : List D} {ks : List (L2.Key × D)} {QE : R → Ev → Prop} : dMv 0 (some (.od ks) :: ε) QE = QE (.od ks) (none :: ε) := rfl
theorem nm1f {x0 x1 x2 x3 x4 x5 x6 x7 x8 x9 x10 x11 x12 x13 x14 x15 : Option R} {ε : Ev} {d : D} {ds : List D} {ks : List (L2.Key × D)} {QE : R → Ev → Prop} : dNm 1 (x0 :: some (.fr d) :: ε) QE = QE (.fr d) (x0 :: some (.fr d) :: ε) := rfl
theorem nm1o {x0 x1 x2 x3 x4 x5 x6 x7 x8 x9 x10 x11 x12 x13 x14 x15 : Option R} {ε : Ev} {d : D} {ds : List D} {ks : List (L2.Key × D)} {QE : R → Ev → Prop} : dNm 1 (x0 :: some (.ow ds) :: ε) QE = QE (.fr (.lst ds)) (x0 :: some (.fr (.lst ds)) :: ε) := rfl
theorem nm1d {x0 x1 x2 x3 x4 x5 x6 x7 x8 x9 x10 x11 x12 x13 x14 x15 : Option R} {ε : Ev} {d : D} {ds : List D} {ks : List (L2.Key × D)} {QE : R → Ev → Prop} : dNm 1 (x0 :: some (.od ks) :: ε) QE = QE (.fr (.dct ks)) (x0 :: some (.fr (.dct ks)) :: ε) := rfl
theorem bo1f {x0 x1 x2 x3 x4 x5 x6 x7 x8 x9 x10 x11 x12 x13 x14 x15 : Option R} {ε : Ev} {d : D} {ds : List D} {ks : List (L2.Key × D)} {QE : R → Ev → Prop} : dBo 1 (x0 :: some (.fr d) :: ε) QE = QE (.fr d) (x0 :: some (.fr d) :: ε) := rfl
theorem bo1o {x0 x1 x2 x3 x4 x5 x6 x7 x8 x9 x10 x11 x12 x13 x14 x15 : Option R} {ε : Ev} {d : D} {ds : List D} {ks : List (L2.Key × D)} {QE : R → Ev → Prop} : dBo 1 (x0 :: some (.ow ds) :: ε) QE = QE (.bo ds) (x0 :: some (.ow ds) :: ε) := rfl
theorem bo1d {x0 x1 x2 x3 x4 x5 x6 x7 x8 x9 x10 x11 x12 x13 x14 x15 : Option R} {ε : Ev} {d : D} {ds : List D} {ks : List (L2.Key × D)} {QE : R → Ev → Prop} : dBo 1 (x0 :: some (.od ks) :: ε) QE = QE (.bd ks) (x0 :: some (.od ks) :: ε) := rfl
theorem mv1f {x0 x1 x2 x3 x4 x5 x6 x7 x8 x9 x10 x11 x12 x13 x14 x15 : Option R} {ε : Ev} {d : D} {ds : List D} {ks : List (L2.Key × D)} {QE : R → Ev → Prop} : dMv 1 (x0 :: some (.fr d) :: ε) QE = QE (.fr d) (x0 :: some (.fr d) :: ε) := rfl
theorem mv1o {x0 x1 x2 x3 x4 x5 x6 x7 x8 x9 x10 x11 x12 x13 x14 x15 : Option R} {ε : Ev} {d : D} {ds : List D} {ks : List (L2.Key × D)} {QE : R → Ev → Prop} : dMv 1 (x0 :: some (.ow ds) :: ε) QE = QE (.ow ds) (x0 :: none :: ε) := rfl
theorem mv1d {x0 x1 x2 x3 x4 x5 x6 x7 x8 x9 x10 x11 x12 x13 x14 x15 : Option R} {ε : Ev} {d : D} {ds : List D} {ks : List (L2.Key × D)} {QE : R → Ev → Prop} : dMv 1 (x0 :: some (.od ks) :: ε) QE = QE (.od ks) (x0 :: none :: ε) := rfl
theorem nm2f {x0 x1 x2 x3 x4 x5 x6 x7 x8 x9 x10 x11 x12 x13 x14 x15 : Option R} {ε : Ev} {d : D} {ds : List D} {ks : List (L2.Key × D)} {QE : R → Ev → Prop} : dNm 2 (x0 :: x1 :: some (.fr d) :: ε) QE = QE (.fr d) (x0 :: x1 :: some (.fr d) :: ε) := rfl
theorem nm2o {x0 x1 x2 x3 x4 x5 x6 x7 x8 x9 x10 x11 x12 x13 x14 x15 : Option R} {ε : Ev} {d : D} {ds : List D} {ks : List (L2.Key × D)} {QE : R → Ev → Prop} : dNm 2 (x0 :: x1 :: some (.ow ds) :: ε) QE = QE (.fr (.lst ds)) (x0 :: x1 :: some (.fr (.lst ds)) :: ε) := rfl
theorem nm2d {x0 x1 x2 x3 x4 x5 x6 x7 x8 x9 x10 x11 x12 x13 x14 x15 : Option R} {ε : Ev} {d : D} {ds : List D} {ks : List (L2.Key × D)} {QE : R → Ev → Prop} : dNm 2 (x0 :: x1 :: some (.od ks) :: ε) QE = QE (.fr (.dct ks)) (x0 :: x1 :: some (.fr (.dct ks)) :: ε) := rfl
theorem bo2f {x0 x1 x2 x3 x4 x5 x6 x7 x8 x9 x10 x11 x12 x13 x14 x15 : Option R} {ε : Ev} {d : D} {ds : List D} {ks : List (L2.Key × D)} {QE : R → Ev → Prop} : dBo 2 (x0 :: x1 :: some (.fr d) :: ε) QE = QE (.fr d) (x0 :: x1 :: some (.fr d) :: ε) := rfl
theorem bo2o {x0 x1 x2 x3 x4 x5 x6 x7 x8 x9 x10 x11 x12 x13 x14 x15 : Option R} {ε : Ev} {d : D} {ds : List D} {ks : List (L2.Key × D)} {QE : R → Ev → Prop} : dBo 2 (x0 :: x1 :: some (.ow ds) :: ε) QE = QE (.bo ds) (x0 :: x1 :: some (.ow ds) :: ε) := rfl
theorem bo2d {x0 x1 x2 x3 x4 x5 x6 x7 x8 x9 x10 x11 x12 x13 x14 x15 : Option R} {ε : Ev} {d : D} {ds : List D} {ks : List (L2.Key × D)} {QE : R → Ev → Prop} : dBo 2 (x0 :: x1 :: some (.od ks) :: ε) QE = QE (.bd ks) (x0 :: x1 :: some (.od ks) :: ε) := rfl
theorem mv2f {x0 x1 x2 x3 x4 x5 x6 x7 x8 x9 x10 x11 x12 x13 x14 x15 : Option R} {ε : Ev} {d : D} {ds : List D} {ks : List (L2.Key × D)} {QE : R → Ev → Prop} : dMv 2 (x0 :: x1 :: some (.fr d) :: ε) QE = QE (.fr d) (x0 :: x1 :: some (.fr d) :: ε) := rfl
theorem mv2o {x0 x1 x2 x3 x4 x5 x6 x7 x8 x9 x10 x11 x12 x13 x14 x15 : Option R} {ε : Ev} {d : D} {ds : List D} {ks : List (L2.Key × D)} {QE : R → Ev → Prop} : dMv 2 (x0 :: x1 :: some (.ow ds) :: ε) QE = QE (.ow ds) (x0 :: x1 :: none :: ε) := rfl
theorem mv2d {x0 x1 x2 x3 x4 x5 x6 x7 x8 x9 x10 x11 x12 x13 x14 x15 : Option R} {ε : Ev} {d : D} {ds : List D} {ks : List (L2.Key × D)} {QE : R → Ev → Prop} : dMv 2 (x0 :: x1 :: some (.od ks) :: ε) QE = QE (.od ks) (x0 :: x1 :: none :: ε) := rfl
theorem nm3f {x0 x1 x2 x3 x4 x5 x6 x7 x8 x9 x10 x11 x12 x13 x14 x15 : Option R} {ε : Ev} {d : D} {ds : List D} {ks : List (L2.Key × D)} {QE : R → Ev → Prop} : dNm 3 (x0 :: x1 :: x2 :: some (.fr d) :: ε) QE = QE (.fr d) (x0 :: x1 :: x2 :: some (.fr d) :: ε) := rfl
theorem nm3o {x0 x1 x2 x3 x4 x5 x6 x7 x8 x9 x10 x11 x12 x13 x14 x15 : Option R} {ε : Ev} {d : D} {ds : List D} {ks : List (L2.Key × D)} {QE : R → Ev → Prop} : dNm 3 (x0 :: x1 :: x2 :: some (.ow ds) :: ε) QE = QE (.fr (.lst ds)) (x0 :: x1 :: x2 :: some (.fr (.lst ds)) :: ε) := rfl
theorem nm3d {x0 x1 x2 x3 x4 x5 x6 x7 x8 x9 x10 x11 x12 x13 x14 x15 : Option R} {ε : Ev} {d : D} {ds : List D} {ks : List (L2.Key × D)} {QE : R → Ev → Prop} : dNm 3 (x0 :: x1 :: x2 :: some (.od ks) :: ε) QE = QE (.fr (.dct ks)) (x0 :: x1 :: x2 :: some (.fr (.dct ks)) :: ε) := rfl
theorem bo3f {x0 x1 x2 x3 x4 x5 x6 x7 x8 x9 x10 x11 x12 x13 x14 x15 : Option R} {ε : Ev} {d : D} {ds : List D} {ks : List (L2.Key × D)} {QE : R → Ev → Prop} : dBo 3 (x0 :: x1 :: x2 :: some (.fr d) :: ε) QE = QE (.fr d) (x0 :: x1 :: x2 :: some (.fr d) :: ε) := rfl
theorem bo3o {x0 x1 x2 x3 x4 x5 x6 x7 x8 x9 x10 x11 x12 x13 x14 x15 : Option R} {ε : Ev} {d : D} {ds : List D} {ks : List (L2.Key × D)} {QE : R → Ev → Prop} : dBo 3 (x0 :: x1 :: x2 :: some (.ow ds) :: ε) QE = QE (.bo ds) (x0 :: x1 :: x2 :: some (.ow ds) :: ε) := rfl
theorem bo3d {x0 x1 x2 x3 x4 x5 x6 x7 x8 x9 x10 x11 x12 x13 x14 x15 : Option R} {ε : Ev} {d : D} {ds : List D} {ks : List (L2.Key × D)} {QE : R → Ev → Prop} : dBo 3 (x0 :: x1 :: x2 :: some (.od ks) :: ε) QE = QE (.bd ks) (x0 :: x1 :: x2 :: some (.od ks) :: ε) := rfl
theorem mv3f {x0 x1 x2 x3 x4 x5 x6 x7 x8 x9 x10 x11 x12 x13 x14 x15 : Option R} {ε : Ev} {d : D} {ds : List D} {ks : List (L2.Key × D)} {QE : R → Ev → Prop} : dMv 3 (x0 :: x1 :: x2 :: some (.fr d) :: ε) QE = QE (.fr d) (x0 :: x1 :: x2 :: some (.fr d) :: ε) := rfl
theorem mv3o {x0 x1 x2 x3 x4 x5 x6 x7 x8 x9 x10 x11 x12 x13 x14 x15 : Option R} {ε : Ev} {d : D} {ds : List D} {ks : List (L2.Key × D)} {QE : R → Ev → Prop} : dMv 3 (x0 :: x1 :: x2 :: some (.ow ds) :: ε) QE = QE (.ow ds) (x0 :: x1 :: x2 :: none :: ε) := rfl
theorem mv3d {x0 x1 x2 x3 x4 x5 x6 x7 x8 x9 x10 x11 x12 x13 x14 x15 : Option R} {ε : Ev} {d : D} {ds : List D} {ks : List (L2.Key × D)} {QE : R → Ev → Prop} : dMv 3 (x0 :: x1 :: x2 :: some (.od ks) :: ε) QE = QE (.od ks) (x0 :: x1 :: x2 :: none :: ε) := rfl
theorem nm4f {x0 x1 x2 x3 x4 x5 x6 x7 x8 x9 x10 x11 x12 x13 x14 x15 : Option R} {ε : Ev} {d : D} {ds : List D} {ks : List (L2.Key × D)} {QE : R → Ev → Prop} : dNm 4 (x0 :: x1 :: x2 :: x3 :: some (.fr d) :: ε) QE = QE (.fr d) (x0 :: x1 :: x2 :: x3 :: some (.fr d) :: ε) := rfl
theorem nm4o {x0 x1 x2 x3 x4 x5 x6 x7 x8 x9 x10 x11 x12 x13 x14 x15 : Option R} {ε : Ev} {d : D} {ds : List D} {ks : List (L2.Key × D)} {QE : R → Ev → Prop} : dNm 4 (x0 :: x1 :: x2 :: x3 :: some (.ow ds) :: ε) QE = QE (.fr (.lst ds)) (x0 :: x1 :: x2 :: x3 :: some (.fr (.lst ds)) :: ε) := rfl
theorem nm4d {x0 x1 x2 x3 x4 x5 x6 x7 x8 x9 x10 x11 x12 x13 x14 x15 : Option R} {ε : Ev} {d : D} {ds : List D} {ks : List (L2.Key × D)} {QE : R → Ev → Prop} : dNm 4 (x0 :: x1 :: x2 :: x3 :: some (.od ks) :: ε) QE = QE (.fr (.dct ks)) (x0 :: x1 :: x2 :: x3 :: some (.fr (.dct ks)) :: ε) := rfl
theorem bo4f {x0 x1 x2 x3 x4 x5 x6 x7 x8 x9 x10 x11 x12 x13 x14 x15 : Option R} {ε : Ev} {d : D} {ds : List D} {ks : List (L2.Key × D)} {QE : R → Ev → Prop} : dBo 4 (x0 :: x1 :: x2 :: x3 :: some (.fr d) :: ε) QE = QE (.fr d) (x0 :: x1 :: x2 :: x3 :: some (.fr d) :: ε) := rfl
theorem bo4o {x0 x1 x2 x3 x4 x5 x6 x7 x8 x9 x10 x11 x12 x13 x14 x15 : Option R} {ε : Ev} {d : D} {ds : List D} {ks : List (L2.Key × D)} {QE : R → Ev → Prop} : dBo 4 (x0 :: x1 :: x2 :: x3 :: some (.ow ds) :: ε) QE = QE (.bo ds) (x0 :: x1 :: x2 :: x3 :: some (.ow ds) :: ε) := rfl
theorem bo4d {x0 x1 x2 x3 x4 x5 x6 x7 x8 x9 x10 x11 x12 x13 x14 x15 : Option R} {ε : Ev} {d : D} {ds : List D} {ks : List (L2.Key × D)} {QE : R → Ev → Prop} : dBo 4 (x0 :: x1 :: x2 :: x3 :: some (.od ks) :: ε) QE = QE (.bd ks) (x0 :: x1 :: x2 :: x3 :: some (.od ks) :: ε) := rfl
theorem mv4f {x0 x1 x2 x3 x4 x5 x6 x7 x8 x9 x10 x11 x12 x13 x14 x15 : Option R} {ε : Ev} {d : D} {ds : List D} {ks : List (L2.Key × D)} {QE : R → Ev → Prop} : dMv 4 (x0 :: x1 :: x2 :: x3 :: some (.fr d) :: ε) QE = QE (.fr d) (x0 :: x1 :: x2 :: x3 :: some (.fr d) :: ε) := rfl
theorem mv4o {x0 x1 x2 x3 x4 x5 x6 x7 x8 x9 x10 x11 x12 x13 x14 x15 : Option R} {ε : Ev} {d : D} {ds : List D} {ks : List (L2.Key × D)} {QE : R → Ev → Prop} : dMv 4 (x0 :: x1 :: x2 :: x3 :: some (.ow ds) :: ε) QE = QE (.ow ds) (x0 :: x1 :: x2 :: x3 :: none :: ε) := rfl
theorem mv4d {x0 x1 x2 x3 x4 x5 x6 x7 x8 x9 x10 x11 x12 x13 x14 x15 : Option R} {ε : Ev} {d : D} {ds : List D} {ks : List (L2.Key × D)} {QE : R → Ev → Prop} : dMv 4 (x0 :: x1 :: x2 :: x3 :: some (.od ks) :: ε) QE = QE (.od ks) (x0 :: x1 :: x2 :: x3 :: none :: ε) := rfl
theorem nm5f {x0 x1 x2 x3 x4 x5 x6 x7 x8 x9 x10 x11 x12 x13 x14 x15 : Option R} {ε : Ev} {d : D} {ds : List D} {ks : List (L2.Key × D)} {QE : R → Ev → Prop} : dNm 5 (x0 :: x1 :: x2 :: x3 :: x4 :: some (.fr d) :: ε) QE = QE (.fr d) (x0 :: x1 :: x2 :: x3 :: x4 :: some (.fr d) :: ε) := rfl
theorem nm5o {x0 x1 x2 x3 x4 x5 x6 x7 x8 x9 x10 x11 x12 x13 x14 x15 : Option R} {ε : Ev} {d : D} {ds : List D} {ks : List (L2.Key × D)} {QE : R → Ev → Prop} : dNm 5 (x0 :: x1 :: x2 :: x3 :: x4 :: some (.ow ds) :: ε) QE = QE (.fr (.lst ds)) (x0 :: x1 :: x2 :: x3 :: x4 :: some (.fr (.lst ds)) :: ε) := rfl
theorem nm5d {x0 x1 x2 x3 x4 x5 x6 x7 x8 x9 x10 x11 x12 x13 x14 x15 : Option R} {ε : Ev} {d : D} {ds : List D} {ks : List (L2.Key × D)} {QE : R → Ev → Prop} : dNm 5 (x0 :: x1 :: x2 :: x3 :: x4 :: some (.od ks) :: ε) QE = QE (.fr (.dct ks)) (x0 :: x1 :: x2 :: x3 :: x4 :: some (.fr (.dct ks)) :: ε) := rfl
theorem bo5f {x0 x1 x2 x3 x4 x5 x6 x7 x8 x9 x10 x11 x12 x13 x14 x15 : Option R} {ε : Ev} {d : D} {ds : List D} {ks : List (L2.Key × D)} {QE : R → Ev → Prop} : dBo 5 (x0 :: x1 :: x2 :: x3 :: x4 :: some (.fr d) :: ε) QE = QE (.fr d) (x0 :: x1 :: x2 :: x3 :: x4 :: some (.fr d) :: ε) := rfl
theorem bo5o {x0 x1 x2 x3 x4 x5 x6 x7 x8 x9 x10 x11 x12 x13 x14 x15 : Option R} {ε : Ev} {d : D} {ds : List D} {ks : List (L2.Key × D)} {QE : R → Ev → Prop} : dBo 5 (x0 :: x1 :: x2 :: x3 :: x4 :: some (.ow ds) :: ε) QE = QE (.bo ds) (x0 :: x1 :: x2 :: x3 :: x4 :: some (.ow ds) :: ε) := rfl
theorem bo5d {x0 x1 x2 x3 x4 x5 x6 x7 x8 x9 x10 x11 x12 x13 x14 x15 : Option R} {ε : Ev} {d : D} {ds : List D} {ks : List (L2.Key × D)} {QE : R → Ev → Prop} : dBo 5 (x0 :: x1 :: x2 :: x3 :: x4 :: some (.od ks) :: ε) QE = QE (.bd ks) (x0 :: x1 :: x2 :: x3 :: x4 :: some (.od ks) :: ε) := rfl
theorem mv5f {x0 x1 x2 x3 x4 x5 x6 x7 x8 x9 x10 x11 x12 x13 x14 x15 : Option R} {ε : Ev} {d : D} {ds : List D} {ks : List (L2.Key × D)} {QE : R → Ev → Prop} : dMv 5 (x0 :: x1 :: x2 :: x3 :: x4 :: some (.fr d) :: ε) QE = QE (.fr d) (x0 :: x1 :: x2 :: x3 :: x4 :: some (.fr d) :: ε) := rfl
theorem mv5o {x0 x1 x2 x3 x4 x5 x6 x7 x8 x9 x10 x11 x12 x13 x14 x15 : Option R} {ε : Ev} {d : D} {ds : List D} {ks : List (L2.Key × D)} {QE : R → Ev → Prop} : dMv 5 (x0 :: x1 :: x2 :: x3 :: x4 :: some (.ow ds) :: ε) QE = QE (.ow ds) (x0 :: x1 :: x2 :: x3 :: x4 :: none :: ε) := rfl
theorem mv5d {x0 x1 x2 x3 x4 x5 x6 x7 x8 x9 x10 x11 x12 x13 x14 x15 : Option R} {ε : Ev} {d : D} {ds : List D} {ks : List (L2.Key × D)} {QE : R → Ev → Prop} : dMv 5 (x0 :: x1 :: x2 :: x3 :: x4 :: some (.od ks) :: ε) QE = QE (.od ks) (x0 :: x1 :: x2 :: x3 :: x4 :: none :: ε) := rfl
theorem nm6f {x0 x1 x2 x3 x4 x5 x6 x7 x8 x9 x10 x11 x12 x13 x14 x15 : Option R} {ε : Ev} {d : D} {ds : List D} {ks : List (L2.Key × D)} {QE : R → Ev → Prop} : dNm 6 (x0 :: x1 :: x2 :: x3 :: x4 :: x5 :: some (.fr d) :: ε) QE = QE (.fr d) (x0 :: x1 :: x2 :: x3 :: x4 :: x5 :: some (.fr d) :: ε) := rfl
theorem nm6o {x0 x1 x2 x3 x4 x5 x6 x7 x8 x9 x10 x11 x12 x13 x14 x15 : Option R} {ε : Ev} {d : D} {ds : List D} {ks : List (L2.Key × D)} {QE : R → Ev → Prop} : dNm 6 (x0 :: x1 :: x2 :: x3 :: x4 :: x5 :: some (.ow ds) :: ε) QE = QE (.fr (.lst ds)) (x0 :: x1 :: x2 :: x3 :: x4 :: x5 :: some (.fr (.lst ds)) :: ε) := rfl
theorem nm6d {x0 x1 x2 x3 x4 x5 x6 x7 x8 x9 x10 x11 x12 x13 x14 x15 : Option R} {ε : Ev} {d : D} {ds : List D} {ks : List (L2.Key × D)} {QE : R → Ev → Prop} : dNm 6 (x0 :: x1 :: x2 :: x3 :: x4 :: x5 :: some (.od ks) :: ε) QE = QE (.fr (.dct ks)) (x0 :: x1 :: x2 :: x3 :: x4 :: x5 :: some (.fr (.dct ks)) :: ε) := rfl
theorem bo6f {x0 x1 x2 x3 x4 x5 x6 x7 x8 x9 x10 x11 x12 x13 x14 x15 : Option R} {ε : Ev} {d : D} {ds : List D} {ks : List (L2.Key × D)} {QE : R → Ev → Prop} : dBo 6 (x0 :: x1 :: x2 :: x3 :: x4 :: x5 :: some (.fr d) :: ε) QE = QE (.fr d) (x0 :: x1 :: x2 :: x3 :: x4 :: x5 :: some (.fr d) :: ε) := rfl
theorem bo6o {x0 x1 x2 x3 x4 x5 x6 x7 x8 x9 x10 x11 x12 x13 x14 x15 : Option R} {ε : Ev} {d : D} {ds : List D} {ks : List (L2.Key × D)} {QE : R → Ev → Prop} : dBo 6 (x0 :: x1 :: x2 :: x3 :: x4 :: x5 :: some (.ow ds) :: ε) QE = QE (.bo ds) (x0 :: x1 :: x2 :: x3 :: x4 :: x5 :: some (.ow ds) :: ε) := rfl
theorem bo6d {x0 x1 x2 x3 x4 x5 x6 x7 x8 x9 x10 x11 x12 x13 x14 x15 : Option R} {ε : Ev} {d : D} {ds : List D} {ks : List (L2.Key × D)} {QE : R → Ev → Prop} : dBo 6 (x0 :: x1 :: x2 :: x3 :: x4 :: x5 :: some (.od ks) :: ε) QE = QE (.bd ks) (x0 :: x1 :: x2 :: x3 :: x4 :: x5 :: some (.od ks) :: ε) := rfl
theorem mv6f {x0 x1 x2 x3 x4 x5 x6 x7 x8 x9 x10 x11 x12 x13 x14 x15 : Option R} {ε : Ev} {d : D} {ds : List D} {ks : List (L2.Key × D)} {QE : R → Ev → Prop} : dMv 6 (x0 :: x1 :: x2 :: x3 :: x4 :: x5 :: some (.fr d) :: ε) QE = QE (.fr d) (x0 :: x1 :: x2 :: x3 :: x4 :: x5 :: some (.fr d) :: ε) := rfl
theorem mv6o {x0 x1 x2 x3 x4 x5 x6 x7 x8 x9 x10 x11 x12 x13 x14 x15 : Option R} {ε : Ev} {d : D} {ds : List D} {ks : List (L2.Key × D)} {QE : R → Ev → Prop} : dMv 6 (x0 :: x1 :: x2 :: x3 :: x4 :: x5 :: some (.ow ds) :: ε) QE = QE (.ow ds) (x0 :: x1 :: x2 :: x3 :: x4 :: x5 :: none :: ε) := rfl
theorem mv6d {x0 x1 x2 x3 x4 x5 x6 x7 x8 x9 x10 x11 x12 x13 x14 x15 : Option R} {ε : Ev} {d : D} {ds : List D} {ks : List (L2.Key × D)} {QE : R → Ev → Prop} : dMv 6 (x0 :: x1 :: x2 :: x3 :: x4 :: x5 :: some (.od ks) :: ε) QE = QE (.od ks) (x0 :: x1 :: x2 :: x3 :: x4 :: x5 :: none :: ε) := rfl
theorem nm7f {x0 x1 x2 x3 x4 x5 x6 x7 x8 x9 x10 x11 x12 x13 x14 x15 : Option R} {ε : Ev} {d : D} {ds : List D} {ks : List (L2.Key × D)} {QE : R → Ev → Prop} : dNm 7 (x0 :: x1 :: x2 :: x3 :: x4 :: x5 :: x6 :: some (.fr d) :: ε) QE = QE (.fr d) (x0 :: x1 :: x2 :: x3 :: x4 :: x5 :: x6 :: some (.fr d) :: ε) := rfl
theorem nm7o {x0 x1 x2 x3 x4 x5 x6 x7 x8 x9 x10 x11 x12 x13 x14 x15 : Option R} {ε : Ev} {d : D} {ds : List D} {ks : List (L2.Key × D)} {QE : R → Ev → Prop} : dNm 7 (x0 :: x1 :: x2 :: x3 :: x4 :: x5 :: x6 :: some (.ow ds) :: ε) QE = QE (.fr (.lst ds)) (x0 :: x1 :: x2 :: x3 :: x4 :: x5 :: x6 :: some (.fr (.lst ds)) :: ε) := rfl
theorem nm7d {x0 x1 x2 x3 x4 x5 x6 x7 x8 x9 x10 x11 x12 x13 x14 x15 : Option R} {ε : Ev} {d : D} {ds : List D} {ks : List (L2.Key × D)} {QE : R → Ev → Prop} : dNm 7 (x0 :: x1 :: x2 :: x3 :: x4 :: x5 :: x6 :: some (.od ks) :: ε) QE = QE (.fr (.dct ks)) (x0 :: x1 :: x2 :: x3 :: x4 :: x5 :: x6 :: some (.fr (.dct ks)) :: ε) := rfl
theorem bo7f {x0 x1 x2 x3 x4 x5 x6 x7 x8 x9 x10 x11 x12 x13 x14 x15 : Option R} {ε : Ev} {d : D} {ds : List D} {ks : List (L2.Key × D)} {QE : R → Ev → Prop} : dBo 7 (x0 :: x1 :: x2 :: x3 :: x4 :: x5 :: x6 :: some (.fr d) :: ε) QE = QE (.fr d) (x0 :: x1 :: x2 :: x3 :: x4 :: x5 :: x6 :: some (.fr d) :: ε) := rfl
theorem bo7o {x0 x1 x2 x3 x4 x5 x6 x7 x8 x9 x10 x11 x12 x13 x14 x15 : Option R} {ε : Ev} {d : D} {ds : List D} {ks : List (L2.Key × D)} {QE : R → Ev → Prop} : dBo 7 (x0 :: x1 :: x2 :: x3 :: x4 :: x5 :: x6 :: some (.ow ds) :: ε) QE = QE (.bo ds) (x0 :: x1 :: x2 :: x3 :: x4 :: x5 :: x6 :: some (.ow ds) :: ε) := rfl
theorem bo7d {x0 x1 x2 x3 x4 x5 x6 x7 x8 x9 x10 x11 x12 x13 x14 x15 : Option R} {ε : Ev} {d : D} {ds : List D} {ks : List (L2.Key × D)} {QE : R → Ev → Prop} : dBo 7 (x0 :: x1 :: x2 :: x3 :: x4 :: x5 :: x6 :: some (.od ks) :: ε) QE = QE (.bd ks) (x0 :: x1 :: x2 :: x3 :: x4 :: x5 :: x6 :: some (.od ks) :: ε) := rfl
theorem mv7f {x0 x1 x2 x3 x4 x5 x6 x7 x8 x9 x10 x11 x12 x13 x14 x15 : Option R} {ε : Ev} {d : D} {ds : List D} {ks : List (L2.Key × D)} {QE : R → Ev → Prop} : dMv 7 (x0 :: x1 :: x2 :: x3 :: x4 :: x5 :: x6 :: some (.fr d) :: ε) QE = QE (.fr d) (x0 :: x1 :: x2 :: x3 :: x4 :: x5 :: x6 :: some (.fr d) :: ε) := rfl
theorem mv7o {x0 x1 x2 x3 x4 x5 x6 x7 x8 x9 x10 x11 x12 x13 x14 x15 : Option R} {ε : Ev} {d : D} {ds : List D} {ks : List (L2.Key × D)} {QE : R → Ev → Prop} : dMv 7 (x0 :: x1 :: x2 :: x3 :: x4 :: x5 :: x6 :: some (.ow ds) :: ε) QE = QE (.ow ds) (x0 :: x1 :: x2 :: x3 :: x4 :: x5 :: x6 :: none :: ε) := rfl
theorem mv7d {x0 x1 x2 x3 x4 x5 x6 x7 x8 x9 x10 x11 x12 x13 x14 x15 : Option R} {ε : Ev} {d : D} {ds : List D} {ks : List (L2.Key × D)} {QE : R → Ev → Prop} : dMv 7 (x0 :: x1 :: x2 :: x3 :: x4 :: x5 :: x6 :: some (.od ks) :: ε) QE = QE (.od ks) (x0 :: x1 :: x2 :: x3 :: x4 :: x5 :: x6 :: none :: ε) := rfl
theorem nm8f {x0 x1 x2 x3 x4 x5 x6 x7 x8 x9 x10 x11 x12 x13 x14 x15 : Option R} {ε : Ev} {d : D} {ds : List D} {ks : List (L2.Key × D)} {QE : R → Ev → Prop} : dNm 8 (x0 :: x1 :: x2 :: x3 :: x4 :: x5 :: x6 :: x7 :: some (.fr d) :: ε) QE = QE (.fr d) (x0 :: x1 :: x2 :: x3 :: x4 :: x5 :: x6 :: x7 :: some (.fr d) :: ε) := rfl
theorem nm8o {x0 x1 x2 x3 x4 x5 x6 x7 x8 x9 x10 x11 x12 x13 x14 x15 : Option R} {ε : Ev} {d : D} {ds : List D} {ks : List (L2.Key × D)} {QE : R → Ev → Prop} : dNm 8 (x0 :: x1 :: x2 :: x3 :: x4 :: x5 :: x6 :: x7 :: some (.ow ds) :: ε) QE = QE (.fr (.lst ds)) (x0 :: x1 :: x2 :: x3 :: x4 :: x5 :: x6 :: x7 :: some (.fr (.lst ds)) :: ε) := rfl
theorem nm8d {x0 x1 x2 x3 x4 x5 x6 x7 x8 x9 x10 x11 x12 x13 x14 x15 : Option R} {ε : Ev} {d : D} {ds : List D} {ks : List (L2.Key × D)} {QE : R → Ev → Prop} : dNm 8 (x0 :: x1 :: x2 :: x3 :: x4 :: x5 :: x6 :: x7 :: some (.od ks) :: ε) QE = QE (.fr (.dct ks)) (x0 :: x1 :: x2 :: x3 :: x4 :: x5 :: x6 :: x7 :: some (.fr (.dct ks)) :: ε) := rfl
theorem bo8f {x0 x1 x2 x3 x4 x5 x6 x7 x8 x9 x10 x11 x12 x13 x14 x15 : Option R} {ε : Ev} {d : D} {ds : List D} {ks : List (L2.Key × D)} {QE : R → Ev → Prop} : dBo 8 (x0 :: x1 :: x2 :: x3 :: x4 :: x5 :: x6 :: x7 :: some (.fr d) :: ε) QE = QE (.fr d) (x0 :: x1 :: x2 :: x3 :: x4 :: x5 :: x6 :: x7 :: some (.fr d) :: ε) := rfl
theorem bo8o {x0 x1 x2 x3 x4 x5 x6 x7 x8 x9 x10 x11 x12 x13 x14 x15 : Option R} {ε : Ev} {d : D} {ds : List D} {ks : List (L2.Key × D)} {QE : R → Ev → Prop} : dBo 8 (x0 :: x1 :: x2 :: x3 :: x4 :: x5 :: x6 :: x7 :: some (.ow ds) :: ε) QE = QE (.bo ds) (x0 :: x1 :: x2 :: x3 :: x4 :: x5 :: x6 :: x7 :: some (.ow ds) :: ε) := rfl
theorem bo8d {x0 x1 x2 x3 x4 x5 x6 x7 x8 x9 x10 x11 x12 x13 x14 x15 : Option R} {ε : Ev} {d : D} {ds : List D} {ks : List (L2.Key × D)} {QE : R → Ev → Prop} : dBo 8 (x0 :: x1 :: x2 :: x3 :: x4 :: x5 :: x6 :: x7 :: some (.od ks) :: ε) QE = QE (.bd ks) (x0 :: x1 :: x2 :: x3 :: x4 :: x5 :: x6 :: x7 :: some (.od ks) :: ε) := rfl
theorem mv8f {x0 x1 x2 x3 x4 x5 x6 x7 x8 x9 x10 x11 x12 x13 x14 x15 : Option R} {ε : Ev} {d : D} {ds : List D} {ks : List (L2.Key × D)} {QE : R → Ev → Prop} : dMv 8 (x0 :: x1 :: x2 :: x3 :: x4 :: x5 :: x6 :: x7 :: some (.fr d) :: ε) QE = QE (.fr d) (x0 :: x1 :: x2 :: x3 :: x4 :: x5 :: x6 :: x7 :: some (.fr d) :: ε) := rfl
theorem mv8o {x0 x1 x2 x3 x4 x5 x6 x7 x8 x9 x10 x11 x12 x13 x14 x15 : Option R} {ε : Ev} {d : D} {ds : List D} {ks : List (L2.Key × D)} {QE : R → Ev → Prop} : dMv 8 (x0 :: x1 :: x2 :: x3 :: x4 :: x5 :: x6 :: x7 :: some (.ow ds) :: ε) QE = QE (.ow ds) (x0 :: x1 :: x2 :: x3 :: x4 :: x5 :: x6 :: x7 :: none :: ε) := rfl
theorem mv8d {x0 x1 x2 x3 x4 x5 x6 x7 x8 x9 x10 x11 x12 x13 x14 x15 : Option R} {ε : Ev} {d : D} {ds : List D} {ks : List (L2.Key × D)} {QE : R → Ev → Prop} : dMv 8 (x0 :: x1 :: x2 :: x3 :: x4 :: x5 :: x6 :: x7 :: some (.od ks) :: ε) QE = QE (.od ks) (x0 :: x1 :: x2 :: x3 :: x4 :: x5 :: x6 :: x7 :: none :: ε) := rfl
theorem nm9f {x0 x1 x2 x3 x4 x5 x6 x7 x8 x9 x10 x11 x12 x13 x14 x15 : Option R} {ε : Ev} {d : D} {ds : List D} {ks : List (L2.Key × D)} {QE : R → Ev → Prop} : dNm 9 (x0 :: x1 :: x2 :: x3 :: x4 :: x5 :: x6 :: x7 :: x8 :: some (.fr d) :: ε) QE = QE (.fr d) (x0 :: x1 :: x2 :: x3 :: x4 :: x5 :: x6 :: x7 :: x8 :: some (.fr d) :: ε) := rfl
theorem nm9o {x0 x1 x2 x3 x4 x5 x6 x7 x8 x9 x10 x11 x12 x13 x14 x15 : Option R} {ε : Ev} {d : D} {ds : List D} {ks : List (L2.Key × D)} {QE : R → Ev → Prop} : dNm 9 (x0 :: x1 :: x2 :: x3 :: x4 :: x5 :: x6 :: x7 :: x8 :: some (.ow ds) :: ε) QE = QE (.fr (.lst ds)) (x0 :: x1 :: x2 :: x3 :: x4 :: x5 :: x6 :: x7 :: x8 :: some (.fr (.lst ds)) :: ε) := rfl
theorem nm9d {x0 x1 x2 x3 x4 x5 x6 x7 x8 x9 x10 x11 x12 x13 x14 x15 : Option R} {ε : Ev} {d : D} {ds : List D} {ks : List (L2.Key × D)} {QE : R → Ev → Prop} : dNm 9 (x0 :: x1 :: x2 :: x3 :: x4 :: x5 :: x6 :: x7 :: x8 :: some (.od ks) :: ε) QE = QE (.fr (.dct ks)) (x0 :: x1 :: x2 :: x3 :: x4 :: x5 :: x6 :: x7 :: x8 :: some (.fr (.dct ks)) :: ε) := rfl
theorem bo9f {x0 x1 x2 x3 x4 x5 x6 x7 x8 x9 x10 x11 x12 x13 x14 x15 : Option R} {ε : Ev} {d : D} {ds : List D} {ks : List (L2.Key × D)} {QE : R → Ev → Prop} : dBo 9 (x0 :: x1 :: x2 :: x3 :: x4 :: x5 :: x6 :: x7 :: x8 :: some (.fr d) :: ε) QE = QE (.fr d) (x0 :: x1 :: x2 :: x3 :: x4 :: x5 :: x6 :: x7 :: x8 :: some (.fr d) :: ε) := rfl
theorem bo9o {x0 x1 x2 x3 x4 x5 x6 x7 x8 x9 x10 x11 x12 x13 x14 x15 : Option R} {ε : Ev} {d : D} {ds : List D} {ks : List (L2.Key × D)} {QE : R → Ev → Prop} : dBo 9 (x0 :: x1 :: x2 :: x3 :: x4 :: x5 :: x6 :: x7 :: x8 :: some (.ow ds) :: ε) QE = QE (.bo ds) (x0 :: x1 :: x2 :: x3 :: x4 :: x5 :: x6 :: x7 :: x8 :: some (.ow ds) :: ε) := rfl
theorem bo9d {x0 x1 x2 x3 x4 x5 x6 x7 x8 x9 x10 x11 x12 x13 x14 x15 : Option R} {ε : Ev} {d : D} {ds : List D} {ks : List (L2.Key × D)} {QE : R → Ev → Prop} : dBo 9 (x0 :: x1 :: x2 :: x3 :: x4 :: x5 :: x6 :: x7 :: x8 :: some (.od ks) :: ε) QE = QE (.bd ks) (x0 :: x1 :: x2 :: x3 :: x4 :: x5 :: x6 :: x7 :: x8 :: some (.od ks) :: ε) := rfl
theorem mv9f {x0 x1 x2 x3 x4 x5 x6 x7 x8 x9 x10 x11 x12 x13 x14 x15 : Option R} {ε : Ev} {d : D} {ds : List D} {ks : List (L2.Key × D)} {QE : R → Ev → Prop} : dMv 9 (x0 :: x1 :: x2 :: x3 :: x4 :: x5 :: x6 :: x7 :: x8 :: some (.fr d) :: ε) QE = QE (.fr d) (x0 :: x1 :: x2 :: x3 :: x4 :: x5 :: x6 :: x7 :: x8 :: some (.fr d) :: ε) := rfl
theorem mv9o {x0 x1 x2 x3 x4 x5 x6 x7 x8 x9 x10 x11 x12 x13 x14 x15 : Option R} {ε : Ev} {d : D} {ds : List D} {ks : List (L2.Key × D)} {QE : R → Ev → Prop} : dMv 9 (x0 :: x1 :: x2 :: x3 :: x4 :: x5 :: x6 :: x7 :: x8 :: some (.ow ds) :: ε) QE = QE (.ow ds) (x0 :: x1 :: x2 :: x3 :: x4 :: x5 :: x6 :: x7 :: x8 :: none :: ε) := rfl
theorem mv9d {x0 x1 x2 x3 x4 x5 x6 x7 x8 x9 x10 x11 x12 x13 x14 x15 : Option R} {ε : Ev} {d : D} {ds : List D} {ks : List (L2.Key × D)} {QE : R → Ev → Prop} : dMv 9 (x0 :: x1 :: x2 :: x3 :: x4 :: x5 :: x6 :: x7 :: x8 :: some (.od ks) :: ε) QE = QE (.od ks) (x0 :: x1 :: x2 :: x3 :: x4 :: x5 :: x6 :: x7 :: x8 :: none :: ε) := rfl
theorem nm10f {x0 x1 x2 x3 x4 x5 x6 x7 x8 x9 x10 x11 x12 x13 x14 x15 : Option R} {ε : Ev} {d : D} {ds : List D} {ks : List (L2.Key × D)} {QE : R → Ev → Prop} : dNm 10 (x0 :: x1 :: x2 :: x3 :: x4 :: x5 :: x6 :: x7 :: x8 :: x9 :: some (.fr d) :: ε) QE = QE (.fr d) (x0 :: x1 :: x2 :: x3 :: x4 :: x5 :: x6 :: x7 :: x8 :: x9 :: some (.fr d) :: ε) := rfl
theorem nm10o {x0 x1 x2 x3 x4 x5 x6 x7 x8 x9 x10 x11 x12 x13 x14 x15 : Option R} {ε : Ev} {d : D} {ds : List D} {ks : List (L2.Key × D)} {QE : R → Ev → Prop} : dNm 10 (x0 :: x1 :: x2 :: x3 :: x4 :: x5 :: x6 :: x7 :: x8 :: x9 :: some (.ow ds) :: ε) QE = QE (.fr (.lst ds)) (x0 :: x1 :: x2 :: x3 :: x4 :: x5 :: x6 :: x7 :: x8 :: x9 :: some (.fr (.lst ds)) :: ε) := rfl
theorem nm10d {x0 x1 x2 x3 x4 x5 x6 x7 x8 x9 x10 x11 x12 x13 x14 x15 : Option R} {ε : Ev} {d : D} {ds : List D} {ks : List (L2.Key × D)} {QE : R → Ev → Prop} : dNm 10 (x0 :: x1 :: x2 :: x3 :: x4 :: x5 :: x6 :: x7 :: x8 :: x9 :: some (.od ks) :: ε) QE = QE (.fr (.dct ks)) (x0 :: x1 :: x2 :: x3 :: x4 :: x5 :: x6 :: x7 :: x8 :: x9 :: some (.fr (.dct ks)) :: ε) := rfl
theorem bo10f {x0 x1 x2 x3 x4 x5 x6 x7 x8 x9 x10 x11 x12 x13 x14 x15 : Option R} {ε : Ev} {d : D} {ds : List D} {ks : List (L2.Key × D)} {QE : R → Ev → Prop} : dBo 10 (x0 :: x1 :: x2 :: x3 :: x4 :: x5 :: x6 :: x7 :: x8 :: x9 :: some (.fr d) :: ε) QE = QE (.fr d) (x0 :: x1 :: x2 :: x3 :: x4 :: x5 :: x6 :: x7 :: x8 :: x9 :: some (.fr d) :: ε) := rfl
theorem bo10o {x0 x1 x2 x3 x4 x5 x6 x7 x8 x9 x10 x11 x12 x13 x14 x15 : Option R} {ε : Ev} {d : D} {ds : List D} {ks : List (L2.Key × D)} {QE : R → Ev → Prop} : dBo 10 (x0 :: x1 :: x2 :: x3 :: x4 :: x5 :: x6 :: x7 :: x8 :: x9 :: some (.ow ds) :: ε) QE = QE (.bo ds) (x0 :: x1 :: x2 :: x3 :: x4 :: x5 :: x6 :: x7 :: x8 :: x9 :: some (.ow ds) :: ε) := rfl
theorem bo10d {x0 x1 x2 x3 x4 x5 x6 x7 x8 x9 x10 x11 x12 x13 x14 x15 : Option R} {ε : Ev} {d : D} {ds : List D} {ks : List (L2.Key × D)} {QE : R → Ev → Prop} : dBo 10 (x0 :: x1 :: x2 :: x3 :: x4 :: x5 :: x6 :: x7 :: x8 :: x9 :: some (.od ks) :: ε) QE = QE (.bd ks) (x0 :: x1 :: x2 :: x3 :: x4 :: x5 :: x6 :: x7 :: x8 :: x9 :: some (.od ks) :: ε) := rfl
theorem mv10f {x0 x1 x2 x3 x4 x5 x6 x7 x8 x9 x10 x11 x12 x13 x14 x15 : Option R} {ε : Ev} {d : D} {ds : List D} {ks : List (L2.Key × D)} {QE : R → Ev → Prop} : dMv 10 (x0 :: x1 :: x2 :: x3 :: x4 :: x5 :: x6 :: x7 :: x8 :: x9 :: some (.fr d) :: ε) QE = QE (.fr d) (x0 :: x1 :: x2 :: x3 :: x4 :: x5 :: x6 :: x7 :: x8 :: x9 :: some (.fr d) :: ε) := rfl
theorem mv10o {x0 x1 x2 x3 x4 x5 x6 x7 x8 x9 x10 x11 x12 x13 x14 x15 : Option R} {ε : Ev} {d : D} {ds : List D} {ks : List (L2.Key × D)} {QE : R → Ev → Prop} : dMv 10 (x0 :: x1 :: x2 :: x3 :: x4 :: x5 :: x6 :: x7 :: x8 :: x9 :: some (.ow ds) :: ε) QE = QE (.ow ds) (x0 :: x1 :: x2 :: x3 :: x4 :: x5 :: x6 :: x7 :: x8 :: x9 :: none :: ε) := rfl
theorem mv10d {x0 x1 x2 x3 x4 x5 x6 x7 x8 x9 x10 x11 x12 x13 x14 x15 : Option R} {ε : Ev} {d : D} {ds : List D} {ks : List (L2.Key × D)} {QE : R → Ev → Prop} : dMv 10 (x0 :: x1 :: x2 :: x3 :: x4 :: x5 :: x6 :: x7 :: x8 :: x9 :: some (.od ks) :: ε) QE = QE (.od ks) (x0 :: x1 :: x2 :: x3 :: x4 :: x5 :: x6 :: x7 :: x8 :: x9 :: none :: ε) := rfl
theorem nm11f {x0 x1 x2 x3 x4 x5 x6 x7 x8 x9 x10 x11 x12 x13 x14 x15 : Option R} {ε : Ev} {d : D} {ds : List D} {ks : List (L2.Key × D)} {QE : R → Ev → Prop} : dNm 11 (x0 :: x1 :: x2 :: x3 :: x4 :: x5 :: x6 :: x7 :: x8 :: x9 :: x10 :: some (.fr d) :: ε) QE = QE (.fr d) (x0 :: x1 :: x2 :: x3 :: x4 :: x5 :: x6 :: x7 :: x8 :: x9 :: x10 :: some (.fr d) :: ε) := rfl
theorem nm11o {x0 x1 x2 x3 x4 x5 x6 x7 x8 x9 x10 x11 x12 x13 x14 x15 : Option R} {ε : Ev} {d : D} {ds : List D} {ks : List (L2.Key × D)} {QE : R → Ev → Prop} : dNm 11 (x0 :: x1 :: x2 :: x3 :: x4 :: x5 :: x6 :: x7 :: x8 :: x9 :: x10 :: some (.ow ds) :: ε) QE = QE (.fr (.lst ds)) (x0 :: x1 :: x2 :: x3 :: x4 :: x5 :: x6 :: x7 :: x8 :: x9 :: x10 :: some (.fr (.lst ds)) :: ε) := rfl
theorem nm11d {x0 x1 x2 x3 x4 x5 x6 x7 x8 x9 x10 x11 x12 x13 x14 x15 : Option R} {ε : Ev} {d : D} {ds : List D} {ks : List (L2.Key × D)} {QE : R → Ev → Prop} : dNm 11 (x0 :: x1 :: x2 :: x3 :: x4 :: x5 :: x6 :: x7 :: x8 :: x9 :: x10 :: some (.od ks) :: ε) QE = QE (.fr (.dct ks)) (x0 :: x1 :: x2 :: x3 :: x4 :: x5 :: x6 :: x7 :: x8 :: x9 :: x10 :: some (.fr (.dct ks)) :: ε) := rfl
theorem bo11f {x0 x1 x2 x3 x4 x5 x6 x7 x8 x9 x10 x11 x12 x13 x14 x15 : Option R} {ε : Ev} {d : D} {ds : List D} {ks : List (L2.Key × D)} {QE : R → Ev → Prop} : dBo 11 (x0 :: x1 :: x2 :: x3 :: x4 :: x5 :: x6 :: x7 :: x8 :: x9 :: x10 :: some (.fr d) :: ε) QE = QE (.fr d) (x0 :: x1 :: x2 :: x3 :: x4 :: x5 :: x6 :: x7 :: x8 :: x9 :: x10 :: some (.fr d) :: ε) := rfl
theorem bo11o {x0 x1 x2 x3 x4 x5 x6 x7 x8 x9 x10 x11 x12 x13 x14 x15 : Option R} {ε : Ev} {d : D} {ds : List D} {ks : List (L2.Key × D)} {QE : R → Ev → Prop} : dBo 11 (x0 :: x1 :: x2 :: x3 :: x4 :: x5 :: x6 :: x7 :: x8 :: x9 :: x10 :: some (.ow ds) :: ε) QE = QE (.bo ds) (x0 :: x1 :: x2 :: x3 :: x4 :: x5 :: x6 :: x7 :: x8 :: x9 :: x10 :: some (.ow ds) :: ε) := rfl
theorem bo11d {x0 x1 x2 x3 x4 x5 x6 x7 x8 x9 x10 x11 x12 x13 x14 x15 : Option R} {ε : Ev} {d : D} {ds : List D} {ks : List (L2.Key × D)} {QE : R → Ev → Prop} : dBo 11 (x0 :: x1 :: x2 :: x3 :: x4 :: x5 :: x6 :: x7 :: x8 :: x9 :: x10 :: some (.od ks) :: ε) QE = QE (.bd ks) (x0 :: x1 :: x2 :: x3 :: x4 :: x5 :: x6 :: x7 :: x8 :: x9 :: x10 :: some (.od ks) :: ε) := rfl
theorem mv11f {x0 x1 x2 x3 x4 x5 x6 x7 x8 x9 x10 x11 x12 x13 x14 x15 : Option R} {ε : Ev} {d : D} {ds : List D} {ks : List (L2.Key × D)} {QE : R → Ev → Prop} : dMv 11 (x0 :: x1 :: x2 :: x3 :: x4 :: x5 :: x6 :: x7 :: x8 :: x9 :: x10 :: some (.fr d) :: ε) QE = QE (.fr d) (x0 :: x1 :: x2 :: x3 :: x4 :: x5 :: x6 :: x7 :: x8 :: x9 :: x10 :: some (.fr d) :: ε) := rfl
theorem mv11o {x0 x1 x2 x3 x4 x5 x6 x7 x8 x9 x10 x11 x12 x13 x14 x15 : Option R} {ε : Ev} {d : D} {ds : List D} {ks : List (L2.Key × D)} {QE : R → Ev → Prop} : dMv 11 (x0 :: x1 :: x2 :: x3 :: x4 :: x5 :: x6 :: x7 :: x8 :: x9 :: x10 :: some (.ow ds) :: ε) QE = QE (.ow ds) (x0 :: x1 :: x2 :: x3 :: x4 :: x5 :: x6 :: x7 :: x8 :: x9 :: x10 :: none :: ε) := rfl
theorem mv11d {x0 x1 x2 x3 x4 x5 x6 x7 x8 x9 x10 x11 x12 x13 x14 x15 : Option R} {ε : Ev} {d : D} {ds : List D} {ks : List (L2.Key × D)} {QE : R → Ev → Prop} : dMv 11 (x0 :: x1 :: x2 :: x3 :: x4 :: x5 :: x6 :: x7 :: x8 :: x9 :: x10 :: some (.od ks) :: ε) QE = QE (.od ks) (x0 :: x1 :: x2 :: x3 :: x4 :: x5 :: x6 :: x7 :: x8 :: x9 :: x10 :: none :: ε) := rfl
theorem nm12f {x0 x1 x2 x3 x4 x5 x6 x7 x8 x9 x10 x11 x12 x13 x14 x15 : Option R} {ε : Ev} {d : D} {ds : List D} {ks : List (L2.Key × D)} {QE : R → Ev → Prop} : dNm 12 (x0 :: x1 :: x2 :: x3 :: x4 :: x5 :: x6 :: x7 :: x8 :: x9 :: x10 :: x11 :: some (.fr d) :: ε) QE = QE (.fr d) (x0 :: x1 :: x2 :: x3 :: x4 :: x5 :: x6 :: x7 :: x8 :: x9 :: x10 :: x11 :: some (.fr d) :: ε) := rfl
theorem nm12o {x0 x1 x2 x3 x4 x5 x6 x7 x8 x9 x10 x11 x12 x13 x14 x15 : Option R} {ε : Ev} {d : D} {ds : List D} {ks : List (L2.Key × D)} {QE : R → Ev → Prop} : dNm 12 (x0 :: x1 :: x2 :: x3 :: x4 :: x5 :: x6 :: x7 :: x8 :: x9 :: x10 :: x11 :: some (.ow ds) :: ε) QE = QE (.fr (.lst ds)) (x0 :: x1 :: x2 :: x3 :: x4 :: x5 :: x6 :: x7 :: x8 :: x9 :: x10 :: x11 :: some (.fr (.lst ds)) :: ε) := rfl
theorem nm12d {x0 x1 x2 x3 x4 x5 x6 x7 x8 x9 x10 x11 x12 x13 x14 x15 : Option R} {ε : Ev} {d : D} {ds : List D} {ks : List (L2.Key × D)} {QE : R → Ev → Prop} : dNm 12 (x0 :: x1 :: x2 :: x3 :: x4 :: x5 :: x6 :: x7 :: x8 :: x9 :: x10 :: x11 :: some (.od ks) :: ε) QE = QE (.fr (.dct ks)) (x0 :: x1 :: x2 :: x3 :: x4 :: x5 :: x6 :: x7 :: x8 :: x9 :: x10 :: x11 :: some (.fr (.dct ks)) :: ε) := rfl
theorem bo12f {x0 x1 x2 x3 x4 x5 x6 x7 x8 x9 x10 x11 x12 x13 x14 x15 : Option R} {ε : Ev} {d : D} {ds : List D} {ks : List (L2.Key × D)} {QE : R → Ev → Prop} : dBo 12 (x0 :: x1 :: x2 :: x3 :: x4 :: x5 :: x6 :: x7 :: x8 :: x9 :: x10 :: x11 :: some (.fr d) :: ε) QE = QE (.fr d) (x0 :: x1 :: x2 :: x3 :: x4 :: x5 :: x6 :: x7 :: x8 :: x9 :: x10 :: x11 :: some (.fr d) :: ε) := rfl
theorem bo12o {x0 x1 x2 x3 x4 x5 x6 x7 x8 x9 x10 x11 x12 x13 x14 x15 : Option R} {ε : Ev} {d : D} {ds : List D} {ks : List (L2.Key × D)} {QE : R → Ev → Prop} : dBo 12 (x0 :: x1 :: x2 :: x3 :: x4 :: x5 :: x6 :: x7 :: x8 :: x9 :: x10 :: x11 :: some (.ow ds) :: ε) QE = QE (.bo ds) (x0 :: x1 :: x2 :: x3 :: x4 :: x5 :: x6 :: x7 :: x8 :: x9 :: x10 :: x11 :: some (.ow ds) :: ε) := rfl
theorem bo12d {x0 x1 x2 x3 x4 x5 x6 x7 x8 x9 x10 x11 x12 x13 x14 x15 : Option R} {ε : Ev} {d : D} {ds : List D} {ks : List (L2.Key × D)} {QE : R → Ev → Prop} : dBo 12 (x0 :: x1 :: x2 :: x3 :: x4 :: x5 :: x6 :: x7 :: x8 :: x9 :: x10 :: x11 :: some (.od ks) :: ε) QE = QE (.bd ks) (x0 :: x1 :: x2 :: x3 :: x4 :: x5 :: x6 :: x7 :: x8 :: x9 :: x10 :: x11 :: some (.od ks) :: ε) := rfl
theorem mv12f {x0 x1 x2 x3 x4 x5 x6 x7 x8 x9 x10 x11 x12 x13 x14 x15 : Option R} {ε : Ev} {d : D} {ds : List D} {ks : List (L2.Key × D)} {QE : R → Ev → Prop} : dMv 12 (x0 :: x1 :: x2 :: x3 :: x4 :: x5 :: x6 :: x7 :: x8 :: x9 :: x10 :: x11 :: some (.fr d) :: ε) QE = QE (.fr d) (x0 :: x1 :: x2 :: x3 :: x4 :: x5 :: x6 :: x7 :: x8 :: x9 :: x10 :: x11 :: some (.fr d) :: ε) := rfl
theorem mv12o {x0 x1 x2 x3 x4 x5 x6 x7 x8 x9 x10 x11 x12 x13 x14 x15 : Option R} {ε : Ev} {d : D} {ds : List D} {ks : List (L2.Key × D)} {QE : R → Ev → Prop} : dMv 12 (x0 :: x1 :: x2 :: x3 :: x4 :: x5 :: x6 :: x7 :: x8 :: x9 :: x10 :: x11 :: some (.ow ds) :: ε) QE = QE (.ow ds) (x0 :: x1 :: x2 :: x3 :: x4 :: x5 :: x6 :: x7 :: x8 :: x9 :: x10 :: x11 :: none :: ε) := rfl
theorem mv12d {x0 x1 x2 x3 x4 x5 x6 x7 x8 x9 x10 x11 x12 x13 x14 x15 : Option R} {ε : Ev} {d : D} {ds : List D} {ks : List (L2.Key × D)} {QE : R → Ev → Prop} : dMv 12 (x0 :: x1 :: x2 :: x3 :: x4 :: x5 :: x6 :: x7 :: x8 :: x9 :: x10 :: x11 :: some (.od ks) :: ε) QE = QE (.od ks) (x0 :: x1 :: x2 :: x3 :: x4 :: x5 :: x6 :: x7 :: x8 :: x9 :: x10 :: x11 :: none :: ε) := rfl
theorem nm13f {x0 x1 x2 x3 x4 x5 x6 x7 x8 x9 x10 x11 x12 x13 x14 x15 : Option R} {ε : Ev} {d : D} {ds : List D} {ks : List (L2.Key × D)} {QE : R → Ev → Prop} : dNm 13 (x0 :: x1 :: x2 :: x3 :: x4 :: x5 :: x6 :: x7 :: x8 :: x9 :: x10 :: x11 :: x12 :: some (.fr d) :: ε) QE = QE (.fr d) (x0 :: x1 :: x2 :: x3 :: x4 :: x5 :: x6 :: x7 :: x8 :: x9 :: x10 :: x11 :: x12 :: some (.fr d) :: ε) := rfl
theorem nm13o {x0 x1 x2 x3 x4 x5 x6 x7 x8 x9 x10 x11 x12 x13 x14 x15 : Option R} {ε : Ev} {d : D} {ds : List D} {ks : List (L2.Key × D)} {QE : R → Ev → Prop} : dNm 13 (x0 :: x1 :: x2 :: x3 :: x4 :: x5 :: x6 :: x7 :: x8 :: x9 :: x10 :: x11 :: x12 :: some (.ow ds) :: ε) QE = QE (.fr (.lst ds)) (x0 :: x1 :: x2 :: x3 :: x4 :: x5 :: x6 :: x7 :: x8 :: x9 :: x10 :: x11 :: x12 :: some (.fr (.lst ds)) :: ε) := rfl
theorem nm13d {x0 x1 x2 x3 x4 x5 x6 x7 x8 x9 x10 x11 x12 x13 x14 x15 : Option R} {ε : Ev} {d : D} {ds : List D} {ks : List (L2.Key × D)} {QE : R → Ev → Prop} : dNm 13 (x0 :: x1 :: x2 :: x3 :: x4 :: x5 :: x6 :: x7 :: x8 :: x9 :: x10 :: x11 :: x12 :: some (.od ks) :: ε) QE = QE (.fr (.dct ks)) (x0 :: x1 :: x2 :: x3 :: x4 :: x5 :: x6 :: x7 :: x8 :: x9 :: x10 :: x11 :: x12 :: some (.fr (.dct ks)) :: ε) := rfl
theorem bo13f {x0 x1 x2 x3 x4 x5 x6 x7 x8 x9 x10 x11 x12 x13 x14 x15 : Option R} {ε : Ev} {d : D} {ds : List D} {ks : List (L2.Key × D)} {QE : R → Ev → Prop} : dBo 13 (x0 :: x1 :: x2 :: x3 :: x4 :: x5 :: x6 :: x7 :: x8 :: x9 :: x10 :: x11 :: x12 :: some (.fr d) :: ε) QE = QE (.fr d) (x0 :: x1 :: x2 :: x3 :: x4 :: x5 :: x6 :: x7 :: x8 :: x9 :: x10 :: x11 :: x12 :: some (.fr d) :: ε) := rfl
theorem bo13o {x0 x1 x2 x3 x4 x5 x6 x7 x8 x9 x10 x11 x12 x13 x14 x15 : Option R} {ε : Ev} {d : D} {ds : List D} {ks : List (L2.Key × D)} {QE : R → Ev → Prop} : dBo 13 (x0 :: x1 :: x2 :: x3 :: x4 :: x5 :: x6 :: x7 :: x8 :: x9 :: x10 :: x11 :: x12 :: some (.ow ds) :: ε) QE = QE (.bo ds) (x0 :: x1 :: x2 :: x3 :: x4 :: x5 :: x6 :: x7 :: x8 :: x9 :: x10 :: x11 :: x12 :: some (.ow ds) :: ε) := rfl
theorem bo13d {x0 x1 x2 x3 x4 x5 x6 x7 x8 x9 x10 x11 x12 x13 x14 x15 : Option R} {ε : Ev} {d : D} {ds : List D} {ks : List (L2.Key × D)} {QE : R → Ev → Prop} : dBo 13 (x0 :: x1 :: x2 :: x3 :: x4 :: x5 :: x6 :: x7 :: x8 :: x9 :: x10 :: x11 :: x12 :: some (.od ks) :: ε) QE = QE (.bd ks) (x0 :: x1 :: x2 :: x3 :: x4 :: x5 :: x6 :: x7 :: x8 :: x9 :: x10 :: x11 :: x12 :: some (.od ks) :: ε) := rfl
theorem mv13f {x0 x1 x2 x3 x4 x5 x6 x7 x8 x9 x10 x11 x12 x13 x14 x15 : Option R} {ε : Ev} {d : D} {ds : List D} {ks : List (L2.Key × D)} {QE : R → Ev → Prop} : dMv 13 (x0 :: x1 :: x2 :: x3 :: x4 :: x5 :: x6 :: x7 :: x8 :: x9 :: x10 :: x11 :: x12 :: some (.fr d) :: ε) QE = QE (.fr d) (x0 :: x1 :: x2 :: x3 :: x4 :: x5 :: x6 :: x7 :: x8 :: x9 :: x10 :: x11 :: x12 :: some (.fr d) :: ε) := rfl
theorem mv13o {x0 x1 x2 x3 x4 x5 x6 x7 x8 x9 x10 x11 x12 x13 x14 x15 : Option R} {ε : Ev} {d : D} {ds : List D} {ks : List (L2.Key × D)} {QE : R → Ev → Prop} : dMv 13 (x0 :: x1 :: x2 :: x3 :: x4 :: x5 :: x6 :: x7 :: x8 :: x9 :: x10 :: x11 :: x12 :: some (.ow ds) :: ε) QE = QE (.ow ds) (x0 :: x1 :: x2 :: x3 :: x4 :: x5 :: x6 :: x7 :: x8 :: x9 :: x10 :: x11 :: x12 :: none :: ε) := rfl
theorem mv13d {x0 x1 x2 x3 x4 x5 x6 x7 x8 x9 x10 x11 x12 x13 x14 x15 : Option R} {ε : Ev} {d : D} {ds : List D} {ks : List (L2.Key × D)} {QE : R → Ev → Prop} : dMv 13 (x0 :: x1 :: x2 :: x3 :: x4 :: x5 :: x6 :: x7 :: x8 :: x9 :: x10 :: x11 :: x12 :: some (.od ks) :: ε) QE = QE (.od ks) (x0 :: x1 :: x2 :: x3 :: x4 :: x5 :: x6 :: x7 :: x8 :: x9 :: x10 :: x11 :: x12 :: none :: ε) := rfl
theorem nm14f {x0 x1 x2 x3 x4 x5 x6 x7 x8 x9 x10 x11 x12 x13 x14 x15 : Option R} {ε : Ev} {d : D} {ds : List D} {ks : List (L2.Key × D)} {QE : R → Ev → Prop} : dNm 14 (x0 :: x1 :: x2 :: x3 :: x4 :: x5 :: x6 :: x7 :: x8 :: x9 :: x10 :: x11 :: x12 :: x13 :: some (.fr d) :: ε) QE = QE (.fr d) (x0 :: x1 :: x2 :: x3 :: x4 :: x5 :: x6 :: x7 :: x8 :: x9 :: x10 :: x11 :: x12 :: x13 :: some (.fr d) :: ε) := rfl
theorem nm14o {x0 x1 x2 x3 x4 x5 x6 x7 x8 x9 x10 x11 x12 x13 x14 x15 : Option R} {ε : Ev} {d : D} {ds : List D} {ks : List (L2.Key × D)} {QE : R → Ev → Prop} : dNm 14 (x0 :: x1 :: x2 :: x3 :: x4 :: x5 :: x6 :: x7 :: x8 :: x9 :: x10 :: x11 :: x12 :: x13 :: some (.ow ds) :: ε) QE = QE (.fr (.lst ds)) (x0 :: x1 :: x2 :: x3 :: x4 :: x5 :: x6 :: x7 :: x8 :: x9 :: x10 :: x11 :: x12 :: x13 :: some (.fr (.lst ds)) :: ε) := rfl
theorem nm14d {x0 x1 x2 x3 x4 x5 x6 x7 x8 x9 x10 x11 x12 x13 x14 x15 : Option R} {ε : Ev} {d : D} {ds : List D} {ks : List (L2.Key × D)} {QE : R → Ev → Prop} : dNm 14 (x0 :: x1 :: x2 :: x3 :: x4 :: x5 :: x6 :: x7 :: x8 :: x9 :: x10 :: x11 :: x12 :: x13 :: some (.od ks) :: ε) QE = QE (.fr (.dct ks)) (x0 :: x1 :: x2 :: x3 :: x4 :: x5 :: x6 :: x7 :: x8 :: x9 :: x10 :: x11 :: x12 :: x13 :: some (.fr (.dct ks)) :: ε) := rfl
theorem bo14f {x0 x1 x2 x3 x4 x5 x6 x7 x8 x9 x10 x11 x12 x13 x14 x15 : Option R} {ε : Ev} {d : D} {ds : List D} {ks : List (L2.Key × D)} {QE : R → Ev → Prop} : dBo 14 (x0 :: x1 :: x2 :: x3 :: x4 :: x5 :: x6 :: x7 :: x8 :: x9 :: x10 :: x11 :: x12 :: x13 :: some (.fr d) :: ε) QE = QE (.fr d) (x0 :: x1 :: x2 :: x3 :: x4 :: x5 :: x6 :: x7 :: x8 :: x9 :: x10 :: x11 :: x12 :: x13 :: some (.fr d) :: ε) := rfl
theorem bo14o {x0 x1 x2 x3 x4 x5 x6 x7 x8 x9 x10 x11 x12 x13 x14 x15 : Option R} {ε : Ev} {d : D} {ds : List D} {ks : List (L2.Key × D)} {QE : R → Ev → Prop} : dBo 14 (x0 :: x1 :: x2 :: x3 :: x4 :: x5 :: x6 :: x7 :: x8 :: x9 :: x10 :: x11 :: x12 :: x13 :: some (.ow ds) :: ε) QE = QE (.bo ds) (x0 :: x1 :: x2 :: x3 :: x4 :: x5 :: x6 :: x7 :: x8 :: x9 :: x10 :: x11 :: x12 :: x13 :: some (.ow ds) :: ε) := rfl
theorem bo14d {x0 x1 x2 x3 x4 x5 x6 x7 x8 x9 x10 x11 x12 x13 x14 x15 : Option R} {ε : Ev} {d : D} {ds : List D} {ks : List (L2.Key × D)} {QE : R → Ev → Prop} : dBo 14 (x0 :: x1 :: x2 :: x3 :: x4 :: x5 :: x6 :: x7 :: x8 :: x9 :: x10 :: x11 :: x12 :: x13 :: some (.od ks) :: ε) QE = QE (.bd ks) (x0 :: x1 :: x2 :: x3 :: x4 :: x5 :: x6 :: x7 :: x8 :: x9 :: x10 :: x11 :: x12 :: x13 :: some (.od ks) :: ε) := rfl
theorem mv14f {x0 x1 x2 x3 x4 x5 x6 x7 x8 x9 x10 x11 x12 x13 x14 x15 : Option R} {ε : Ev} {d : D} {ds : List D} {ks : List (L2.Key × D)} {QE : R → Ev → Prop} : dMv 14 (x0 :: x1 :: x2 :: x3 :: x4 :: x5 :: x6 :: x7 :: x8 :: x9 :: x10 :: x11 :: x12 :: x13 :: some (.fr d) :: ε) QE = QE (.fr d) (x0 :: x1 :: x2 :: x3 :: x4 :: x5 :: x6 :: x7 :: x8 :: x9 :: x10 :: x11 :: x12 :: x13 :: some (.fr d) :: ε) := rfl
theorem mv14o {x0 x1 x2 x3 x4 x5 x6 x7 x8 x9 x10 x11 x12 x13 x14 x15 : Option R} {ε : Ev} {d : D} {ds : List D} {ks : List (L2.Key × D)} {QE : R → Ev → Prop} : dMv 14 (x0 :: x1 :: x2 :: x3 :: x4 :: x5 :: x6 :: x7 :: x8 :: x9 :: x10 :: x11 :: x12 :: x13 :: some (.ow ds) :: ε) QE = QE (.ow ds) (x0 :: x1 :: x2 :: x3 :: x4 :: x5 :: x6 :: x7 :: x8 :: x9 :: x10 :: x11 :: x12 :: x13 :: none :: ε) := rfl
theorem mv14d {x0 x1 x2 x3 x4 x5 x6 x7 x8 x9 x10 x11 x12 x13 x14 x15 : Option R} {ε : Ev} {d : D} {ds : List D} {ks : List (L2.Key × D)} {QE : R → Ev → Prop} : dMv 14 (x0 :: x1 :: x2 :: x3 :: x4 :: x5 :: x6 :: x7 :: x8 :: x9 :: x10 :: x11 :: x12 :: x13 :: some (.od ks) :: ε) QE = QE (.od ks) (x0 :: x1 :: x2 :: x3 :: x4 :: x5 :: x6 :: x7 :: x8 :: x9 :: x10 :: x11 :: x12 :: x13 :: none :: ε) := rfl
theorem nm15f {x0 x1 x2 x3 x4 x5 x6 x7 x8 x9 x10 x11 x12 x13 x14 x15 : Option R} {ε : Ev} {d : D} {ds : List D} {ks : List (L2.Key × D)} {QE : R → Ev → Prop} : dNm 15 (x0 :: x1 :: x2 :: x3 :: x4 :: x5 :: x6 :: x7 :: x8 :: x9 :: x10 :: x11 :: x12 :: x13 :: x14 :: some (.fr d) :: ε) QE = QE (.fr d) (x0 :: x1 :: x2 :: x3 :: x4 :: x5 :: x6 :: x7 :: x8 :: x9 :: x10 :: x11 :: x12 :: x13 :: x14 :: some (.fr d) :: ε) := rfl
theorem nm15o {x0 x1 x2 x3 x4 x5 x6 x7 x8 x9 x10 x11 x12 x13 x14 x15 : Option R} {ε : Ev} {d : D} {ds : List D} {ks : List (L2.Key × D)} {QE : R → Ev → Prop} : dNm 15 (x0 :: x1 :: x2 :: x3 :: x4 :: x5 :: x6 :: x7 :: x8 :: x9 :: x10 :: x11 :: x12 :: x13 :: x14 :: some (.ow ds) :: ε) QE = QE (.fr (.lst ds)) (x0 :: x1 :: x2 :: x3 :: x4 :: x5 :: x6 :: x7 :: x8 :: x9 :: x10 :: x11 :: x12 :: x13 :: x14 :: some (.fr (.lst ds)) :: ε) := rfl
theorem nm15d {x0 x1 x2 x3 x4 x5 x6 x7 x8 x9 x10 x11 x12 x13 x14 x15 : Option R} {ε : Ev} {d : D} {ds : List D} {ks : List (L2.Key × D)} {QE : R → Ev → Prop} : dNm 15 (x0 :: x1 :: x2 :: x3 :: x4 :: x5 :: x6 :: x7 :: x8 :: x9 :: x10 :: x11 :: x12 :: x13 :: x14 :: some (.od ks) :: ε) QE = QE (.fr (.dct ks)) (x0 :: x1 :: x2 :: x3 :: x4 :: x5 :: x6 :: x7 :: x8 :: x9 :: x10 :: x11 :: x12 :: x13 :: x14 :: some (.fr (.dct ks)) :: ε) := rfl
theorem bo15f {x0 x1 x2 x3 x4 x5 x6 x7 x8 x9 x10 x11 x12 x13 x14 x15 : Option R} {ε : Ev} {d : D} {ds : List D} {ks : List (L2.Key × D)} {QE : R → Ev → Prop} : dBo 15 (x0 :: x1 :: x2 :: x3 :: x4 :: x5 :: x6 :: x7 :: x8 :: x9 :: x10 :: x11 :: x12 :: x13 :: x14 :: some (.fr d) :: ε) QE = QE (.fr d) (x0 :: x1 :: x2 :: x3 :: x4 :: x5 :: x6 :: x7 :: x8 :: x9 :: x10 :: x11 :: x12 :: x13 :: x14 :: some (.fr d) :: ε) := rfl
theorem bo15o {x0 x1 x2 x3 x4 x5 x6 x7 x8 x9 x10 x11 x12 x13 x14 x15 : Option R} {ε : Ev} {d : D} {ds : List D} {ks : List (L2.Key × D)} {QE : R → Ev → Prop} : dBo 15 (x0 :: x1 :: x2 :: x3 :: x4 :: x5 :: x6 :: x7 :: x8 :: x9 :: x10 :: x11 :: x12 :: x13 :: x14 :: some (.ow ds) :: ε) QE = QE (.bo ds) (x0 :: x1 :: x2 :: x3 :: x4 :: x5 :: x6 :: x7 :: x8 :: x9 :: x10 :: x11 :: x12 :: x13 :: x14 :: some (.ow ds) :: ε) := rfl
theorem bo15d {x0 x1 x2 x3 x4 x5 x6 x7 x8 x9 x10 x11 x12 x13 x14 x15 : Option R} {ε : Ev} {d : D} {ds : List D} {ks : List (L2.Key × D)} {QE : R → Ev → Prop} : dBo 15 (x0 :: x1 :: x2 :: x3 :: x4 :: x5 :: x6 :: x7 :: x8 :: x9 :: x10 :: x11 :: x12 :: x13 :: x14 :: some (.od ks) :: ε) QE = QE (.bd ks) (x0 :: x1 :: x2 :: x3 :: x4 :: x5 :: x6 :: x7 :: x8 :: x9 :: x10 :: x11 :: x12 :: x13 :: x14 :: some (.od ks) :: ε) := rfl
theorem mv15f {x0 x1 x2 x3 x4 x5 x6 x7 x8 x9 x10 x11 x12 x13 x14 x15 : Option R} {ε : Ev} {d : D} {ds : List D} {ks : List (L2.Key × D)} {QE : R → Ev → Prop} : dMv 15 (x0 :: x1 :: x2 :: x3 :: x4 :: x5 :: x6 :: x7 :: x8 :: x9 :: x10 :: x11 :: x12 :: x13 :: x14 :: some (.fr d) :: ε) QE = QE (.fr d) (x0 :: x1 :: x2 :: x3 :: x4 :: x5 :: x6 :: x7 :: x8 :: x9 :: x10 :: x11 :: x12 :: x13 :: x14 :: some (.fr d) :: ε) := rfl
theorem mv15o {x0 x1 x2 x3 x4 x5 x6 x7 x8 x9 x10 x11 x12 x13 x14 x15 : Option R} {ε : Ev} {d : D} {ds : List D} {ks : List (L2.Key × D)} {QE : R → Ev → Prop} : dMv 15 (x0 :: x1 :: x2 :: x3 :: x4 :: x5 :: x6 :: x7 :: x8 :: x9 :: x10 :: x11 :: x12 :: x13 :: x14 :: some (.ow ds) :: ε) QE = QE (.ow ds) (x0 :: x1 :: x2 :: x3 :: x4 :: x5 :: x6 :: x7 :: x8 :: x9 :: x10 :: x11 :: x12 :: x13 :: x14 :: none :: ε) := rfl
theorem mv15d {x0 x1 x2 x3 x4 x5 x6 x7 x8 x9 x10 x11 x12 x13 x14 x15 : Option R} {ε : Ev} {d : D} {ds : List D} {ks : List (L2.Key × D)} {QE : R → Ev → Prop} : dMv 15 (x0 :: x1 :: x2 :: x3 :: x4 :: x5 :: x6 :: x7 :: x8 :: x9 :: x10 :: x11 :: x12 :: x13 :: x14 :: some (.od ks) :: ε) QE = QE (.od ks) (x0 :: x1 :: x2 :: x3 :: x4 :: x5 :: x6 :: x7 :: x8 :: x9 :: x10 :: x11 :: x12 :: x13 :: x14 :: none :: ε) := rfl
theorem d_fr {d : D} : (R.fr d).d = (d : D) := rfl
theorem fz_fr {d : D} : (R.fr d).fz = R.fr d := rfl
theorem isFr_fr {d : D} : (R.fr d).isFr = true := rfl
theorem free_fr {d : D} : (R.fr d).free = True := rfl
theorem d_ow {ds : List D} : (R.ow ds).d = (.lst ds : D) := rfl
theorem fz_ow {ds : List D} : (R.ow ds).fz = R.fr (.lst ds) := rfl
theorem isFr_ow {ds : List D} : (R.ow ds).isFr = false := rfl
theorem free_ow {ds : List D} : (R.ow ds).free = True := rfl
theorem d_od {ks : List (L2.Key × D)} : (R.od ks).d = (.dct ks : D) := rfl
theorem fz_od {ks : List (L2.Key × D)} : (R.od ks).fz = R.fr (.dct ks) := rfl
theorem isFr_od {ks : List (L2.Key × D)} : (R.od ks).isFr = false := rfl
theorem free_od {ks : List (L2.Key × D)} : (R.od ks).free = True := rfl
theorem d_bo {ds : List D} : (R.bo ds).d = (.lst ds : D) := rfl
theorem fz_bo {ds : List D} : (R.bo ds).fz = R.bo ds := rfl
theorem isFr_bo {ds : List D} : (R.bo ds).isFr = false := rfl
theorem free_bo {ds : List D} : (R.bo ds).free = False := rfl
theorem d_bd {ks : List (L2.Key × D)} : (R.bd ks).d = (.dct ks : D) := rfl
theorem fz_bd {ks : List (L2.Key × D)} : (R.bd ks).fz = R.bd ks := rfl
theorem isFr_bd {ks : List (L2.Key × D)} : (R.bd ks).isFr = false := rfl
theorem free_bd {ks : List (L2.Key × D)} : (R.bd ks).free = False := rfl
theorem w_add_i {Q : R → Prop} {i j : Int} {a b : List Nat} {c d : Nat} {ds es : List D} {o1 o2 : Option Int} {p q : Bool} : wAdd (.int i) (.int j) Q = (Q (.fr (.int (i + j)))) := rfl
theorem w_add_s {Q : R → Prop} {i j : Int} {a b : List Nat} {c d : Nat} {ds es : List D} {o1 o2 : Option Int} {p q : Bool} : wAdd (.str a) (.str b) Q = (a.length + b.length ≤ sizeLine ∧ Q (.fr (.str (a ++ b)))) := rfl
theorem w_add_l {Q : R → Prop} {i j : Int} {a b : List Nat} {c d : Nat} {ds es : List D} {o1 o2 : Option Int} {p q : Bool} : wAdd (.lst ds) (.lst es) Q = (ds.length + es.length ≤ sizeLine ∧ Q (.ow (ds ++ es))) := rfl
theorem w_add_t {Q : R → Prop} {i j : Int} {a b : List Nat} {c d : Nat} {ds es : List D} {o1 o2 : Option Int} {p q : Bool} : wAdd (.tup ds) (.tup es) Q = (ds.length + es.length ≤ sizeLine ∧ Q (.fr (.tup (ds ++ es)))) := rfl
theorem w_sub {Q : R → Prop} {i j : Int} {a b : List Nat} {c d : Nat} {ds es : List D} {o1 o2 : Option Int} {p q : Bool} : wSub (.int i) (.int j) Q = (Q (.fr (.int (i - j)))) := rfl
theorem w_mul_i {Q : R → Prop} {i j : Int} {a b : List Nat} {c d : Nat} {ds es : List D} {o1 o2 : Option Int} {p q : Bool} : wMul (.int i) (.int j) Q = (CMulW i j ∧ Q (.fr (.int (i * j)))) := rfl
theorem w_mul_s {Q : R → Prop} {i j : Int} {a b : List Nat} {c d : Nat} {ds es : List D} {o1 o2 : Option Int} {p q : Bool} : wMul (.str a) (.int j) Q = (-(2 ^ 63) ≤ j ∧ j < 2 ^ 63 ∧ a.length * j.toNat ≤ sizeLine ∧ Q (.fr (.str (List.replicate j.toNat a).flatten))) := rfl
theorem w_mul_l {Q : R → Prop} {i j : Int} {a b : List Nat} {c d : Nat} {ds es : List D} {o1 o2 : Option Int} {p q : Bool} : wMul (.lst ds) (.int j) Q = (-(2 ^ 63) ≤ j ∧ j < 2 ^ 63 ∧ ds.length * j.toNat ≤ sizeLine ∧ Q (.ow (List.replicate j.toNat ds).flatten)) := rfl
theorem w_mul_t {Q : R → Prop} {i j : Int} {a b : List Nat} {c d : Nat} {ds es : List D} {o1 o2 : Option Int} {p q : Bool} : wMul (.tup ds) (.int j) Q = (ds ≠ [] ∧ 2 ≤ j ∧ j ≤ 1000 ∧ ds.length ≤ 1000 ∧ Q (.fr (.tup (List.replicate j.toNat ds).flatten))) := rfl
theorem w_mod {Q : R → Prop} {i j : Int} {a b : List Nat} {c d : Nat} {ds es : List D} {o1 o2 : Option Int} {p q : Bool} : wMod (.int i) (.int j) Q = (0 < j ∧ Q (.fr (.int (i % j)))) := rfl
theorem w_fdv {Q : R → Prop} {i j : Int} {a b : List Nat} {c d : Nat} {ds es : List D} {o1 o2 : Option Int} {p q : Bool} : wFdv (.int i) (.int j) Q = (CDivW i j ∧ Q (.fr (.int (i / j)))) := rfl
theorem w_pow {Q : R → Prop} {i j : Int} {a b : List Nat} {c d : Nat} {ds es : List D} {o1 o2 : Option Int} {p q : Bool} : wPow (.int i) (.int j) Q = (CPow i j ∧ Q (.fr (.int (i ^ j.toNat)))) := rfl
theorem w_le_i {Q : R → Prop} {i j : Int} {a b : List Nat} {c d : Nat} {ds es : List D} {o1 o2 : Option Int} {p q : Bool} : wLe (.int i) (.int j) Q = (Q (.fr (.bl (decide (i ≤ j))))) := rfl
theorem w_gt_i {Q : R → Prop} {i j : Int} {a b : List Nat} {c d : Nat} {ds es : List D} {o1 o2 : Option Int} {p q : Bool} : wGt (.int i) (.int j) Q = (Q (.fr (.bl (decide (j < i))))) := rfl
theorem w_ge_i {Q : R → Prop} {i j : Int} {a b : List Nat} {c d : Nat} {ds es : List D} {o1 o2 : Option Int} {p q : Bool} : wGe (.int i) (.int j) Q = (Q (.fr (.bl (decide (j ≤ i))))) := rfl
theorem w_le_s {Q : R → Prop} {i j : Int} {a b : List Nat} {c d : Nat} {ds es : List D} {o1 o2 : Option Int} {p q : Bool} : wLe (.str a) (.str b) Q = (Q (.fr (.bl (!decide (b < a))))) := rfl
theorem w_gt_s {Q : R → Prop} {i j : Int} {a b : List Nat} {c d : Nat} {ds es : List D} {o1 o2 : Option Int} {p q : Bool} : wGt (.str a) (.str b) Q = (Q (.fr (.bl (decide (b < a))))) := rfl
theorem w_ge_s {Q : R → Prop} {i j : Int} {a b : List Nat} {c d : Nat} {ds es : List D} {o1 o2 : Option Int} {p q : Bool} : wGe (.str a) (.str b) Q = (Q (.fr (.bl (!decide (a < b))))) := rfl
theorem w_lt_i {Q : R → Prop} {i j : Int} {a b : List Nat} {c d : Nat} {ds es : List D} {o1 o2 : Option Int} {p q : Bool} : wLt (.int i) (.int j) Q = (Q (.fr (.bl (decide (i < j))))) := rfl
theorem w_lt_s {Q : R → Prop} {i j : Int} {a b : List Nat} {c d : Nat} {ds es : List D} {o1 o2 : Option Int} {p q : Bool} : wLt (.str a) (.str b) Q = (Q (.fr (.bl (decide (a < b))))) := rfl
theorem w_eq {Q : R → Prop} {i j : Int} {a b : List Nat} {c d : Nat} {ds es : List D} {o1 o2 : Option Int} {p q : Bool} {x y : D} : wEq x y Q = (x.shp ∧ y.shp ∧ Q (.fr (.bl (D.eqv x y)))) := rfl
theorem w_ne {Q : R → Prop} {i j : Int} {a b : List Nat} {c d : Nat} {ds es : List D} {o1 o2 : Option Int} {p q : Bool} {x y : D} : wNe x y Q = (x.shp ∧ y.shp ∧ Q (.fr (.bl (!D.eqv x y)))) := rfl
theorem w_is_b {Q : R → Prop} {i j : Int} {a b : List Nat} {c d : Nat} {ds es : List D} {o1 o2 : Option Int} {p q : Bool} : wIs (.bl p) (.bl q) Q = (Q (.fr (.bl (decide (p = q))))) := rfl
theorem w_isN_b {Q : R → Prop} {i j : Int} {a b : List Nat} {c d : Nat} {ds es : List D} {o1 o2 : Option Int} {p q : Bool} : wIsN (.bl p) (.bl q) Q = (Q (.fr (.bl (!decide (p = q))))) := rfl
theorem w_in_l {Q : R → Prop} {i j : Int} {a b : List Nat} {c d : Nat} {ds es : List D} {o1 o2 : Option Int} {p q : Bool} {x : D} : wIn x (.lst ds) Q = (x.shp ∧ D.shp (.lst ds) ∧ Q (.fr (.bl (false.xor (ds.any fun z => D.eqv z x))))) := rfl
theorem w_nin_l {Q : R → Prop} {i j : Int} {a b : List Nat} {c d : Nat} {ds es : List D} {o1 o2 : Option Int} {p q : Bool} {x : D} : wNin x (.lst ds) Q = (x.shp ∧ D.shp (.lst ds) ∧ Q (.fr (.bl (true.xor (ds.any fun z => D.eqv z x))))) := rfl
theorem w_ix_l {Q : R → Prop} {i j : Int} {a b : List Nat} {c d : Nat} {ds es : List D} {o1 o2 : Option Int} {p q : Bool} : wIx (.lst ds) (.int i) Q = (∃ d, atI ds i = some d ∧ Q (.fr d)) := rfl
theorem w_ix_t {Q : R → Prop} {i j : Int} {a b : List Nat} {c d : Nat} {ds es : List D} {o1 o2 : Option Int} {p q : Bool} : wIx (.tup ds) (.int i) Q = (∃ d, atI ds i = some d ∧ Q (.fr d)) := rfl
theorem w_ix_s {Q : R → Prop} {i j : Int} {a b : List Nat} {c d : Nat} {ds es : List D} {o1 o2 : Option Int} {p q : Bool} : wIx (.str a) (.int i) Q = (a.length ≤ sizeLine ∧ ∃ c, atI a i = some c ∧ Q (.fr (.str [c]))) := rfl
theorem w_sl_l {Q : R → Prop} {i j : Int} {a b : List Nat} {c d : Nat} {ds es : List D} {o1 o2 : Option Int} {p q : Bool} : wSl (.lst ds) o1 o2 Q = (Q (.ow (cut ds o1 o2))) := rfl
theorem w_sl_t {Q : R → Prop} {i j : Int} {a b : List Nat} {c d : Nat} {ds es : List D} {o1 o2 : Option Int} {p q : Bool} : wSl (.tup ds) o1 o2 Q = (Q (.fr (.tup (cut ds o1 o2)))) := rfl
theorem w_sl_s {Q : R → Prop} {i j : Int} {a b : List Nat} {c d : Nat} {ds es : List D} {o1 o2 : Option Int} {p q : Bool} : wSl (.str a) o1 o2 Q = (a.length ≤ sizeLine ∧ Q (.fr (.str (cut a o1 o2)))) := rfl
theorem w_len_l {Q : R → Prop} {i j : Int} {a b : List Nat} {c d : Nat} {ds es : List D} {o1 o2 : Option Int} {p q : Bool} : wLen [.lst ds] Q = (Q (.fr (.int ds.length))) := rfl
theorem w_len_t {Q : R → Prop} {i j : Int} {a b : List Nat} {c d : Nat} {ds es : List D} {o1 o2 : Option Int} {p q : Bool} : wLen [.tup ds] Q = (Q (.fr (.int ds.length))) := rfl
theorem w_len_s {Q : R → Prop} {i j : Int} {a b : List Nat} {c d : Nat} {ds es : List D} {o1 o2 : Option Int} {p q : Bool} : wLen [.str a] Q = (a.length ≤ sizeLine ∧ Q (.fr (.int a.length))) := rfl
theorem w_list_l {Q : R → Prop} {i j : Int} {a b : List Nat} {c d : Nat} {ds es : List D} {o1 o2 : Option Int} {p q : Bool} : wList [.lst ds] Q = (Q (.ow ds)) := rfl
theorem w_list_t {Q : R → Prop} {i j : Int} {a b : List Nat} {c d : Nat} {ds es : List D} {o1 o2 : Option Int} {p q : Bool} : wList [.tup ds] Q = (Q (.ow ds)) := rfl
theorem w_tuple_l {Q : R → Prop} {i j : Int} {a b : List Nat} {c d : Nat} {ds es : List D} {o1 o2 : Option Int} {p q : Bool} : wTuple [.lst ds] Q = (Q (.fr (.tup ds))) := rfl
theorem w_tuple_t {Q : R → Prop} {i j : Int} {a b : List Nat} {c d : Nat} {ds es : List D} {o1 o2 : Option Int} {p q : Bool} : wTuple [.tup ds] Q = (Q (.fr (.tup ds))) := rfl
theorem w_str {Q : R → Prop} {i j : Int} {a b : List Nat} {c d : Nat} {ds es : List D} {o1 o2 : Option Int} {p q : Bool} : wStr [.int i] Q = (i.natAbs.log2 < 1920 ∧ Q (.fr (.str (istr i)))) := rfl
theorem w_int_i {Q : R → Prop} {i j : Int} {a b : List Nat} {c d : Nat} {ds es : List D} {o1 o2 : Option Int} {p q : Bool} : wInt [.int i] Q = (Q (.fr (.int i))) := rfl
theorem w_int_b {Q : R → Prop} {i j : Int} {a b : List Nat} {c d : Nat} {ds es : List D} {o1 o2 : Option Int} {p q : Bool} : wInt [.bl p] Q = (Q (.fr (.int (if p then 1 else 0)))) := rfl
theorem w_int_s {Q : R → Prop} {i j : Int} {a b : List Nat} {c d : Nat} {ds es : List D} {o1 o2 : Option Int} {p q : Bool} : wInt [.str a] Q = (∃ n, PySem.intText? (S a) = some n ∧ a.length ≤ 640 ∧ Q (.fr (.int n))) := rfl
theorem w_max2 {Q : R → Prop} {i j : Int} {a b : List Nat} {c d : Nat} {ds es : List D} {o1 o2 : Option Int} {p q : Bool} : wMax [.int i, .int j] Q = (Q (.fr (.int (if j > i then j else i)))) := rfl
theorem w_max_l {Q : R → Prop} {i j : Int} {a b : List Nat} {c d : Nat} {ds es : List D} {o1 o2 : Option Int} {p q : Bool} : wMax [.lst ds] Q = (∃ ns : List Int, ds = ns.map D.int ∧ 0 < ns.length ∧ ∀ m, m ∈ ns → (∀ y, y ∈ ns → y ≤ m) → Q (.fr (.int m))) := rfl
theorem w_min2 {Q : R → Prop} {i j : Int} {a b : List Nat} {c d : Nat} {ds es : List D} {o1 o2 : Option Int} {p q : Bool} : wMin [.int i, .int j] Q = (Q (.fr (.int (if j < i then j else i)))) := rfl
theorem w_min_l {Q : R → Prop} {i j : Int} {a b : List Nat} {c d : Nat} {ds es : List D} {o1 o2 : Option Int} {p q : Bool} : wMin [.lst ds] Q = (∃ ns : List Int, ds = ns.map D.int ∧ 0 < ns.length ∧ ∀ m, m ∈ ns → (∀ y, y ∈ ns → m ≤ y) → Q (.fr (.int m))) := rfl
theorem w_all {Q : R → Prop} {i j : Int} {a b : List Nat} {c d : Nat} {ds es : List D} {o1 o2 : Option Int} {p q : Bool} : wAll [.lst ds] Q = (∃ bs : List Bool, ds = bs.map D.bl ∧ Q (.fr (.bl (bs.all id)))) := rfl
theorem w_any {Q : R → Prop} {i j : Int} {a b : List Nat} {c d : Nat} {ds es : List D} {o1 o2 : Option Int} {p q : Bool} : wAny [.lst ds] Q = (∃ bs : List Bool, ds = bs.map D.bl ∧ Q (.fr (.bl (bs.any id)))) := rfl
theorem w_sorted_l {Q : R → Prop} {i j : Int} {a b : List Nat} {c d : Nat} {ds es : List D} {o1 o2 : Option Int} {p q : Bool} : wSorted [.lst ds] Q = (Srt ds ∧ Q (.ow (ds.mergeSort dle))) := rfl
theorem w_sorted_t {Q : R → Prop} {i j : Int} {a b : List Nat} {c d : Nat} {ds es : List D} {o1 o2 : Option Int} {p q : Bool} : wSorted [.tup ds] Q = (Srt ds ∧ Q (.ow (ds.mergeSort dle))) := rfl
theorem w_split {Q : R → Prop} {i j : Int} {a b : List Nat} {c d : Nat} {ds es : List D} {o1 o2 : Option Int} {p q : Bool} : wSplit (.str a) (.str b) Q = (b ≠ [] ∧ a.length + 2 ≤ sizeLine ∧ Q (.ow ((splitL a b).map D.str))) := rfl
theorem w_join {Q : R → Prop} {i j : Int} {a b : List Nat} {c d : Nat} {ds es : List D} {o1 o2 : Option Int} {p q : Bool} : wJoin (.str a) (.lst ds) Q = (∃ ls : List (List Nat), ds = ls.map D.str ∧ (ls.map (·.length)).sum + ls.length * a.length ≤ 16777216 ∧ Q (.fr (.str (joinL a ls)))) := rfl
theorem w_in_t {Q : R → Prop} {i j : Int} {a b : List Nat} {c d : Nat} {ds es : List D} {o1 o2 : Option Int} {p q : Bool} : wIn (.int i) (.tup ds) Q = (D.flat (.int i) = true ∧ ds.all D.flat = true ∧ Q (.fr (.bl (false.xor (ds.any fun z => D.eqv z (.int i)))))) := rfl
theorem w_nin_t {Q : R → Prop} {i j : Int} {a b : List Nat} {c d : Nat} {ds es : List D} {o1 o2 : Option Int} {p q : Bool} : wNin (.int i) (.tup ds) Q = (D.flat (.int i) = true ∧ ds.all D.flat = true ∧ Q (.fr (.bl (true.xor (ds.any fun z => D.eqv z (.int i)))))) := rfl
theorem w_in_ts {Q : R → Prop} {i j : Int} {a b : List Nat} {c d : Nat} {ds es : List D} {o1 o2 : Option Int} {p q : Bool} : wIn (.str a) (.tup ds) Q = (D.flat (.str a) = true ∧ ds.all D.flat = true ∧ Q (.fr (.bl (false.xor (ds.any fun z => D.eqv z (.str a)))))) := rfl
theorem w_nin_ts {Q : R → Prop} {i j : Int} {a b : List Nat} {c d : Nat} {ds es : List D} {o1 o2 : Option Int} {p q : Bool} : wNin (.str a) (.tup ds) Q = (D.flat (.str a) = true ∧ ds.all D.flat = true ∧ Q (.fr (.bl (true.xor (ds.any fun z => D.eqv z (.str a)))))) := rfl
theorem e_draw {m : Int} {Q : R → Prop} : spDraw [.tape, .int m] Q = (0 < m ∧ m.natAbs < 2 ^ 1000 ∧ ∀ r, 0 ≤ r → r < m → Q (.fr (.int r))) := propext
  ⟨fun ⟨n, e, a, b, q⟩ => by cases e; exact ⟨a, b, q⟩, fun ⟨a, b, q⟩ => ⟨m, rfl, a, b, q⟩⟩
theorem e_cok_fr {d : D} {rs : List R} (h : rs.all R.isFr = true) (r : R) : callOk rs r = True := by unfold callOk; simp [h]
theorem e_cok_int {i : Int} {rs : List R} : callOk rs (.fr (.int i)) = True := by simp [callOk, R.flat, D.flat]
theorem e_cok_bl {i : Bool} {rs : List R} : callOk rs (.fr (.bl i)) = True := by simp [callOk, R.flat, D.flat]
theorem e_cok_str {i : List Nat} {rs : List R} : callOk rs (.fr (.str i)) = True := by simp [callOk, R.flat, D.flat]
theorem ite_k {c : Prop} [Decidable c] {p q : Prop} (h1 : c → p) (h2 : ¬ c → q) : (if c then p else q) := by by_cases h : c <;> simp [h, h1, h2]

/-! ### loops and comprehensions by their lists -/
theorem take_get {α : Type} {ds : List α} {i : Nat} {d : α} (h : ds[i]? = some d) : ds.take (i + 1) = ds.take i ++ [d] := by rw [List.take_succ, h]; rfl
/-- a comprehension that maps -/
theorem comp_map {tg : Tg} {te : TEd} {vs : List Nat} {Q : R → Ev → Prop} {ds : List D} {ε1 : Ev} (g : D → D) (hv : vs.all (slotFr ε1) = true)
    (hb : ∀ d, d ∈ ds → ∀ P : D → Prop, P (g d) → ∃ ε2, tg.put d (wipeE ε1 vs) = some ε2 ∧ te ε2 fun r ε4 => r.free ∧ wipeE ε4 vs = wipeE ε1 vs ∧ P r.d)
    (hq : Q (.ow (ds.map g)) ε1) : COMP tg dYes te vs Q ds ε1 := by
  refine ⟨hv, fun i acc => acc = (ds.take i).map g, by simp, fun i d acc hd ha => ?_, fun acc _ e => ?_⟩
  · subst ha
    exact hb d (List.mem_of_getElem? hd) (fun x => (ds.take i).map g ++ [x] = (ds.take (i + 1)).map g) (by rw [take_get hd]; simp)
  · rw [e, List.take_length]; exact hq
/-- a comprehension that filters, then maps -/
theorem comp_filter {tg : Tg} {tt : TTd} {te : TEd} {vs : List Nat} {Q : R → Ev → Prop} {ds : List D} {ε1 : Ev} (c : D → Bool) (g : D → D) (hv : vs.all (slotFr ε1) = true)
    (hb : ∀ d, d ∈ ds → ∀ P : Option D → Prop, P (if c d = true then some (g d) else none) → ∃ ε2, tg.put d (wipeE ε1 vs) = some ε2 ∧ tt ε2 fun b ε3 => if b = true then te ε3 fun r ε4 => r.free ∧ wipeE ε4 vs = wipeE ε1 vs ∧ P (some r.d) else wipeE ε3 vs = wipeE ε1 vs ∧ P none)
    (hq : Q (.ow ((ds.filter c).map g)) ε1) : COMP tg tt te vs Q ds ε1 := by
  refine ⟨hv, fun i acc => acc = ((ds.take i).filter c).map g, by simp, fun i d acc hd ha => ?_, fun acc _ e => ?_⟩
  · subst ha
    have h := hb d (List.mem_of_getElem? hd) (fun x => ((ds.take i).filter c).map g ++ x.toList = ((ds.take (i + 1)).filter c).map g) ?_
    · simpa using h
    · rw [take_get hd, List.filter_append, List.map_append]
      by_cases hc : c d = true
      · rw [if_pos hc, List.filter_cons_of_pos hc]; rfl
      · rw [if_neg hc, List.filter_cons_of_neg hc]; rfl
  · rw [e, List.take_length]; exact hq
/-- a for loop that keeps a property -/
theorem for_keep {tg : Tg} {tb : TSd} {B : DE} {ds : List D} {ε1 : Ev} (I : Ev → Prop) (h0 : I ε1)
    (hb : ∀ d, d ∈ ds → ∀ ε, I ε → ∃ ε2, tg.put d ε = some ε2 ∧ tb { nx := I, rt := B.rt, ct := I, bk := B.nx } ε2) (hq : ∀ ε, I ε → B.nx ε) : FOR tg tb B ds ε1 :=
  ⟨fun _ => I, h0, fun i d ε hd hI => hb d (List.mem_of_getElem? hd) ε hI, hq⟩

theorem pgn {X : Cx} {i : Nat} {x : Str} {pos : Pos} (hN : X.N.Nodup) (hi : X.N[i]? = some x := by rfl) (hx : Loc X.env.scope x := by first | exact Or.inl rfl | exact Or.inr rfl) (hf : X.fn x = true ∨ X.env.scope.names.lookup x = some .local := by first | exact .inl rfl | exact .inr rfl) : PG X (.Name x pos) (gName i) := pg_name hN hi hx hf
/-! ### callees -/
structure Cal (P : Program) (w : World) (K : PySem.W.Frag) (mg : Str → Option Value) (base : Heap) (k : Nat) (x : Str) (ps : List Str) (f : Addr) (fd : FuncData) (sp : DSp) : Prop where
  ok : FnOk P w K mg base CX0 k f fd ps (liftSp sp)
  mono : MonoD sp
  at_ : mg x = some (.ref f)
  kp : PySem.W.keepIn K (.ref f) = true
  bd : Binds K fd ps []
theorem Cal.up {P : Program} {w : World} {K : PySem.W.Frag} {mg : Str → Option Value} {base : Heap} {j k : Nat} {x : Str} {ps : List Str} {f : Addr} {fd : FuncData} {sp : DSp} (C : Cal P w K mg base j x ps f fd sp) (h : j ≤ k) : Cal P w K mg base k x ps f fd sp := ⟨C.ok.mono h, C.mono, C.at_, C.kp, C.bd⟩
theorem Cal.imp {P : Program} {w : World} {K : PySem.W.Frag} {mg : Str → Option Value} {base : Heap} {k : Nat} {x : Str} {ps : List Str} {f : Addr} {fd : FuncData} {sp sp' : DSp} (C : Cal P w K mg base k x ps f fd sp) (m : MonoD sp') (h : ∀ ds Q, sp' ds Q → sp ds Q) : Cal P w K mg base k x ps f fd sp' :=
  ⟨C.ok.imp fun vs H Q E ⟨T, L, ns, F, ds, a, b, c⟩ => ⟨T, L, ns, F, ds, a, b, h _ _ c⟩, m, C.at_, C.kp, C.bd⟩
section
variable {X : Cx} {x : Str} {f : Addr} {fd : FuncData} {ps : List Str} {sp : DSp} {k : Nat} {e : Expr} {es : List Expr} {ta : TAd} {p pos : Pos}
theorem qe_callC (C : Cal X.prog X.w X.K X.mg X.base k x ps f fd sp) (hr : Room k X.A) (hg : Gl X x) (ha : QA X (e :: es) ta)
    (hdb : (x == ("__debug__" : Str)) = false := by decide) (he : starEach (e :: es) X.env = (false, eval e X.env) :: starEach es X.env := by rfl) (hpl : (backTo pos (starEach es X.env)).any (·.1) = false := by rfl) :
    QE X (.Call (.Name x p) (e :: es) [] pos) (dCall sp ta) := qe_call C.ok C.mono hr hg C.at_ C.kp C.bd ha hdb he hpl
end
/-! ### builtins' places -/
theorem bt_len : bootBuiltins "len" = some (.builtin "len") := by decide +kernel
theorem bt_max : bootBuiltins "max" = some (.builtin "max") := by decide +kernel
theorem bt_min : bootBuiltins "min" = some (.builtin "min") := by decide +kernel
theorem bt_all : bootBuiltins "all" = some (.builtin "all") := by decide +kernel
theorem bt_any : bootBuiltins "any" = some (.builtin "any") := by decide +kernel
theorem bt_sorted : bootBuiltins "sorted" = some (.builtin "sorted") := by decide +kernel
theorem bt_list : bootBuiltins "list" = some (.type "list") := by decide +kernel
theorem bt_tuple : bootBuiltins "tuple" = some (.type "tuple") := by decide +kernel
theorem bt_str : bootBuiltins "str" = some (.type "str") := by decide +kernel
theorem bt_int : bootBuiltins "int" = some (.type "int") := by decide +kernel
theorem bt_bool : bootBuiltins "bool" = some (.type "bool") := by decide +kernel
theorem bt_dict : bootBuiltins "dict" = some (.type "dict") := by decide +kernel
theorem bt_set : bootBuiltins "set" = some (.type "set") := by decide +kernel
end DL

set_option Elab.async false
set_option linter.all false
set_option maxRecDepth 100000
set_option maxHeartbeats 4000000
/-! DLn: plain facts about data: layable, equal, sorted, cut, numbers' signs. -/
namespace DL
open PySem PySem.Spec PyProof.Rows L2

/-! ### layable -/
def lay (n : Nat) (d : D) : Prop := d.py.canLay0 = true ∧ d.py.depth ≤ n
theorem lay.shp {d : D} {n : Nat} (h : lay n d) (hn : n ≤ 64 := by decide) : d.shp := by
  show SeqAt.shaped d.py = true
  unfold SeqAt.shaped
  rw [h.1]
  simp only [Bool.true_and, decide_eq_true_eq]
  exact Nat.le_trans h.2 hn
def chs (l : List Nat) : Prop := ∀ c ∈ l, c < 1114112
theorem lay_int (i : Int) : lay 1 (.int i) := by constructor <;> simp [D.py, PyData.canLay0, PyData.depth]
theorem lay_bl (i : Bool) : lay 1 (.bl i) := by constructor <;> simp [D.py, PyData.canLay0, PyData.depth]
theorem lay_non : lay 1 .non := by constructor <;> simp [D.py, PyData.canLay0, PyData.depth]
theorem lay_str {l : List Nat} (h : chs l) : lay 1 (.str l) := by
  constructor
  · simp only [D.py, PyData.canLay0, PyData.strOk, S]
    simpa using (show ∀ x, x ∈ l → x < 1114112 from h)
  · simp [D.py, PyData.depth]
theorem lays {n : Nat} : ∀ {ds : List D}, (∀ d ∈ ds, lay n d) → PyData.canLayAll0 (pys ds) = true ∧ PyData.depthAll (pys ds) ≤ n
  | [], _ => by simp [pys, PyData.canLayAll0, PyData.depthAll]
  | d :: ds, h => by
    have h1 := h d (List.mem_cons_self ..)
    have h2 := lays (ds := ds) fun e he => h e (List.mem_cons_of_mem _ he)
    simp only [pys, PyData.canLayAll0, PyData.depthAll, h1.1, h2.1, Bool.and_self, true_and]
    have := h1.2
    have := h2.2
    omega
theorem lay_lst {n : Nat} {ds : List D} (h : ∀ d ∈ ds, lay n d) : lay (n + 1) (.lst ds) := by
  have := lays h
  constructor
  · simp only [D.py, PyData.canLay0]; exact this.1
  · simp only [D.py, PyData.depth]; omega
theorem lay_tup {n : Nat} {ds : List D} (h : ∀ d ∈ ds, lay n d) : lay (n + 1) (.tup ds) := by
  have := lays h
  constructor
  · simp only [D.py, PyData.canLay0]; exact this.1
  · simp only [D.py, PyData.depth]; omega
theorem lay_map {α : Type} {n : Nat} {f : α → D} {xs : List α} (h : ∀ x ∈ xs, lay n (f x)) : ∀ d ∈ xs.map f, lay n d := fun d hd => by
  obtain ⟨x, hx, rfl⟩ := List.mem_map.mp hd
  exact h x hx
theorem shp_ints (ns : List Int) : D.shp (.lst (ns.map .int)) := (lay_lst (lay_map fun x _ => lay_int x)).shp
theorem shp_intsT (ns : List Int) : D.shp (.tup (ns.map .int)) := (lay_tup (lay_map fun x _ => lay_int x)).shp
theorem shp_bls (ns : List Bool) : D.shp (.lst (ns.map .bl)) := (lay_lst (lay_map fun x _ => lay_bl x)).shp
theorem shp_strs {ls : List (List Nat)} (h : ∀ l ∈ ls, chs l) : D.shp (.lst (ls.map .str)) := (lay_lst (lay_map fun x hx => lay_str (h x hx))).shp
theorem shp_strsT {ls : List (List Nat)} (h : ∀ l ∈ ls, chs l) : D.shp (.tup (ls.map .str)) := (lay_tup (lay_map fun x hx => lay_str (h x hx))).shp
theorem shp_int (i : Int) : D.shp (.int i) := (lay_int i).shp
theorem shp_bl (i : Bool) : D.shp (.bl i) := (lay_bl i).shp
theorem shp_str {l : List Nat} (h : chs l) : D.shp (.str l) := (lay_str h).shp

/-! ### equal -/
theorem eqv_int (i j : Int) : D.eqv (.int i) (.int j) = decide (i = j) := by
  unfold D.eqv; simp only [D.py, PyData.eqv]; by_cases h : i = j <;> simp [h]
theorem eqv_bl (i j : Bool) : D.eqv (.bl i) (.bl j) = decide (i = j) := by
  unfold D.eqv; simp only [D.py, PyData.eqv]; by_cases h : i = j <;> simp [h]
theorem eqv_str (a b : List Nat) : D.eqv (.str a) (.str b) = decide (a = b) := by
  unfold D.eqv; simp only [D.py, PyData.eqv]
  by_cases h : a = b
  · subst h; simp
  · rw [decide_eq_false h]
    exact beq_false_of_ne fun e => h (S_inj e)
def eqvs (ds es : List D) : Bool := PyData.eqvAll (pys ds) (pys es)
theorem eqv_lst (ds es : List D) : D.eqv (.lst ds) (.lst es) = eqvs ds es := by unfold D.eqv eqvs; simp only [D.py, PyData.eqv]
theorem eqv_tup (ds es : List D) : D.eqv (.tup ds) (.tup es) = eqvs ds es := by unfold D.eqv eqvs; simp only [D.py, PyData.eqv]
theorem eqvs_nil : eqvs [] [] = true := by simp [eqvs, pys, PyData.eqvAll]
theorem eqvs_cons (d e : D) (ds es : List D) : eqvs (d :: ds) (e :: es) = (D.eqv d e && eqvs ds es) := by simp [eqvs, pys, PyData.eqvAll, D.eqv]
theorem eqvs_map {α : Type} [DecidableEq α] {f : α → D} (hf : ∀ x y, D.eqv (f x) (f y) = decide (x = y)) : ∀ (xs ys : List α), eqvs (xs.map f) (ys.map f) = decide (xs = ys)
  | [], [] => by simp [eqvs_nil]
  | x :: xs, y :: ys => by
    rw [List.map_cons, List.map_cons, eqvs_cons, hf, eqvs_map hf xs ys]
    by_cases h1 : x = y <;> by_cases h2 : xs = ys <;> simp [h1, h2]
  | [], y :: ys => by simp [eqvs, pys, PyData.eqvAll]
  | x :: xs, [] => by simp [eqvs, pys, PyData.eqvAll]
theorem eqv_ints (xs ys : List Int) : D.eqv (.lst (xs.map .int)) (.lst (ys.map .int)) = decide (xs = ys) := (eqv_lst _ _).trans (eqvs_map eqv_int xs ys)
theorem eqv_intsT (xs ys : List Int) : D.eqv (.tup (xs.map .int)) (.tup (ys.map .int)) = decide (xs = ys) := (eqv_tup _ _).trans (eqvs_map eqv_int xs ys)
theorem eqv_strs (xs ys : List (List Nat)) : D.eqv (.lst (xs.map .str)) (.lst (ys.map .str)) = decide (xs = ys) := (eqv_lst _ _).trans (eqvs_map eqv_str xs ys)
theorem eqv_bls (xs ys : List Bool) : D.eqv (.lst (xs.map .bl)) (.lst (ys.map .bl)) = decide (xs = ys) := (eqv_lst _ _).trans (eqvs_map eqv_bl xs ys)
theorem any_map {α : Type} [DecidableEq α] {f : α → D} (hf : ∀ x y, D.eqv (f x) (f y) = decide (x = y)) (a : α) : ∀ (xs : List α), ((xs.map f).any fun z => D.eqv z (f a)) = decide (a ∈ xs)
  | [] => by simp
  | x :: xs => by
    rw [List.map_cons, List.any_cons, any_map hf a xs, hf]
    by_cases h1 : x = a
    · simp [h1]
    · simp [h1, Ne.symm h1]
theorem any_ints (i : Int) (ns : List Int) : ((ns.map D.int).any fun z => D.eqv z (.int i)) = decide (i ∈ ns) := any_map eqv_int i ns
theorem any_strs (i : List Nat) (ns : List (List Nat)) : ((ns.map D.str).any fun z => D.eqv z (.str i)) = decide (i ∈ ns) := by
  rw [any_map eqv_str i ns]; congr 1 <;> simp
theorem flat_ints (ns : List Int) : (ns.map D.int).all D.flat = true := by simp [D.flat]
theorem flat_strs (ns : List (List Nat)) : (ns.map D.str).all D.flat = true := by simp [D.flat]

/-! ### sorted -/
theorem dle_int (i j : Int) : dle (.int i) (.int j) = decide (i ≤ j) := by
  have := congrFun (congrFun (PySem.W.dataLe_int (fun b : Int => b)) i) j
  exact this
theorem dle_str (a b : List Nat) : dle (.str a) (.str b) = decide (a ≤ b) := by
  have := congrFun (congrFun (PySem.W.dataLe_str (fun b : List Nat => S b)) a) b
  simp only [list_S] at this
  exact this
theorem sort_ints (ns : List Int) : (ns.map D.int).mergeSort dle = (ns.mergeSort fun a b => decide (a ≤ b)).map .int := (List.map_mergeSort (fun a _ b _ => (dle_int a b).symm)).symm
theorem sort_strs (ns : List (List Nat)) : (ns.map D.str).mergeSort dle = (ns.mergeSort fun a b => decide (a ≤ b)).map .str := (List.map_mergeSort (fun a _ b _ => (dle_str a b).symm)).symm
theorem srt_ints (ns : List Int) : Srt (ns.map .int) := ⟨fun d hd => by obtain ⟨x, _, rfl⟩ := List.mem_map.mp hd; exact shp_int x,
  by rw [List.map_map]; exact PySem.W.AllAlike.of fun _ _ => by simp [D.py, PySem.W.alike], by rw [List.map_map]; exact PySem.W.Sortable.others fun b => by simp [D.py]⟩
theorem srt_strs {ls : List (List Nat)} (h : ∀ l ∈ ls, chs l) : Srt (ls.map .str) := ⟨fun d hd => by obtain ⟨x, hx, rfl⟩ := List.mem_map.mp hd; exact shp_str (h x hx),
  by rw [List.map_map]; exact PySem.W.AllAlike.of fun _ _ => by simp [D.py, PySem.W.alike], by rw [List.map_map]; exact PySem.W.Sortable.others fun b => by simp [D.py]⟩
def isort (ns : List Int) : List Int := ns.mergeSort fun a b => decide (a ≤ b)
def ssort (ns : List (List Nat)) : List (List Nat) := ns.mergeSort fun a b => decide (a ≤ b)
theorem isort_pw (ns : List Int) : (isort ns).Pairwise (· ≤ ·) := by
  have := List.pairwise_mergeSort (le := fun a b : Int => decide (a ≤ b)) (fun a b c h1 h2 => by simp only [decide_eq_true_eq] at *; omega) (fun a b => by simp only [Bool.or_eq_true, decide_eq_true_eq]; omega) ns
  exact this.imp fun h => by simpa using h
theorem isort_perm (ns : List Int) : (isort ns).Perm ns := List.mergeSort_perm ns _
theorem slt_tri (a b : List Nat) : a < b ∨ a = b ∨ b < a := by
  by_cases h : a < b
  · exact .inl h
  · by_cases h2 : b < a
    · exact .inr (.inr h2)
    · exact .inr (.inl (List.le_antisymm (List.not_lt.mp h2) (List.not_lt.mp h)))
theorem ssort_pw (ns : List (List Nat)) : (ssort ns).Pairwise (· ≤ ·) := by
  have := List.pairwise_mergeSort (le := fun a b : List Nat => decide (a ≤ b)) (fun a b c h1 h2 => by simp only [decide_eq_true_eq] at *; exact List.le_trans h1 h2) (fun a b => by simp only [Bool.or_eq_true, decide_eq_true_eq]; exact List.le_total a b) ns
  exact this.imp fun h => by simpa using h
theorem ssort_perm (ns : List (List Nat)) : (ssort ns).Perm ns := List.mergeSort_perm ns _
theorem isort_iff (ns : List Int) : ns = isort ns ↔ ns.Pairwise (· ≤ ·) := ⟨fun h => h ▸ isort_pw ns, fun h => (List.mergeSort_of_pairwise (h.imp fun h => by simpa using h)).symm⟩
theorem ssort_iff (ns : List (List Nat)) : ns = ssort ns ↔ ns.Pairwise (· ≤ ·) := ⟨fun h => h ▸ ssort_pw ns, fun h => (List.mergeSort_of_pairwise (h.imp fun h => by simpa using h)).symm⟩

/-! ### cut -/
theorem cut_from {α : Type} (xs : List α) (n : Nat) : cut xs (some (n : Int)) none = xs.drop n := by
  unfold cut
  rw [show HT.sIx xs.length 0 (some ((n : Nat) : Int)) = min n xs.length from HT.sIx_nat xs.length 0 n, HT.sIx_none]
  by_cases h : n ≤ xs.length
  · rw [Nat.min_eq_left h, List.take_of_length_le (by simp)]
  · rw [Nat.min_eq_right (by omega), List.drop_of_length_le (Nat.le_refl _), List.drop_of_length_le (by omega)]; simp
theorem cut_to {α : Type} (xs : List α) (n : Nat) : cut xs none (some (n : Int)) = xs.take n := by
  unfold cut
  rw [show HT.sIx xs.length xs.length (some ((n : Nat) : Int)) = min n xs.length from HT.sIx_nat xs.length xs.length n, HT.sIx_none]
  simp only [List.drop_zero, Nat.sub_zero]
  by_cases h : n ≤ xs.length
  · rw [Nat.min_eq_left h]
  · rw [Nat.min_eq_right (by omega), List.take_of_length_le (Nat.le_refl _), List.take_of_length_le (by omega)]
theorem cut_map {α β : Type} (f : α → β) (xs : List α) (a b : Option Int) : cut (xs.map f) a b = (cut xs a b).map f := by unfold cut; simp

/-! ### ranges -/
def rngI (lo : Int) (n : Nat) : List Int := (List.range n).map fun i => lo + (i : Nat)
theorem rngD_eq (lo : Int) (n : Nat) : rngD lo n = (rngI lo n).map D.int := by simp [rngD, rngI]
theorem mem_rngI {lo x : Int} {n : Nat} : x ∈ rngI lo n ↔ lo ≤ x ∧ x < lo + n := by
  unfold rngI
  rw [List.mem_map]
  constructor
  · rintro ⟨i, hi, rfl⟩; rw [List.mem_range] at hi; omega
  · intro h; exact ⟨(x - lo).toNat, by rw [List.mem_range]; omega, by omega⟩

/-! ### comprehensions over mapped lists -/
theorem comp_mapF {α : Type} {f : α → D} {xs : List α} {tg : Tg} {te : TEd} {vs : List Nat} {Q : R → Ev → Prop} {ε1 : Ev} (g : α → D) (hv : vs.all (slotFr ε1) = true)
    (hb : ∀ x, x ∈ xs → ∀ P : D → Prop, P (g x) → ∃ ε2, tg.put (f x) (wipeE ε1 vs) = some ε2 ∧ te ε2 fun r ε4 => r.free ∧ wipeE ε4 vs = wipeE ε1 vs ∧ P r.d)
    (hq : Q (.ow (xs.map g)) ε1) : COMP tg dYes te vs Q (xs.map f) ε1 := by
  refine ⟨hv, fun i acc => acc = (xs.take i).map g, by simp, fun i d acc hd ha => ?_, fun acc _ e => ?_⟩
  · subst ha
    rw [List.getElem?_map, Option.map_eq_some_iff] at hd
    obtain ⟨x, hx, rfl⟩ := hd
    exact hb x (List.mem_of_getElem? hx) (fun y => (xs.take i).map g ++ [y] = (xs.take (i + 1)).map g) (by rw [take_get hx]; simp)
  · rw [e, List.length_map, List.take_length]; exact hq
theorem comp_filterF {α : Type} {f : α → D} {xs : List α} {tg : Tg} {tt : TTd} {te : TEd} {vs : List Nat} {Q : R → Ev → Prop} {ε1 : Ev} (c : α → Bool) (g : α → D) (hv : vs.all (slotFr ε1) = true)
    (hb : ∀ x, x ∈ xs → ∀ P : Option D → Prop, P (if c x = true then some (g x) else none) → ∃ ε2, tg.put (f x) (wipeE ε1 vs) = some ε2 ∧ tt ε2 fun b ε3 => if b = true then te ε3 fun r ε4 => r.free ∧ wipeE ε4 vs = wipeE ε1 vs ∧ P (some r.d) else wipeE ε3 vs = wipeE ε1 vs ∧ P none)
    (hq : Q (.ow ((xs.filter c).map g)) ε1) : COMP tg tt te vs Q (xs.map f) ε1 := by
  refine ⟨hv, fun i acc => acc = ((xs.take i).filter c).map g, by simp, fun i d acc hd ha => ?_, fun acc _ e => ?_⟩
  · subst ha
    rw [List.getElem?_map, Option.map_eq_some_iff] at hd
    obtain ⟨x, hx, rfl⟩ := hd
    have h := hb x (List.mem_of_getElem? hx) (fun y => ((xs.take i).filter c).map g ++ y.toList = ((xs.take (i + 1)).filter c).map g) ?_
    · simpa using h
    · rw [take_get hx, List.filter_append, List.map_append]
      by_cases hc : c x = true
      · rw [if_pos hc, List.filter_cons_of_pos hc]; rfl
      · rw [if_neg hc, List.filter_cons_of_neg hc]; rfl
  · rw [e, List.length_map, List.take_length]; exact hq
/-- a comprehension of drawn things: all keep a property -/
theorem comp_all {tg : Tg} {te : TEd} {vs : List Nat} {Q : R → Ev → Prop} {ds : List D} {ε1 : Ev} (Rp : D → Prop) (hv : vs.all (slotFr ε1) = true)
    (hb : ∀ d, d ∈ ds → ∀ P : D → Prop, (∀ e, Rp e → P e) → ∃ ε2, tg.put d (wipeE ε1 vs) = some ε2 ∧ te ε2 fun r ε4 => r.free ∧ wipeE ε4 vs = wipeE ε1 vs ∧ P r.d)
    (hq : ∀ es, es.length = ds.length → (∀ e ∈ es, Rp e) → Q (.ow es) ε1) : COMP tg dYes te vs Q ds ε1 := by
  refine ⟨hv, fun i acc => acc.length = min i ds.length ∧ ∀ e ∈ acc, Rp e, by simp, fun i d acc hd ha => ?_, fun acc _ e => ?_⟩
  · have hi := List.getElem?_eq_some_iff.mp hd |>.1
    refine hb d (List.mem_of_getElem? hd) (fun y => (acc ++ [y]).length = min (i + 1) ds.length ∧ ∀ e ∈ acc ++ [y], Rp e) fun e he => ⟨?_, fun z hz => ?_⟩
    · rw [List.length_append, ha.1]; simp; omega
    · rcases List.mem_append.mp hz with h | h
      · exact ha.2 z h
      · rw [List.mem_singleton.mp h]; exact he
  · exact hq acc (by rw [e.1]; omega) e.2
theorem for_keepF {α : Type} {f : α → D} {xs : List α} {tg : Tg} {tb : TSd} {B : DE} {ε1 : Ev} (I : Ev → Prop) (h0 : I ε1)
    (hb : ∀ x, x ∈ xs → ∀ ε, I ε → ∃ ε2, tg.put (f x) ε = some ε2 ∧ tb { nx := I, rt := B.rt, ct := I, bk := B.nx } ε2) (hq : ∀ ε, I ε → B.nx ε) : FOR tg tb B (xs.map f) ε1 :=
  for_keep I h0 (fun d hd ε hI => by obtain ⟨x, hx, rfl⟩ := List.mem_map.mp hd; exact hb x hx ε hI) hq
/-- a for loop by what it has taken -/
theorem for_takeF {α : Type} {f : α → D} {xs : List α} {tg : Tg} {tb : TSd} {B : DE} {ε1 : Ev} (I : List α → Ev → Prop) (h0 : I [] ε1)
    (hb : ∀ (pre : List α) x, (∃ post, xs = pre ++ x :: post) → ∀ ε, I pre ε → ∃ ε2, tg.put (f x) ε = some ε2 ∧ tb { nx := I (pre ++ [x]), rt := B.rt, ct := I (pre ++ [x]), bk := B.nx } ε2) (hq : ∀ ε, I xs ε → B.nx ε) : FOR tg tb B (xs.map f) ε1 := by
  refine ⟨fun i => I (xs.take i), by simpa using h0, fun i d ε hd hI => ?_, fun ε h => hq ε (by rw [List.length_map, List.take_length] at h; exact h)⟩
  rw [List.getElem?_map, Option.map_eq_some_iff] at hd
  obtain ⟨x, hx, rfl⟩ := hd
  show ∃ ε2, tg.put (f x) ε = some ε2 ∧ tb { nx := I (xs.take (i + 1)), rt := B.rt, bk := B.nx, ct := I (xs.take (i + 1)) } ε2
  rw [take_get hx]
  have hi := List.getElem?_eq_some_iff.mp hx
  refine hb (xs.take i) x ⟨xs.drop (i + 1), ?_⟩ ε hI
  obtain ⟨hi, rfl⟩ := hi
  rw [← List.drop_eq_getElem_cons hi, List.take_append_drop]

/-! ### numbers' signs -/
def Num (n : Int) : Prop := 0 ≤ n ∧ n < 10 ^ 18
theorem istr_nat (n : Nat) : istr (n : Int) = TL.numL n := by
  unfold istr
  exact TL.tl_num n
theorem istr_eq {n : Int} (h : 0 ≤ n) : istr n = TL.numL n.toNat := by
  have := istr_nat n.toNat
  rwa [Int.toNat_of_nonneg h] at this
theorem istr_len {n : Int} {k : Nat} (h : 0 ≤ n) (hk : 0 < k) (h2 : n < 10 ^ k) : (istr n).length ≤ k := by
  rw [istr_eq h]
  refine TL.numL_len hk ?_
  have : ((n.toNat : Nat) : Int) < ((10 ^ k : Nat) : Int) := by
    rw [Int.toNat_of_nonneg h, Int.natCast_pow]; exact h2
  exact Int.ofNat_lt.mp this
theorem istr_len_pos {n : Int} (h : 0 ≤ n) : 0 < (istr n).length := by
  rw [istr_eq h]
  exact List.length_pos_iff.mpr (TL.numL_ne _)
theorem log_small {n : Int} (h : Num n) : n.natAbs.log2 < 1920 := by
  have h1 : n.natAbs < 2 ^ 64 := by
    have := h.1; have := h.2
    have : (10 : Int) ^ 18 < 2 ^ 64 := by decide
    omega
  by_cases h0 : n.natAbs = 0
  · rw [h0]; decide
  · have := (Nat.log2_lt h0).mpr h1
    omega
theorem istr_digits {n : Int} (h : 0 ≤ n) : NumText.AllDigits (istr n) := by rw [istr_eq h]; exact TL.numL_digits _
theorem digits_chs {l : List Nat} (h : NumText.AllDigits l) : chs l := fun c hc => by have := (h c hc).2; omega
theorem istr_chs {n : Int} (h : 0 ≤ n) : chs (istr n) := digits_chs (istr_digits h)
theorem istr_val {n : Int} (h : 0 ≤ n) : (NumText.digitsVal (istr n) : Int) = n := by rw [istr_eq h, TL.numL_val]; omega
theorem istr_inj {m n : Int} (h : 0 ≤ m) (h2 : 0 ≤ n) (e : istr m = istr n) : m = n := by
  rw [← istr_val h, ← istr_val h2, e]
theorem int_istr {n : Int} (h : Num n) : PySem.intText? (S (istr n)) = some n := by
  have hl := istr_len h.1 (by decide) h.2
  have := intText_digits (x := S (istr n)) (by rw [list_S]; exact istr_digits h.1) (by rw [list_S]; exact List.length_pos_iff.mp (istr_len_pos h.1)) (by rw [S_len]; omega)
  rw [list_S, istr_val h.1] at this
  exact this
end DL

set_option Elab.async false
set_option linter.all false
set_option maxRecDepth 100000
set_option maxHeartbeats 4000000
/-! DLo: loops over texts, parallel assignment, a def with one keyword-only default. -/
namespace DL
open PySem PySem.Spec PyProof.Rows L2

/-! ### over a text -/
def dItS (te : TEd) : TId := fun ε Q => te ε fun r ε1 => ∃ l, r = .fr (.str l) ∧ l.length ≤ sizeLine ∧ Q (l.map fun c => D.str [c]) ε1
theorem e_dItS {te : TEd} {ε : Ev} {Q : List D → Ev → Prop} : dItS te ε Q = (te ε fun r ε1 => ∃ l, r = .fr (.str l) ∧ l.length ≤ sizeLine ∧ Q (l.map fun c => D.str [c]) ε1) := rfl
theorem walkD_str {T : Addr} {F : Hp} {l : List Nat} (hz : l.length ≤ sizeLine) : WalkD T F (Its (S l)) (l.map fun c => D.str [c]) := ⟨by rw [List.length_map]; exact hz, fun H2 F2 ex sub => by
  have sz : (S l).cps.size = l.length := by simp [S]
  refine ⟨fun i hi => ?_, ?_, fun i x H3 hi y => .inl ?_⟩
  · show i < (S l).cps.size
    rw [sz]; rw [List.length_map] at hi; exact hi
  · show (S l).cps.size ≤ _
    rw [sz, List.length_map]; exact Nat.le_refl _
  · obtain ⟨e, c, hc, rfl⟩ := y
    refine ⟨e, .str [c], ?_, .str [c]⟩
    have hc' : l[i]? = some c := by simpa [S] using hc
    rw [List.getElem?_map, hc']; rfl⟩
theorem qi_str {X : Cx} {tg e : Expr} {te : TEd} (he : QE X e te) : QI X tg e (dItS te) := by
  refine ⟨⟨fun pins s σ H R I ⟨G, ε, F, R0, h⟩ => ?_⟩, fun ε Q Q' m h => he.mono _ _ _ (fun r ε1 ⟨l, a, b, q⟩ => ⟨l, a, b, m _ _ q⟩) h⟩
  refine (pi_str (pe_here he R0 (P := fun v H1 r ε1 F1 q => q) fun _ _ _ _ _ _ q => q)).run pins s σ H R I ⟨rfl, rfl, he.mono _ _ _ (fun r ε1 ⟨l, a, b, q⟩ v H1 F1 R1 ex kp rv hl => ?_) h⟩
  subst a
  cases rv
  exact ⟨_, rfl, q _ H1 F1 R1 ex kp (walkD_str b)⟩

/-! ### a, b = x, y -/
def dPar2 (i j : Nat) (ta : TAd) : TSd := fun B ε => ta ε fun rs ε1 => ∃ d1 d2, rs = [.fr d1, .fr d2] ∧ B.nx ((ε1.set i (some (.fr d1))).set j (some (.fr d2)))
def dPar3 (i j l : Nat) (ta : TAd) : TSd := fun B ε => ta ε fun rs ε1 => ∃ d1 d2 d3, rs = [.fr d1, .fr d2, .fr d3] ∧ B.nx (((ε1.set i (some (.fr d1))).set j (some (.fr d2))).set l (some (.fr d3)))
theorem e_dPar2 {i j : Nat} {ta : TAd} {B : DE} {ε : Ev} : dPar2 i j ta B ε = (ta ε fun rs ε1 => ∃ d1 d2, rs = [.fr d1, .fr d2] ∧ B.nx ((ε1.set i (some (.fr d1))).set j (some (.fr d2)))) := rfl
theorem e_dPar3 {i j l : Nat} {ta : TAd} {B : DE} {ε : Ev} : dPar3 i j l ta B ε = (ta ε fun rs ε1 => ∃ d1 d2 d3, rs = [.fr d1, .fr d2, .fr d3] ∧ B.nx (((ε1.set i (some (.fr d1))).set j (some (.fr d2))).set l (some (.fr d3)))) := rfl
theorem e_par2 {a b : D} {P : D → D → Prop} : (∃ d1 d2, [R.fr a, R.fr b] = [R.fr d1, R.fr d2] ∧ P d1 d2) = P a b := propext ⟨fun ⟨d1, d2, e, p⟩ => by cases e; exact p, fun p => ⟨a, b, rfl, p⟩⟩
theorem e_par3 {a b c : D} {P : D → D → D → Prop} : (∃ d1 d2 d3, [R.fr a, R.fr b, R.fr c] = [R.fr d1, R.fr d2, R.fr d3] ∧ P d1 d2 d3) = P a b c := propext ⟨fun ⟨d1, d2, d3, e, p⟩ => by cases e; exact p, fun p => ⟨a, b, c, rfl, p⟩⟩
section
variable {X : Cx} {i j l : Nat} {x y z : Str} {a b c : Expr} {ta : TAd} {px py pz pt pos : Pos} {kt k2 pt2}
theorem qs_par (hN : X.N.Nodup) (ha : QA X [a, b] ta) (hc : X.calm = true := by rfl) (hi : X.N[i]? = some x := by rfl) (hj : X.N[j]? = some y := by rfl) (hij : i ≠ j := by decide)
    (hx : X.env.scope.names.lookup x = some .local := by rfl) (hy : X.env.scope.names.lookup y = some .local := by rfl)
    (hw : swappedStores [.Tuple [.Name x px, .Name y py] kt pt] (.Tuple [a, b] k2 pt2) X.env = pure (some [x, y]) := by rfl)
    (hs : swapsWithSole [.Tuple [.Name x px, .Name y py] kt pt] (.Tuple [a, b] k2 pt2) pos.line X.env = pure false := by rfl) :
    QS X (.Assign [.Tuple [.Name x px, .Name y py] kt pt] (.Tuple [a, b] k2 pt2) pos) (dPar2 i j ta) := by
  refine ⟨ps_imp (ps_par hc hN hi hj hij hx hy ha.pa hw hs) fun D σ H ⟨G, ε, F, R0, h⟩ => ?_, fun D D' ε l h => ha.mono _ _ _ (fun rs ε1 ⟨d1, d2, e, q⟩ => ⟨d1, d2, e, l.nx _ q⟩) h⟩
  refine ⟨G, ε, F, R0, ha.mono _ _ _ (fun rs ε1 ⟨d1, d2, e, q⟩ vs H1 F1 R1 ex kp rv no => ?_) h⟩
  subst e
  cases rv with | cons r1 rv =>
  cases rv with | cons r2 rv =>
  cases rv
  exact ⟨_, _, rfl, q _ H1 F1 ((R1.store r1 (fun o => o.elim) trivial).store r2 (fun o => o.elim) trivial) ex⟩
theorem qs_par3 (hN : X.N.Nodup) (ha : QA X [a, b, c] ta) (hc : X.calm = true := by rfl) (hi : X.N[i]? = some x := by rfl) (hj : X.N[j]? = some y := by rfl) (hl : X.N[l]? = some z := by rfl) (hij : i ≠ j := by decide) (hil : i ≠ l := by decide) (hjl : j ≠ l := by decide)
    (hx : X.env.scope.names.lookup x = some .local := by rfl) (hy : X.env.scope.names.lookup y = some .local := by rfl) (hz : X.env.scope.names.lookup z = some .local := by rfl)
    (hw : swappedStores [.Tuple [.Name x px, .Name y py, .Name z pz] kt pt] (.Tuple [a, b, c] k2 pt2) X.env = pure (some [x, y, z]) := by rfl)
    (hs : swapsWithSole [.Tuple [.Name x px, .Name y py, .Name z pz] kt pt] (.Tuple [a, b, c] k2 pt2) pos.line X.env = pure false := by rfl) :
    QS X (.Assign [.Tuple [.Name x px, .Name y py, .Name z pz] kt pt] (.Tuple [a, b, c] k2 pt2) pos) (dPar3 i j l ta) := by
  refine ⟨ps_imp (ps_par3 hc hN hi hj hl hij hil hjl hx hy hz ha.pa hw hs) fun D σ H ⟨G, ε, F, R0, h⟩ => ?_, fun D D' ε l h => ha.mono _ _ _ (fun rs ε1 ⟨d1, d2, d3, e, q⟩ => ⟨d1, d2, d3, e, l.nx _ q⟩) h⟩
  refine ⟨G, ε, F, R0, ha.mono _ _ _ (fun rs ε1 ⟨d1, d2, d3, e, q⟩ vs H1 F1 R1 ex kp rv no => ?_) h⟩
  subst e
  cases rv with | cons r1 rv =>
  cases rv with | cons r2 rv =>
  cases rv with | cons r3 rv =>
  cases rv
  exact ⟨_, _, _, rfl, q _ H1 F1 (((R1.store r1 (fun o => o.elim) trivial).store r2 (fun o => o.elim) trivial).store r3 (fun o => o.elim) trivial) ex⟩
end

/-! ### f(a, *, k = default) -/
structure CalW (P : Program) (w : World) (K : PySem.W.Frag) (mg : Str → Option Value) (base : Heap) (k : Nat) (x kw : Str) (ps : List Str) (f : Addr) (fd : FuncData) (df : Int) (sp : DSp) : Prop where
  ok : FnOk P w K mg base CX0 k f fd ps (liftSp sp)
  mono : MonoD sp
  at_ : mg x = some (.ref f)
  kp : PySem.W.keepIn K (.ref f) = true
  bd : ∃ ds, Vals [V.int df] ds ∧ Binds K fd ps ds
  kb : KBn K fd ps 1 [kw] (fun us ws => us ++ ws) (fun vs zs => vs ++ zs)
theorem CalW.up {P : Program} {w : World} {K : PySem.W.Frag} {mg : Str → Option Value} {base : Heap} {j k : Nat} {x kw : Str} {ps : List Str} {f : Addr} {fd : FuncData} {df : Int} {sp : DSp} (C : CalW P w K mg base j x kw ps f fd df sp) (h : j ≤ k) : CalW P w K mg base k x kw ps f fd df sp := ⟨C.ok.mono h, C.mono, C.at_, C.kp, C.bd, C.kb⟩
def dCallD (df : Int) (sp : DSp) (te : TEd) : TEd := fun ε Q => te ε fun r ε1 => sp [r.d, .int df] fun r' => callOk [r.fz] r' ∧ Q r' ε1
def dCallK (sp : DSp) (te tk : TEd) : TEd := fun ε Q => te ε fun r ε1 => tk ε1 fun r2 ε2 => sp [r.d, r2.d] fun r' => callOk [r.fz, r2.fz] r' ∧ Q r' ε2
theorem e_dCallD {df : Int} {sp : DSp} {te : TEd} {ε : Ev} {Q : R → Ev → Prop} : dCallD df sp te ε Q = (te ε fun r ε1 => sp [r.d, .int df] fun r' => callOk [r.fz] r' ∧ Q r' ε1) := rfl
theorem e_dCallK {sp : DSp} {te tk : TEd} {ε : Ev} {Q : R → Ev → Prop} : dCallK sp te tk ε Q = (te ε fun r ε1 => tk ε1 fun r2 ε2 => sp [r.d, r2.d] fun r' => callOk [r.fz, r2.fz] r' ∧ Q r' ε2) := rfl
section
variable {X : Cx} {k : Nat} {x kw : Str} {ps : List Str} {f : Addr} {fd : FuncData} {df : Int} {sp : DSp} {e e2 : Expr} {te tk : TEd} {p pos kpos : Pos}
theorem qe_callD (C : CalW X.prog X.w X.K X.mg X.base k x kw ps f fd df sp) (hr : Room k X.A) (hg : Gl X x) (he0 : QE X e te)
    (hdb : (x == ("__debug__" : Str)) = false := by decide) (he : starEach (e :: []) X.env = (false, eval e X.env) :: starEach [] X.env := by rfl) (hpl : (backTo pos (starEach [] X.env)).any (·.1) = false := by rfl) :
    QE X (.Call (.Name x p) [e] [] pos) (dCallD df sp te) := by
  have ha : QA X [e] (dCons te dNil) := qa_cons he0 qa_nil he
  obtain ⟨ds, hv, hb⟩ := C.bd
  refine ⟨⟨fun pins s σ H Q I ⟨G, ε, F0, R0, h⟩ => ?_⟩, fun ε Q Q' m h => he0.mono _ _ _ (fun r ε1 q => C.mono _ _ _ (fun r' ⟨a, b⟩ => ⟨a, m _ _ b⟩) q) h⟩
  refine (pe_call C.ok hr hg C.at_ C.kp hb hv pass0 (pa_line ha.pa) hdb he hpl).run pins s σ H Q I ⟨G, ε, F0, R0, he0.mono _ _ _ (fun r ε1 q vs H1 F1 R1 ex kp rv no hl => ?_) h⟩
  cases rv with | cons r1 rv =>
  cases rv
  refine call_imp (rs := [r.fz, .fr (.int df)]) C.mono R1 ex kp (.cons r1 (.cons (.int df) .nil)) (fun r' hr' => ?_) hl ?_
  · rcases List.mem_cons.mp hr' with rfl | hr'
    · exact R.fz_own _
    · rw [List.mem_singleton.mp hr']; exact fun o => o.elim
  · show sp [r.fz.d, .int df] _
    rw [R.fz_d]
    exact C.mono _ _ _ (fun r' ⟨a, b⟩ => ⟨by
      rcases a with a | a
      · exact .inl (by simpa using ⟨by simpa using a, rfl⟩)
      · exact .inr a, b⟩) q
theorem qe_callKw (C : CalW X.prog X.w X.K X.mg X.base k x kw ps f fd df sp) (hr : Room k X.A) (hg : Gl X x) (he0 : QE X e te) (hk0 : QE X e2 tk)
    (hall : (backToKw pos (keywordEach [⟨some kw, e2, kpos⟩] X.env)).all (·.1.isSome) = true := by rfl) (hks : (backToKw pos (keywordEach [⟨some kw, e2, kpos⟩] X.env)).filterMap (·.1) = [kw] := by rfl)
    (hdb : (x == ("__debug__" : Str)) = false := by decide) (he : starEach (e :: []) X.env = (false, eval e X.env) :: starEach [] X.env := by rfl)
    (hpl : ((backTo pos (starEach [e] X.env)).any (·.1) || (backToKw pos (keywordEach [⟨some kw, e2, kpos⟩] X.env)).any (·.1.isNone)) = false := by rfl) :
    QE X (.Call (.Name x p) [e] [⟨some kw, e2, kpos⟩] pos) (dCallK sp te tk) := by
  have ha : QA X [e] (dCons te dNil) := qa_cons he0 qa_nil he
  refine ⟨⟨fun pins s σ H Q I ⟨G, ε, F0, R0, h⟩ => ?_⟩, fun ε Q Q' m h => he0.mono _ _ _ (fun r ε1 q => hk0.mono _ _ _ (fun r2 ε2 q => C.mono _ _ _ (fun r' ⟨a, b⟩ => ⟨a, m _ _ b⟩) q) q) h⟩
  refine (pe_callN C.ok hr hg C.at_ C.kp C.kb pass0 ha.pa (pk_cons (pe_line hk0.pe) pk_nil) hall hks hdb he hpl).run pins s σ H Q I ⟨G, ε, F0, R0, he0.mono _ _ _ (fun r ε1 q vs H1 F1 R1 ex kp rv no => ?_) h⟩
  cases rv with | cons r1 rv =>
  cases rv
  refine ⟨G, ε1, F1, R1, hk0.mono _ _ _ (fun r2 ε2 q v2 H2 F2 R2 ex2 kp2 rv2 ln2 hl2 => ?_) q⟩
  have r1' := r1.keep R1 (R.fz_own _) ex2 kp2
  obtain ⟨F3, R3, ex3, rv3⟩ := R2.let_go rv2 ln2 fun a vs h => hl2 a vs (.inl h)
  have r1'' := r1'.keep R2 (R.fz_own _) ex3 (.refl _ _)
  refine ⟨rfl, rfl, ?_⟩
  refine call_imp (rs := [r.fz, r2.fz]) C.mono R3 (ex.trans (ex2.trans ex3)) (kp.trans kp2) (.cons r1'' (.cons rv3 .nil)) (fun r' hr' => ?_) hl2 ?_
  · rcases List.mem_cons.mp hr' with rfl | hr'
    · exact R.fz_own _
    · rw [List.mem_singleton.mp hr']; exact R.fz_own _
  · show sp [r.fz.d, r2.fz.d] _
    rw [R.fz_d, R.fz_d]
    exact q
end
/-- such a def's bindings -/
theorem calw_binds {K : PySem.W.Frag} {x qual : Str} {params : Arguments} {body : List Stmt} {scope : Scope} {f : Addr} {fd : FuncData} {p1 kw : Str} {df : Int} (F : FunD K x qual params body scope [] [(kw, V.int df)] f fd)
    (h0 : ∀ (D : Addr) (doc pm : Value) (an : Option Addr) (cdv ct : Value) (u k : Value), KwChain D [(kw, k)] (bindArgs (PySem.W.fnOf x qual params body scope .none (.ref D) doc pm an cdv ct) ⟨[u], []⟩) [(p1, u), (kw, k)])
    (h1 : ∀ (D : Addr) (doc pm : Value) (an : Option Addr) (cdv ct : Value) (u w : Value), bindArgs (PySem.W.fnOf x qual params body scope .none (.ref D) doc pm an cdv ct) ⟨[u], [(kw, w)]⟩ = pure [(p1, u), (kw, w)]) :
    (∃ ds, Vals [V.int df] ds ∧ Binds K fd [p1, kw] ds) ∧ KBn K fd [p1, kw] 1 [kw] (fun us ws => us ++ ws) (fun vs zs => vs ++ zs) := by
  constructor
  · exact F.binds0 1 (by simp) rfl fun D doc pm an cdv ct us ks e1 e2 => by
      match us, ks, e1, e2 with
      | [u], [k], _, _ => exact h0 D doc pm an cdv ct u k
  · obtain ⟨mv, h⟩ := F.kbinds0 (ps := [p1, kw]) 1 [kw] [] (fun us mv ws => us ++ ws) (by simp) (by simp) (fun a b c => a.append c) (fun D doc pm an cdv ct us mv ws e1 e2 e3 => by
      match us, mv, ws, e1, e2, e3 with
      | [u], [], [w], _, _, _ => exact h1 D doc pm an cdv ct u w)
    exact h
end DL

set_option Elab.async false
set_option linter.all false
set_option maxRecDepth 100000
set_option maxHeartbeats 4000000
/-! DLp: zip of a tuple and a list, counting down, reversed lists, more parallel assignment. -/
namespace DL
open PySem PySem.Spec PyProof.Rows L2

/-! ### zip of a tuple and a list -/
def ItzM (K : PySem.W.Frag) (a b : Addr) : It :=
  ⟨fun i H => ∃ (us ws : List V) (u w : V), SqT K H a us ∧ SqL K H b ws ∧ us[i]? = some u ∧ ws[i]? = some w,
    fun i H v H' => ∃ q u w, v = .ref q ∧ H q = none ∧ H' = upd H q (.tup [u, w]) ∧ (∀ us, SqT K H a us → us[i]? = some u) ∧ ∀ ws, SqL K H b ws → ws[i]? = some w,
    fun i H => ∃ us ws : List V, SqT K H a us ∧ SqL K H b ws ∧ i ≤ us.length ∧ i ≤ ws.length ∧ (i = us.length ∨ i = ws.length)⟩
theorem turn_zipM {P : Program} {w : World} {K : PySem.W.Frag} {elts : List Expr} {kk : Nat} {tpos : Pos} {a b z TI TO i1 i2 : Addr} (S : ZipSep2 z TI TO i1 i2 [i1, a] [i2, b]) (ha : a ≠ i1) (hb : b ≠ i2) :
    Turn P w K (.Tuple elts kk tpos) (ItzM K a b) [z, TI, TO, i1, i2] z (fun i h => IsZip h z TI TO .none ∧ IsTupOf2 h TI (.ref i1) (.ref i2) ∧ (∃ x y, IsTupOf2 h TO x y) ∧ h.IsTupleIter i1 a i ∧ h.IsListIter i2 b i) where
  mem := by simp
  obj := fun i h st c hc => by
    obtain ⟨gz, gI, ⟨x, y, gO⟩, ⟨p1, q1, _, r1⟩, ⟨p2, q2, _, r2⟩⟩ := st
    have hc : c = z ∨ c = TI ∨ c = TO ∨ c = i1 ∨ c = i2 := by simpa using hc
    rcases hc with rfl | rfl | rfl | rfl | rfl
    · exact ⟨_, gz, fun v q => nomatch q⟩
    · exact ⟨_, gI, fun v q => nomatch q⟩
    · exact ⟨_, gO, fun v q => nomatch q⟩
    · exact ⟨p1, q1, fun v q => by rw [r1] at q; cases q⟩
    · exact ⟨p2, q2, fun v q => by rw [r2] at q; cases q⟩
  keep := fun i h h' ⟨gz, gI, ⟨x, y, gO⟩, g1, g2⟩ k => ⟨k z (by simp) _ gz, k TI (by simp) _ gI, ⟨x, y, k TO (by simp) _ gO⟩, g1.at fun o q => k i1 (by simp) o q, g2.at fun o q => k i2 (by simp) o q⟩
  item := by
    intro X eP ew eK hc i pins s σ H E I hf st hg
    subst eP ew eK
    obtain ⟨gz, gI, ⟨x0, y0, gO⟩, g1, g2⟩ := st
    obtain ⟨us, ws, u, v, hqu, hqw, hu, hw⟩ := hg
    obtain ⟨its, rv, p, _⟩ := I.tuple hqu
    obtain ⟨its2, rv2, p2, _⟩ := I.list hqw
    obtain ⟨m, hm, rm⟩ := rv.get hu
    obtain ⟨m2, hm2, rm2⟩ := rv2.get hw
    have hzl : z < s.heap.objs.size := Heap.lt_size gz
    have h0 : X.A.in1.handled = none := I.ok.hd hc
    have l1 : i < its.toArray.size := by
      have := (List.getElem?_eq_some_iff.mp hm).1
      simpa using this
    have l2 : i < its2.toArray.size := by
      have := (List.getElem?_eq_some_iff.mp hm2).1
      simpa using this
    refine wpAny_pyNext_zipD2_item S (Draws.tuple h0 i1 a ha its.toArray) (Draws.list h0 i2 b hb its2.toArray) gz gI gO ⟨g1, p⟩ ⟨g2, p2.isList⟩ l1 l2 fun x1 x2 h' tk e1 e2 z' TO' st1 st2 hT hsz hk => ?_
    have ex1 : x1 = m := by
      have a1 : its.toArray[i]? = some x1 := e1
      have a2 : its.toArray[i]? = some m := by simpa using hm
      exact Option.some.inj (a1.symm.trans a2)
    have ex2 : x2 = m2 := by
      have a1 : its2.toArray[i]? = some x2 := e2
      have a2 : its2.toArray[i]? = some m2 := by simpa using hm2
      exact Option.some.inj (a1.symm.trans a2)
    subst ex1 ex2
    refine ⟨_, rfl, wpAny_letOwnedTupleGo_zip (s := { s with heap := h', toks := tk }) z' fun h'' z'' sb => ?_⟩
    have hT2 : h''.get? s.heap.objs.size = some { cls := .type "tuple", data := .seq #[x1, x2] } := (sb.2 _ (Nat.ne_of_gt hzl)).trans hT
    have fresh : ObjOk X.prog X.w (upd H s.heap.objs.size (.tup [u, v])) h'' s.heap.objs.size (.tup [u, v]) :=
      ⟨by show 2 ≤ sizeLine; decide, [x1, x2], .cons rm (.cons rm2 .nil), ⟨_, hT2, rfl, _, rfl⟩⟩
    have J : Inv X pins σ (upd H s.heap.objs.size (.tup [u, v])) { s with heap := h'', toks := tk } :=
      I.turnedNew (ch := [z, TI, TO, i1, i2]) (fun c o hn q => (sb.2 c (fun e => hn (by simp [e]))).trans (hk c o (fun e => hn (by simp [e])) (fun e => hn (by simp [e])) (fun e => hn (by simp [e])) (fun e => hn (by simp [e])) q)) hf (Nat.le_refl _) fresh
    have nz1 := S.zi1
    have nz2 := S.zi2
    have sI : h'.get? TI = some _ := hk TI _ S.TIz S.TITO S.TIi1 S.TIi2 gI
    refine ⟨.ref s.heap.objs.size, _, J, rfl, ⟨_, u, v, rfl, I.hok.fresh (Nat.le_refl _), rfl, fun l hl => by rw [I.tuple_inj hl hqu]; exact hu, fun l hl => by rw [I.list_inj hl hqw]; exact hw⟩, ⟨z'', ?_, ⟨x1, x2, ?_⟩, ?_, ?_⟩, fun c hcm => ?_⟩
    · exact (sb.2 _ S.TIz).trans sI
    · exact (sb.2 _ S.TOz).trans TO'
    · exact st1.1.at fun o q => (sb.2 _ (Ne.symm nz1)).trans q
    · exact st2.1.at fun o q => (sb.2 _ (Ne.symm nz2)).trans q
    · have hlt : c < s.heap.objs.size := by
        have hcm : c = z ∨ c = TI ∨ c = TO ∨ c = i1 ∨ c = i2 := by simpa using hcm
        obtain ⟨_, j1, _⟩ := g1
        obtain ⟨_, j2, _⟩ := g2
        rcases hcm with rfl | rfl | rfl | rfl | rfl
        · exact hzl
        · exact Heap.lt_size gI
        · exact Heap.lt_size gO
        · exact Heap.lt_size j1
        · exact Heap.lt_size j2
      rw [upd_ne (Nat.ne_of_lt hlt)]
      exact (hf c hcm).1
  done := by
    intro X eP ew eK hc i pins s σ H E I hf st hg
    subst eP ew eK
    obtain ⟨gz, gI, ⟨x0, y0, gO⟩, g1, g2⟩ := st
    obtain ⟨us, ws, hqu, hqw, hl1, hl2, hend⟩ := hg
    obtain ⟨its, rv, p, _⟩ := I.tuple hqu
    obtain ⟨its2, rv2, p2, _⟩ := I.list hqw
    have h0 : X.A.in1.handled = none := I.ok.hd hc
    have e1 := rv.length
    have e2 := rv2.length
    refine wpAny_pyNext_zipD2_end S (Draws.tuple h0 i1 a ha its.toArray) (Draws.list h0 i2 b hb its2.toArray) gz gI gO ⟨g1, p⟩ ⟨g2, p2.isList⟩ (by rw [List.size_toArray]; omega) (by rw [List.size_toArray]; omega) (by rw [List.size_toArray, List.size_toArray]; omega) fun h' tk hk => ⟨rfl, I.turnedL (t' := tk) (ch := [z, TI, TO, i1, i2]) (fun c o hn q =>
      hk c o (fun e => hn (by simp [e])) (fun e => hn (by simp [e])) (fun e => hn (by simp [e])) (fun e => hn (by simp [e])) q) hf⟩
  self := fun A i s Q E st h => wpAny_pyIter_zip st.1 h
theorem sep5 (n a b : Nat) (la : a < n) (lb : b < n) : ZipSep2 (n + 4) (n + 2) (n + 3) n (n + 1) [n, a] [n + 1, b] := by
  have e1 : a ≠ n + 4 := Nat.ne_of_lt (by omega)
  have e2 : a ≠ n + 3 := Nat.ne_of_lt (by omega)
  have e3 : b ≠ n + 4 := Nat.ne_of_lt (by omega)
  have e4 : b ≠ n + 3 := Nat.ne_of_lt (by omega)
  have e5 : b ≠ n := Nat.ne_of_lt lb
  have e6 : a ≠ n + 1 := Nat.ne_of_lt (by omega)
  constructor <;> simp [e1.symm, e2.symm, e3.symm, e4.symm, e5.symm, e6.symm]
theorem le5 {n c : Nat} (h : c ∈ [n + 4, n + 2, n + 3, n, n + 1]) : n ≤ c := by
  simp only [List.mem_cons, List.not_mem_nil, or_false] at h
  omega
def iZipM (K : PySem.W.Frag) (ta : TA) : TI := fun σ H R => ta σ H fun vs H1 => ∃ a b us ws, vs = [.ref a, .ref b] ∧ SqT K H1 a us ∧ SqL K H1 b ws ∧ R (ItzM K a b) H1
theorem pi_zipM {X : Cx} {e e2 : Expr} {ta : TA} {p pos tpos : Pos} {elts : List Expr} {kk : Nat} (hg : Gl X "zip") (hm : X.mg "zip" = none) (ha : PA X [e, e2] ta) (hs : starEach [e, e2] X.env = (false, eval e X.env) :: starEach [e2] X.env := by rfl) (hpl : (backTo pos (starEach [e2] X.env)).any (·.1) = false := by rfl) :
    PI X (.Tuple elts kk tpos) (.Call (.Name "zip" p) [e, e2] [] pos) (iZipM X.K ta) := by
  refine ⟨fun pins s σ H Rk I0 h => Call_ (ld_blt I0 hg hm PyProof.Rows.boot_zip (PyProof.Rows.callWith_type1 (thn (ha.run pos pins s σ H _ I0 h) fun us s1 ⟨vs, H1, I1, r1, q1⟩ => ?_) hs hpl))⟩
  obtain ⟨a, b, xs, ys, ex, ht, hl, q⟩ := q1
  subst ex
  cases r1 with | cons r rr =>
  cases rr with | cons r' rr =>
  cases rr
  cases r
  cases r'
  obtain ⟨its, rv, p1, _⟩ := I1.tuple ht
  obtain ⟨its2, rv2, p2, _⟩ := I1.list hl
  have t1 : s1.heap.IsTuple a its.toArray := p1
  have la : a < s1.heap.objs.size := by obtain ⟨o, g, _⟩ := t1; exact Heap.lt_size g
  have lb : b < s1.heap.objs.size := p2.lt
  refine zip_begins2 (begins_tuple a its.toArray) (begins_list b its2.toArray) t1 p2.isList fun h' gz gI gO g1 g2 hsz hk => wpAny_pyIter_zip gz ?_
  have I2 : Inv X pins σ H1 { s1 with heap := h' } := I1.kept (t' := s1.toks) hk
  exact ⟨s1.heap.objs.size + 4, [s1.heap.objs.size + 4, s1.heap.objs.size + 2, s1.heap.objs.size + 3, s1.heap.objs.size, s1.heap.objs.size + 1], _, _, H1, rfl, I2, turn_zipM (sep5 _ a b la lb) (Nat.ne_of_lt la) (Nat.ne_of_lt (Nat.lt_succ_of_lt lb)), ⟨gz, gI, ⟨_, _, gO⟩, ⟨_, g1, rfl, rfl⟩, ⟨_, g2, rfl, rfl⟩⟩, fun c hcm => I1.fpOk (le5 hcm) (I1.hok.fresh (le5 hcm)), q⟩
theorem walkD_zipM {K : PySem.W.Frag} {T : Addr} {F : Hp} {a b : Addr} {vs us : List V} {ds es : List D} (h1 : F a = some (.tup vs)) (h2 : DtAll T F vs ds) (h3 : F b = some (.lst us)) (h4 : DtAll T F us es) (hz : vs.length ≤ sizeLine) : WalkD T F (ItzM K a b) (zipD ds es) := ⟨by rw [zipD_len, ← h2.len]; omega, fun H2 F2 ex sub => by
  have hs : SqT K H2 a vs := sqT_up sub (ex _ _ h1)
  have ht : SqL K H2 b us := sqL_up (sub _ _ (ex _ _ h3))
  have hl := h2.len
  have hl' := h4.len
  refine ⟨fun i hi => ?_, ?_, fun i x H3 hi y => ?_⟩
  · rw [zipD_len] at hi
    exact ⟨vs, us, vs[i]'(by omega), us[i]'(by omega), hs, ht, List.getElem?_eq_getElem _, List.getElem?_eq_getElem _⟩
  · exact ⟨vs, us, hs, ht, by rw [zipD_len]; omega, by rw [zipD_len]; omega, by rw [zipD_len]; omega⟩
  · obtain ⟨p, u, v, rfl, hp, rfl, q1, q2⟩ := y
    have q1 := q1 vs hs
    have q2 := q2 us ht
    rw [zipD_len] at hi
    have hd : ds[i]? = some (ds[i]'(by omega)) := List.getElem?_eq_getElem (by omega)
    have he : es[i]? = some (es[i]'(by omega)) := List.getElem?_eq_getElem (by omega)
    obtain ⟨v1, e1, e2⟩ := h2.get hd
    obtain ⟨v2, e3, e4⟩ := h4.get he
    rw [q1] at e1
    rw [q2] at e3
    cases e1
    cases e3
    exact .inr ⟨p, u, v, _, _, rfl, hp, rfl, zipD_get hd he, Dt.mono ex _ _ e2, Dt.mono ex _ _ e4⟩⟩
def dZipM (ta : TAd) : TId := fun ε Q => ta ε fun rs ε1 => match rs with
  | [.fr (.tup ds), .fr (.lst es)] => Q (zipD ds es) ε1
  | _ => False
theorem e_dZipM {ta : TAd} {ε : Ev} {Q : List D → Ev → Prop} : dZipM ta ε Q = (ta ε fun rs ε1 => match rs with | [.fr (.tup ds), .fr (.lst es)] => Q (zipD ds es) ε1 | _ => False) := rfl
theorem qi_zipM {X : Cx} {e e2 : Expr} {ta : TAd} {p pos tpos : Pos} {elts : List Expr} {kk : Nat} (hg : Gl X "zip") (hm : X.mg "zip" = none) (ha : QA X [e, e2] ta)
    (hs : starEach [e, e2] X.env = (false, eval e X.env) :: starEach [e2] X.env := by rfl) (hpl : (backTo pos (starEach [e2] X.env)).any (·.1) = false := by rfl) :
    QI X (.Tuple elts kk tpos) (.Call (.Name "zip" p) [e, e2] [] pos) (dZipM ta) := by
  refine ⟨⟨fun pins s σ H R I ⟨G, ε, F, R0, h⟩ => ?_⟩, fun ε Q Q' m h => ha.mono _ _ _ (fun rs ε1 q => by split at q <;> simp_all) h⟩
  refine (pi_zipM (tpos := tpos) (elts := elts) (kk := kk) hg hm (PA.only (t := fun σ H Q => liftA ta σ H Q) ha.pa σ H) hs hpl).run pins s σ H R I ⟨rfl, rfl, G, ε, F, R0, ha.mono _ _ _ (fun rs ε1 q vs H1 F1 R1 ex kp rv no => ?_) h⟩
  split at q
  · cases rv with | cons v1 v2 =>
    cases v2 with | cons v2 v3 =>
    cases v3
    cases v1 with | tup e1 e2 =>
    cases v2 with | lst e3 e4 =>
    exact ⟨_, _, _, _, rfl, sqT_up R1.sub e1, sqL_up (R1.sub _ _ e3), q _ H1 F1 R1 ex kp (walkD_zipM e1 e2 e3 e4 (R1.sz _ _ (.inr e1)))⟩
  · exact q.elim

/-! ### range(i, j, -1) -/
def downD (i : Int) (n : Nat) : List D := (List.range n).map fun k => .int (i - (k : Nat))
def dRngN (ta : TAd) : TId := fun ε Q => ta ε fun rs ε1 => match rs with
  | [.fr (.int i), .fr (.int j), .fr (.int c)] => (c = -1 ∧ -(2 ^ 62) ≤ i ∧ i < 2 ^ 62 ∧ -(2 ^ 62) ≤ j ∧ j < 2 ^ 62 ∧ i - j ≤ 16777216) ∧ Q (downD i (i - j).toNat) ε1
  | _ => False
theorem e_dRngN {ta : TAd} {ε : Ev} {Q : List D → Ev → Prop} : dRngN ta ε Q = (ta ε fun rs ε1 => match rs with | [.fr (.int i), .fr (.int j), .fr (.int c)] => (c = -1 ∧ -(2 ^ 62) ≤ i ∧ i < 2 ^ 62 ∧ -(2 ^ 62) ≤ j ∧ j < 2 ^ 62 ∧ i - j ≤ 16777216) ∧ Q (downD i (i - j).toNat) ε1 | _ => False) := rfl
theorem walkD_down {T : Addr} {F : Hp} {i : Int} {n : Nat} (hn : n ≤ sizeLine) : WalkD T F (Itc i (-1) n) (downD i n) := ⟨by simpa [downD] using hn, fun H2 F2 ex sub => by
  have hl : (downD i n).length = n := by simp [downD]
  rw [hl]
  refine ⟨fun k hk => hk, Nat.le_refl _, fun k x H3 hk y => .inl ?_⟩
  obtain ⟨e1, e2⟩ := y
  subst e1 e2
  refine ⟨rfl, .int (i - (k : Nat)), ?_, ?_⟩
  · unfold downD
    rw [List.getElem?_map, List.getElem?_range hk]; rfl
  · rw [show i + (k : Int) * -1 = i - (k : Int) by omega]
    exact .int _⟩
theorem qi_rngN {X : Cx} {tg a b c : Expr} {ta : TAd} {p pos : Pos} (hg : Gl X "range") (hm : X.mg "range" = none) (ha : QA X [a, b, c] ta)
    (hs : starEach [a, b, c] X.env = (false, eval a X.env) :: starEach [b, c] X.env := by rfl) (hpl : (backTo pos (starEach [b, c] X.env)).any (·.1) = false := by rfl) : QI X tg (.Call (.Name "range" p) [a, b, c] [] pos) (dRngN ta) := by
  refine ⟨⟨fun pins s σ H R I ⟨G, ε, F, R0, h⟩ => ?_⟩, fun ε Q Q' m h => ha.mono _ _ _ (fun rs ε1 q => by
    split at q
    · exact ⟨q.1, m _ _ q.2⟩
    · exact q.elim) h⟩
  refine (pi_range3 (tg := tg) hg hm (PA.only (t := fun σ H Q => liftA ta σ H Q) ha.pa σ H) hs hpl).run pins s σ H R I ⟨rfl, rfl, G, ε, F, R0, ha.mono _ _ _ (fun rs ε1 q vs H1 F1 R1 ex kp rv no => ?_) h⟩
  split at q
  · cases rv with | cons r1 r2 =>
    cases r2 with | cons r2 r3 =>
    cases r3 with | cons r3 r4 =>
    cases r4
    cases r1
    cases r2
    cases r3
    obtain ⟨⟨rfl, c1, c2, c3, c4, c5⟩, q⟩ := q
    have sl := sizeLine_eq
    exact ⟨_, _, _, _, rfl, RgC.neg c1 c2 c3 c4, q _ H1 F1 R1 ex kp (walkD_down (by omega))⟩
  · exact q.elim

/-! ### - of a number; x[::-1] -/
def dNeg (ta : TEd) : TEd := fun ε Q => ta ε fun r ε1 => ∃ i, r = .fr (.int i) ∧ Q (.fr (.int (-i))) ε1
theorem e_dNeg {ta : TEd} {ε : Ev} {Q : R → Ev → Prop} : dNeg ta ε Q = (ta ε fun r ε1 => ∃ i, r = .fr (.int i) ∧ Q (.fr (.int (-i))) ε1) := rfl
def dRev (ta : TEd) : TEd := fun ε Q => ta ε fun r ε1 => ∃ ds, r.d = .lst ds ∧ Q (.ow ds.reverse) ε1
theorem e_dRev {ta : TEd} {ε : Ev} {Q : R → Ev → Prop} : dRev ta ε Q = (ta ε fun r ε1 => ∃ ds, r.d = .lst ds ∧ Q (.ow ds.reverse) ε1) := rfl
section
variable {X : Cx} {e : Expr} {te : TEd} {k : Nat} {p1 p2 p3 pos : Pos}
theorem qe_rev (he : QE X e te) : QE X (.Subscript e (.Slice none none (some (.UnaryOp .USub (.Constant (.int 1) k p1) p2)) p3) pos) (dRev te) := by
  refine ⟨⟨fun pins s σ H Q I ⟨G, ε, F, R0, h⟩ => ?_⟩, fun ε Q Q' m h => he.mono _ _ _ (fun r ε1 ⟨ds, a, q⟩ => ⟨ds, a, m _ _ q⟩) h⟩
  refine (pe_revL (pe_here he R0 (P := fun v H1 r ε1 F1 q => q) fun _ _ _ _ _ _ q => q)).run pins s σ H Q I ⟨rfl, rfl, he.mono _ _ _ (fun r ε1 ⟨ds, a, q⟩ v H1 F1 R1 ex kp rv hl => ?_) h⟩
  have dv := rv.dv R1
  rw [R.fz_d, a] at dv
  obtain ⟨z, vs, rfl, h1, h2⟩ := dv
  exact ⟨z, vs, rfl, sqL_up h1, (ext_of q ex kp).lst R1 (DtAll.rev h2)⟩
theorem qe_neg {j : Nat} {i : Int} : QE X (.UnaryOp .USub (.Constant (.int i) j p1) pos) (dC (.int (-i))) := by
  refine ⟨⟨fun pins s σ H Q I ⟨G, ε, F, R0, q⟩ => (pe_un un_neg pe_int).run pins s σ H Q I ⟨i, rfl, q _ H F R0 (.refl _) (.refl _ _) (.int (-i)) (fun z => z.elim)⟩⟩, fun ε Q Q' m h => m _ _ h⟩
end
/-! ### a, b = [], i -/
def dPar0 (i j : Nat) (n : Int) : TSd := fun B ε => B.nx ((ε.set i (some (.ow []))).set j (some (.fr (.int n))))
theorem e_dPar0 {i j : Nat} {n : Int} {B : DE} {ε : Ev} : dPar0 i j n B ε = B.nx ((ε.set i (some (.ow []))).set j (some (.fr (.int n)))) := rfl
theorem qs_par0 {X : Cx} {i j : Nat} {x y : Str} {px py pt pos pl pn : Pos} {kt k2 pt2 kn} {n : Int} (hN : X.N.Nodup) (hc : X.calm = true := by rfl) (hi : X.N[i]? = some x := by rfl) (hj : X.N[j]? = some y := by rfl) (hij : i ≠ j := by decide)
    (hx : X.env.scope.names.lookup x = some .local := by rfl) (hy : X.env.scope.names.lookup y = some .local := by rfl)
    (hw : swappedStores [.Tuple [.Name x px, .Name y py] kt pt] (.Tuple [.List [] pl, .Constant (.int n) kn pn] k2 pt2) X.env = pure (some [x, y]) := by rfl)
    (hs : swapsWithSole [.Tuple [.Name x px, .Name y py] kt pt] (.Tuple [.List [] pl, .Constant (.int n) kn pn] k2 pt2) pos.line X.env = pure false := by rfl) :
    QS X (.Assign [.Tuple [.Name x px, .Name y py] kt pt] (.Tuple [.List [] pl, .Constant (.int n) kn pn] k2 pt2) pos) (dPar0 i j n) := by
  refine ⟨ps_imp (ps_par hc hN hi hj hij hx hy (pa_cons (pe_lst pa_nil) (pa_cons pe_int pa_nil)) hw hs) fun D σ H ⟨G, ε, F, R0, h⟩ => ?_, fun D D' ε l h => l.nx _ h⟩
  refine ⟨Nat.zero_le _, fun z hz => ⟨_, _, rfl, ?_⟩⟩
  obtain ⟨R1, kp, f1, f2, ln⟩ := R0.push (.lst []) hz
  exact h _ _ _ ((R1.store (r := .ow []) ⟨z, [], rfl, upd_same, .nil, f1, f2⟩ (fun _ => ln) trivial).store (r := .fr (.int n)) (.int n) (fun o => o.elim) trivial) (.refl _)
end DL

set_option Elab.async false
set_option linter.all false
set_option maxRecDepth 100000
set_option maxHeartbeats 4000000
/-! DLq: the largest of a tuple of numbers. -/
namespace DL
open PySem PySem.Spec PyProof.Rows L2
def wMaxT : WL
  | [.tup ds], Q => ∃ (n : Int) (ns : List Int), ds = (n :: ns).map D.int ∧ Q (.fr (.int (ns.foldl max n)))
  | _, _ => False
theorem w_maxT {ds : List D} {Q : R → Prop} : wMaxT [.tup ds] Q = ∃ (n : Int) (ns : List Int), ds = (n :: ns).map D.int ∧ Q (.fr (.int (ns.foldl max n))) := rfl
theorem reads_ints {h : Heap} : ∀ {us : List Value} {ns : List Int}, IntsAre us ns → ∃ as, ReadsAll h us (ns.map PyData.int) as
  | [], _, e => by cases e; exact ⟨_, .nil⟩
  | u :: us, _, e => by
    cases e with | cons k t e' =>
    obtain ⟨as, r⟩ := reads_ints e'
    exact ⟨_, .cons (.int k t) r⟩
theorem depth_ints : ∀ ns : List Int, PyData.depthAll (ns.map PyData.int) ≤ 1
  | [] => by simp [PyData.depthAll]
  | n :: ns => by
    have := depth_ints ns
    simp only [List.map_cons, PyData.depthAll, PyData.depth]
    omega
theorem cd_maxT {X : Cx} (hc : X.calm = true) (hu : X.A.units + 100 < cLine) : CallD X (.builtin "max") wMaxT := by
  refine ⟨fun ds Q Q' m h => ?_, fun pins s σ H xs us Q I r G ε F ds R0 hx h => ?_⟩
  · unfold wMaxT at h ⊢
    split at h
    · obtain ⟨n, ns, e, q⟩ := h; exact ⟨n, ns, e, m _ q⟩
    · exact h.elim
  · unfold wMaxT at h
    split at h
    · obtain ⟨n, ns, rfl, q⟩ := h
      obtain ⟨v, rfl, hv⟩ := hx.one
      cases hv with | tup h1 h2 =>
      rename_i a vs
      have e := h2.ints
      subst e
      obtain ⟨its, rv, p, _⟩ := I.tuple (sqT_up (K := X.K) R0.sub h1)
      rw [Vals.ref1 r]
      obtain ⟨as, ra⟩ := reads_ints (h := s.heap) rv.ints
      refine PySem.W.max_tuple_data (x := .int n) (xs := ns.map .int) (as := as) (I.ok.hd hc) (show s.heap.IsTuple a its.toArray from p) (by simpa using ra) ⟨?_, ?_⟩ ?_ fun i v h' tk bs hi hr hk => ?_
      · intro x hx y hy
        have hx : x ∈ (n :: ns).map PyData.int := hx
        have hy : y ∈ (n :: ns).map PyData.int := hy
        obtain ⟨i, _, rfl⟩ := List.mem_map.mp hx
        obtain ⟨j, _, rfl⟩ := List.mem_map.mp hy
        rfl
      · intro x hx
        have hx : x ∈ (n :: ns).map PyData.int := hx
        obtain ⟨i, _, rfl⟩ := List.mem_map.mp hx
        simp
      · have := depth_ints (n :: ns)
        rw [List.map_cons] at this
        omega
      · rw [PySem.W.maxD_ints] at hr
        cases hr with | int i t =>
        exact ⟨.int _, H, I.kept hk, ⟨_, rfl⟩, q.same R0 (.int _)⟩
    · exact h.elim
end DL

set_option Elab.async false
set_option linter.all false
set_option maxRecDepth 100000
set_option maxHeartbeats 4000000
/-! DLr: set of a list of ints, sorted(set(..)), len(set(..)) of tuples of ints. -/
namespace DL
open PySem PySem.Spec PyProof.Rows L2

abbrev eSet (w : World) : Obj := { cls := .type "set", dict := none, data := .set #[] 0 (.fresh 0 0 (!w.params.followText "set-order")) }
section
variable {P : Program} {w : World} {A : Around} {E : Value → Shared → Prop} {s : Shared}
set_option maxHeartbeats 6400000 in
theorem set_of_ints {l : Addr} {xs : Array Value} (ks : List Int) {Q : Value → Shared → Prop} (hd : A.handled = none) (hL : s.heap.IsList l xs) (hK : IntsAre xs.toList ks) (few : ks.length + 1 < scanBound)
    (q : ∀ (hp : Heap) (t c : Nat), SetR w hp s.heap.objs.size (fun j => decide (j ∈ ks)) c → c ≤ ks.length → (∀ b o, s.heap.get? b = some o → hp.get? b = some o) → Q (.ref s.heap.objs.size) { s with heap := hp, toks := t }) :
    wpAny (model P w) A (call (.type "set") [.ref l]) Q E s := by
  have hz0 : xs.size = ks.length := by
    have z := IntsAre.length hK
    rwa [Array.length_toList] at z
  obtain ⟨c0, tl0, mro0⟩ := F.called_set.mro
  have made0 := F.called_set.made
  have sub0 := F.called_set.sub
  refine wpAny_call (codeAny_of_tree ?_)
  show wpAny _ _ (callAny (.type "set") _) _ _ _
  refine wpAny_pure ⟨Code.quiet_builtin _ (by decide +kernel), codeAny_builtin F.entry_type_call ?under⟩
  case under =>
  rw [Around.under_plain (weight_type_call_type "set" [Value.ref l] []) rfl]
  have nt := F.called_set.notType
  have cc := F.called_set.canCreate
  have tc := F.typeCall_set_1 (Value.ref l)
  repeat (any_goals (first | assumption | wp_step))
  refine codeAny_mono (code_set_led1 (Value.ref l) (E := E) (Q₁ := fun v s1 => v = .ref s.heap.objs.size ∧ s1 = { s with heap := s.heap.push (eSet w) }) ⟨rfl, rfl⟩) fun r s1 hr => ?_
  match r, hr with
  | .error e, hr => exact hr
  | .ok (.ret obj), hr =>
    obtain ⟨rfl, rfl⟩ := hr
    have gS : (s.heap.push (eSet w)).get? s.heap.objs.size = some (eSet w) := Heap.get?_push_size _ rfl
    have tS : Shared.TypeIs { s with heap := s.heap.push (eSet w) } (.ref s.heap.objs.size) "set" := ⟨_, gS, rfl⟩
    have il := F.called_set.init.lookup
    have ib := F.called_set.init.bind (Value.ref s.heap.objs.size)
    repeat (any_goals (first | assumption | wp_step))
    refine codeAny_mono (codeAny_call_builtin (R := wants (fun r s2 => r = .none ∧ ∃ hp t c, s2 = { s with heap := hp, toks := t } ∧ SetR w hp s.heap.objs.size (fun j => decide (j ∈ ks)) c ∧ c ≤ ks.length ∧ (∀ b o, s.heap.get? b = some o → hp.get? b = some o)) E)
      F.called_set.init.plain F.entry_set_init (check_set_init_1 tS ?go)) fun r2 s2 hr2 => ?back
    case back =>
      match r2, hr2 with
      | .error e, hr2 => exact hr2
      | .ok (.ret r), hr2 =>
        obtain ⟨rfl, hp, t, c, rfl, g1, g2, g3⟩ := hr2
        repeat (any_goals (first | assumption | wp_step))
        exact q _ _ _ g1 g2 g3
    case go =>
      obtain ⟨ob, gob, cob, nob, dob⟩ := hL
      obtain ⟨oc, od, oda, osl⟩ := ob
      simp only at cob dob
      subst cob; subst dob
      have gl : (s.heap.push (eSet w)).get? l = some { cls := .type "list", dict := od, data := .seq xs nob, slots := osl } := Heap.get?_push_of_some _ gob
      have sls := F.sub_list_set
      have slf := F.sub_list_frozenset
      have nd : (Value.type "list" == Value.type "dict") = false := by decide
      have gl1 : (s.heap.push (eSet w)).IsList l xs := ⟨_, gl, rfl, nob, rfl⟩
      unfold Builtin.«set.__init__» noKeywords Builtin.Frozenset.updateFrom
      generalize hIt : pyIter = It0
      wp_walk
      subst hIt
      refine wpAny_pyIter_list gl1 ?_
      refine wpAny_bind (wpAny_runValue ?_)
      have ls : l < s.heap.objs.size := Heap.lt_size gob
      have hn3 : A.in1.in1.in1.handled = none := by simp [hd]
      have zS : (s.heap.push (eSet w)).objs.size = s.heap.objs.size + 1 := Heap.size_push ..
      have nI : l ≠ (s.heap.push (eSet w)).objs.size := by rw [zS]; exact Nat.ne_of_lt (Nat.lt_succ_of_lt ls)
      have nS : s.heap.objs.size ∉ [(s.heap.push (eSet w)).objs.size, l] := by
        rw [zS]; simp only [List.mem_cons, List.mem_singleton, List.not_mem_nil, or_false, not_or]
        exact ⟨Nat.ne_of_lt (Nat.lt_succ_self _), (Nat.ne_of_lt ls).symm⟩
      have val : ∀ (i : Nat) (v : Value), xs[i]? = some v → ∃ k t, ks[i]? = some k ∧ v = .int k t := fun i v hv => by
        have hi : i < ks.length := hz0 ▸ (Array.getElem?_eq_some_iff.mp hv).1
        obtain ⟨t, e⟩ := PyProof.Rows.IntsAre.int_at hK i v (by rw [Array.getElem?_toList]; exact hv)
        refine ⟨ks[i], t, List.getElem?_eq_getElem hi, e.trans ?_⟩
        rw [List.getD_eq_getElem?_getD, List.getElem?_eq_getElem hi] <;> rfl
      refine set_update_ints ((Walks.list hn3 _ l nI xs).toS) s.heap.objs.size nS ks hz0 few val (xs.size - 0) 0 _ (by omega) (Nat.zero_le _) ⟨⟨_, Heap.get?_push_size _ rfl, rfl, rfl⟩, (gl1.push _)⟩ ?s0 ?sR
      case s0 =>
        exact ⟨0, Nat.le_refl 0, setR_new_at (Heap.get?_push_of_some _ gS)⟩
      case sR =>
        intro s3 c3 hm hc3 hS3
        obtain ⟨hp, gg, dd, tt, oo⟩ := s3
        have e1 : gg = s.gens := hm.gens
        have e2 : dd = s.drawn := hm.drawn
        have e3 : oo = s.os := hm.os
        subst e1 e2 e3
        show wpAny _ _ _ _ _ _
        refine wpAny_pure ?_
        show wpAny _ _ (ret Value.none) _ _ _
        rw [hz0] at hc3
        refine wpAny_pure ⟨rfl, hp, tt, c3, rfl, hS3, hc3, fun b o e => ?_⟩
        have lb : b < s.heap.objs.size := Heap.lt_size e
        refine hm.heap b o ?_ (Heap.get?_push_of_some _ (Heap.get?_push_of_some _ e))
        rw [zS]
        simp only [List.mem_cons, List.mem_singleton, List.not_mem_nil, or_false, not_or]
        exact ⟨Nat.ne_of_lt lb, Nat.ne_of_lt (Nat.lt_succ_of_lt lb)⟩
end
section
variable {X : Cx}
theorem cr_setI (hc : X.calm = true) : CallR X (.type "set") (fun xs H Q => ∃ (l : Addr) (ks : List Int), xs = [.ref l] ∧ SqL X.K H l (ks.map V.int) ∧ ks.length + 1 < scanBound ∧
    ∀ a c, H a = none → c ≤ ks.length → Q (.ref a) (upd H a (SetO X.w a (fun j => decide (j ∈ ks)) c))) := by
  intro pins s σ H xs us Q I r h
  obtain ⟨l, ks, rfl, hl, few, q⟩ := h
  rw [Vals.ref1 r]
  obtain ⟨its, rv, pl, _⟩ := I.list hl
  refine set_of_ints ks (I.ok.hd hc) pl.isList (by simpa using ints_of_vals rv) few fun hp t c R hcs old => ?_
  exact ⟨.ref s.heap.objs.size, upd H s.heap.objs.size (SetO X.w s.heap.objs.size (fun j => decide (j ∈ ks)) c), I.laid (t' := t) old (Nat.le_refl _) (setO_new R), rfl, q _ c (I.hok.fresh (Nat.le_refl _)) hcs⟩
/-- sorted(set(e)), e a list of few numbers -/
def dSrtSet (te : TEd) : TEd := fun ε Q => te ε fun r ε1 => ∃ ns : List Int, r.d = .lst (ns.map D.int) ∧ ns.length < 60 ∧ ∀ out : List Int, out.Pairwise (· < ·) → (∀ k, k ∈ out ↔ k ∈ ns) → Q (.ow (out.map D.int)) ε1
theorem e_dSrtSet {te : TEd} {ε : Ev} {Q : R → Ev → Prop} : dSrtSet te ε Q = (te ε fun r ε1 => ∃ ns : List Int, r.d = .lst (ns.map D.int) ∧ ns.length < 60 ∧ ∀ out : List Int, out.Pairwise (· < ·) → (∀ k, k ∈ out ↔ k ∈ ns) → Q (.ow (out.map D.int)) ε1) := rfl
theorem qe_srtSet {e : Expr} {te : TEd} {p p2 pos pos2 : Pos} (hg : Gl X "sorted") (hm : X.mg "sorted" = none) (hg2 : Gl X "set") (hm2 : X.mg "set" = none) (he : QE X e te) (hc : X.calm = true := by rfl)
    (h1 : starEach [Expr.Call (.Name "set" p2) [e] [] pos2] X.env = (false, eval (Expr.Call (.Name "set" p2) [e] [] pos2) X.env) :: starEach [] X.env := by rfl) (h2 : (backTo pos (starEach [] X.env)).any (·.1) = false := by rfl)
    (h3 : starEach [e] X.env = (false, eval e X.env) :: starEach [] X.env := by rfl) (h4 : (backTo pos2 (starEach [] X.env)).any (·.1) = false := by rfl) :
    QE X (.Call (.Name "sorted" p) [.Call (.Name "set" p2) [e] [] pos2] [] pos) (dSrtSet te) := by
  refine ⟨⟨fun pins s σ H Q I ⟨G, ε, F, R0, h⟩ => ?_⟩, fun ε Q Q' m h => he.mono _ _ _ (fun r ε1 ⟨ns, a, b, q⟩ => ⟨ns, a, b, fun out o1 o2 => m _ _ (q out o1 o2)⟩) h⟩
  refine (pe_callB (cr_sortedSet hc) hg hm rfl (pa_cons (pe_callTy (cr_setI hc) hg2 hm2 rfl (pa_cons (pe_here he R0 (P := fun v H1 r ε1 F1 q => q) fun _ _ _ _ _ _ q => q) pa_nil h3) (by decide) (by decide) h3 h4) pa_nil h1) (by decide) (by decide) h1 h2).run pins s σ H Q I ⟨rfl, rfl, he.mono _ _ _ (fun r ε1 ⟨ns, a, b, q⟩ v H1 F1 R1 ex kp rv hl => ?_) h⟩
  have dv := rv.dv R1
  rw [R.fz_d, a] at dv
  obtain ⟨z, vs, rfl, g1, g2⟩ := dv
  have e0 := g2.ints
  subst e0
  refine ⟨z, ns, rfl, sqL_up g1, by unfold scanBound; omega, fun y c hy hc2 => ?_⟩
  obtain ⟨R2, kp2, _⟩ := R1.push (SetO X.w y (fun j => decide (j ∈ ns)) c) hy
  refine ⟨y, _, c, rfl, upd_same, by omega, fun out y2 o1 o2 _ hy2 => ?_⟩
  exact (ext_of (q out o1 fun k => by rw [o2 k]; simp) ex (kp.trans kp2)).lst R2 (DtAll.of_ints out) y2 hy2
end
/-! ### slots from 16 on -/
theorem nm16f {x0 x1 x2 x3 x4 x5 x6 x7 x8 x9 x10 x11 x12 x13 x14 x15 : Option R} {ε : Ev} {QE : R → Ev → Prop} {d : D} : dNm 16 (x0 :: x1 :: x2 :: x3 :: x4 :: x5 :: x6 :: x7 :: x8 :: x9 :: x10 :: x11 :: x12 :: x13 :: x14 :: x15 :: some (.fr d) :: ε) QE = QE (.fr d) (x0 :: x1 :: x2 :: x3 :: x4 :: x5 :: x6 :: x7 :: x8 :: x9 :: x10 :: x11 :: x12 :: x13 :: x14 :: x15 :: some (.fr d) :: ε) := rfl
theorem bo16f {x0 x1 x2 x3 x4 x5 x6 x7 x8 x9 x10 x11 x12 x13 x14 x15 : Option R} {ε : Ev} {QE : R → Ev → Prop} {d : D} : dBo 16 (x0 :: x1 :: x2 :: x3 :: x4 :: x5 :: x6 :: x7 :: x8 :: x9 :: x10 :: x11 :: x12 :: x13 :: x14 :: x15 :: some (.fr d) :: ε) QE = QE (.fr d) (x0 :: x1 :: x2 :: x3 :: x4 :: x5 :: x6 :: x7 :: x8 :: x9 :: x10 :: x11 :: x12 :: x13 :: x14 :: x15 :: some (.fr d) :: ε) := rfl
theorem mv16f {x0 x1 x2 x3 x4 x5 x6 x7 x8 x9 x10 x11 x12 x13 x14 x15 : Option R} {ε : Ev} {QE : R → Ev → Prop} {d : D} : dMv 16 (x0 :: x1 :: x2 :: x3 :: x4 :: x5 :: x6 :: x7 :: x8 :: x9 :: x10 :: x11 :: x12 :: x13 :: x14 :: x15 :: some (.fr d) :: ε) QE = QE (.fr d) (x0 :: x1 :: x2 :: x3 :: x4 :: x5 :: x6 :: x7 :: x8 :: x9 :: x10 :: x11 :: x12 :: x13 :: x14 :: x15 :: some (.fr d) :: ε) := rfl
theorem nm16o {x0 x1 x2 x3 x4 x5 x6 x7 x8 x9 x10 x11 x12 x13 x14 x15 : Option R} {ε : Ev} {QE : R → Ev → Prop} {ds : List D} : dNm 16 (x0 :: x1 :: x2 :: x3 :: x4 :: x5 :: x6 :: x7 :: x8 :: x9 :: x10 :: x11 :: x12 :: x13 :: x14 :: x15 :: some (.ow ds) :: ε) QE = QE (.fr (.lst ds)) (x0 :: x1 :: x2 :: x3 :: x4 :: x5 :: x6 :: x7 :: x8 :: x9 :: x10 :: x11 :: x12 :: x13 :: x14 :: x15 :: some (.fr (.lst ds)) :: ε) := rfl
theorem bo16o {x0 x1 x2 x3 x4 x5 x6 x7 x8 x9 x10 x11 x12 x13 x14 x15 : Option R} {ε : Ev} {QE : R → Ev → Prop} {ds : List D} : dBo 16 (x0 :: x1 :: x2 :: x3 :: x4 :: x5 :: x6 :: x7 :: x8 :: x9 :: x10 :: x11 :: x12 :: x13 :: x14 :: x15 :: some (.ow ds) :: ε) QE = QE (.bo ds) (x0 :: x1 :: x2 :: x3 :: x4 :: x5 :: x6 :: x7 :: x8 :: x9 :: x10 :: x11 :: x12 :: x13 :: x14 :: x15 :: some (.ow ds) :: ε) := rfl
theorem mv16o {x0 x1 x2 x3 x4 x5 x6 x7 x8 x9 x10 x11 x12 x13 x14 x15 : Option R} {ε : Ev} {QE : R → Ev → Prop} {ds : List D} : dMv 16 (x0 :: x1 :: x2 :: x3 :: x4 :: x5 :: x6 :: x7 :: x8 :: x9 :: x10 :: x11 :: x12 :: x13 :: x14 :: x15 :: some (.ow ds) :: ε) QE = QE (.ow ds) (x0 :: x1 :: x2 :: x3 :: x4 :: x5 :: x6 :: x7 :: x8 :: x9 :: x10 :: x11 :: x12 :: x13 :: x14 :: x15 :: none :: ε) := rfl
theorem nm16d {x0 x1 x2 x3 x4 x5 x6 x7 x8 x9 x10 x11 x12 x13 x14 x15 : Option R} {ε : Ev} {QE : R → Ev → Prop} {ks : List (L2.Key × D)} : dNm 16 (x0 :: x1 :: x2 :: x3 :: x4 :: x5 :: x6 :: x7 :: x8 :: x9 :: x10 :: x11 :: x12 :: x13 :: x14 :: x15 :: some (.od ks) :: ε) QE = QE (.fr (.dct ks)) (x0 :: x1 :: x2 :: x3 :: x4 :: x5 :: x6 :: x7 :: x8 :: x9 :: x10 :: x11 :: x12 :: x13 :: x14 :: x15 :: some (.fr (.dct ks)) :: ε) := rfl
theorem bo16d {x0 x1 x2 x3 x4 x5 x6 x7 x8 x9 x10 x11 x12 x13 x14 x15 : Option R} {ε : Ev} {QE : R → Ev → Prop} {ks : List (L2.Key × D)} : dBo 16 (x0 :: x1 :: x2 :: x3 :: x4 :: x5 :: x6 :: x7 :: x8 :: x9 :: x10 :: x11 :: x12 :: x13 :: x14 :: x15 :: some (.od ks) :: ε) QE = QE (.bd ks) (x0 :: x1 :: x2 :: x3 :: x4 :: x5 :: x6 :: x7 :: x8 :: x9 :: x10 :: x11 :: x12 :: x13 :: x14 :: x15 :: some (.od ks) :: ε) := rfl
theorem mv16d {x0 x1 x2 x3 x4 x5 x6 x7 x8 x9 x10 x11 x12 x13 x14 x15 : Option R} {ε : Ev} {QE : R → Ev → Prop} {ks : List (L2.Key × D)} : dMv 16 (x0 :: x1 :: x2 :: x3 :: x4 :: x5 :: x6 :: x7 :: x8 :: x9 :: x10 :: x11 :: x12 :: x13 :: x14 :: x15 :: some (.od ks) :: ε) QE = QE (.od ks) (x0 :: x1 :: x2 :: x3 :: x4 :: x5 :: x6 :: x7 :: x8 :: x9 :: x10 :: x11 :: x12 :: x13 :: x14 :: x15 :: none :: ε) := rfl
theorem nm17f {x0 x1 x2 x3 x4 x5 x6 x7 x8 x9 x10 x11 x12 x13 x14 x15 x16 : Option R} {ε : Ev} {QE : R → Ev → Prop} {d : D} : dNm 17 (x0 :: x1 :: x2 :: x3 :: x4 :: x5 :: x6 :: x7 :: x8 :: x9 :: x10 :: x11 :: x12 :: x13 :: x14 :: x15 :: x16 :: some (.fr d) :: ε) QE = QE (.fr d) (x0 :: x1 :: x2 :: x3 :: x4 :: x5 :: x6 :: x7 :: x8 :: x9 :: x10 :: x11 :: x12 :: x13 :: x14 :: x15 :: x16 :: some (.fr d) :: ε) := rfl
theorem bo17f {x0 x1 x2 x3 x4 x5 x6 x7 x8 x9 x10 x11 x12 x13 x14 x15 x16 : Option R} {ε : Ev} {QE : R → Ev → Prop} {d : D} : dBo 17 (x0 :: x1 :: x2 :: x3 :: x4 :: x5 :: x6 :: x7 :: x8 :: x9 :: x10 :: x11 :: x12 :: x13 :: x14 :: x15 :: x16 :: some (.fr d) :: ε) QE = QE (.fr d) (x0 :: x1 :: x2 :: x3 :: x4 :: x5 :: x6 :: x7 :: x8 :: x9 :: x10 :: x11 :: x12 :: x13 :: x14 :: x15 :: x16 :: some (.fr d) :: ε) := rfl
theorem mv17f {x0 x1 x2 x3 x4 x5 x6 x7 x8 x9 x10 x11 x12 x13 x14 x15 x16 : Option R} {ε : Ev} {QE : R → Ev → Prop} {d : D} : dMv 17 (x0 :: x1 :: x2 :: x3 :: x4 :: x5 :: x6 :: x7 :: x8 :: x9 :: x10 :: x11 :: x12 :: x13 :: x14 :: x15 :: x16 :: some (.fr d) :: ε) QE = QE (.fr d) (x0 :: x1 :: x2 :: x3 :: x4 :: x5 :: x6 :: x7 :: x8 :: x9 :: x10 :: x11 :: x12 :: x13 :: x14 :: x15 :: x16 :: some (.fr d) :: ε) := rfl
theorem nm17o {x0 x1 x2 x3 x4 x5 x6 x7 x8 x9 x10 x11 x12 x13 x14 x15 x16 : Option R} {ε : Ev} {QE : R → Ev → Prop} {ds : List D} : dNm 17 (x0 :: x1 :: x2 :: x3 :: x4 :: x5 :: x6 :: x7 :: x8 :: x9 :: x10 :: x11 :: x12 :: x13 :: x14 :: x15 :: x16 :: some (.ow ds) :: ε) QE = QE (.fr (.lst ds)) (x0 :: x1 :: x2 :: x3 :: x4 :: x5 :: x6 :: x7 :: x8 :: x9 :: x10 :: x11 :: x12 :: x13 :: x14 :: x15 :: x16 :: some (.fr (.lst ds)) :: ε) := rfl
theorem bo17o {x0 x1 x2 x3 x4 x5 x6 x7 x8 x9 x10 x11 x12 x13 x14 x15 x16 : Option R} {ε : Ev} {QE : R → Ev → Prop} {ds : List D} : dBo 17 (x0 :: x1 :: x2 :: x3 :: x4 :: x5 :: x6 :: x7 :: x8 :: x9 :: x10 :: x11 :: x12 :: x13 :: x14 :: x15 :: x16 :: some (.ow ds) :: ε) QE = QE (.bo ds) (x0 :: x1 :: x2 :: x3 :: x4 :: x5 :: x6 :: x7 :: x8 :: x9 :: x10 :: x11 :: x12 :: x13 :: x14 :: x15 :: x16 :: some (.ow ds) :: ε) := rfl
theorem mv17o {x0 x1 x2 x3 x4 x5 x6 x7 x8 x9 x10 x11 x12 x13 x14 x15 x16 : Option R} {ε : Ev} {QE : R → Ev → Prop} {ds : List D} : dMv 17 (x0 :: x1 :: x2 :: x3 :: x4 :: x5 :: x6 :: x7 :: x8 :: x9 :: x10 :: x11 :: x12 :: x13 :: x14 :: x15 :: x16 :: some (.ow ds) :: ε) QE = QE (.ow ds) (x0 :: x1 :: x2 :: x3 :: x4 :: x5 :: x6 :: x7 :: x8 :: x9 :: x10 :: x11 :: x12 :: x13 :: x14 :: x15 :: x16 :: none :: ε) := rfl
theorem nm17d {x0 x1 x2 x3 x4 x5 x6 x7 x8 x9 x10 x11 x12 x13 x14 x15 x16 : Option R} {ε : Ev} {QE : R → Ev → Prop} {ks : List (L2.Key × D)} : dNm 17 (x0 :: x1 :: x2 :: x3 :: x4 :: x5 :: x6 :: x7 :: x8 :: x9 :: x10 :: x11 :: x12 :: x13 :: x14 :: x15 :: x16 :: some (.od ks) :: ε) QE = QE (.fr (.dct ks)) (x0 :: x1 :: x2 :: x3 :: x4 :: x5 :: x6 :: x7 :: x8 :: x9 :: x10 :: x11 :: x12 :: x13 :: x14 :: x15 :: x16 :: some (.fr (.dct ks)) :: ε) := rfl
theorem bo17d {x0 x1 x2 x3 x4 x5 x6 x7 x8 x9 x10 x11 x12 x13 x14 x15 x16 : Option R} {ε : Ev} {QE : R → Ev → Prop} {ks : List (L2.Key × D)} : dBo 17 (x0 :: x1 :: x2 :: x3 :: x4 :: x5 :: x6 :: x7 :: x8 :: x9 :: x10 :: x11 :: x12 :: x13 :: x14 :: x15 :: x16 :: some (.od ks) :: ε) QE = QE (.bd ks) (x0 :: x1 :: x2 :: x3 :: x4 :: x5 :: x6 :: x7 :: x8 :: x9 :: x10 :: x11 :: x12 :: x13 :: x14 :: x15 :: x16 :: some (.od ks) :: ε) := rfl
theorem mv17d {x0 x1 x2 x3 x4 x5 x6 x7 x8 x9 x10 x11 x12 x13 x14 x15 x16 : Option R} {ε : Ev} {QE : R → Ev → Prop} {ks : List (L2.Key × D)} : dMv 17 (x0 :: x1 :: x2 :: x3 :: x4 :: x5 :: x6 :: x7 :: x8 :: x9 :: x10 :: x11 :: x12 :: x13 :: x14 :: x15 :: x16 :: some (.od ks) :: ε) QE = QE (.od ks) (x0 :: x1 :: x2 :: x3 :: x4 :: x5 :: x6 :: x7 :: x8 :: x9 :: x10 :: x11 :: x12 :: x13 :: x14 :: x15 :: x16 :: none :: ε) := rfl
theorem nm18f {x0 x1 x2 x3 x4 x5 x6 x7 x8 x9 x10 x11 x12 x13 x14 x15 x16 x17 : Option R} {ε : Ev} {QE : R → Ev → Prop} {d : D} : dNm 18 (x0 :: x1 :: x2 :: x3 :: x4 :: x5 :: x6 :: x7 :: x8 :: x9 :: x10 :: x11 :: x12 :: x13 :: x14 :: x15 :: x16 :: x17 :: some (.fr d) :: ε) QE = QE (.fr d) (x0 :: x1 :: x2 :: x3 :: x4 :: x5 :: x6 :: x7 :: x8 :: x9 :: x10 :: x11 :: x12 :: x13 :: x14 :: x15 :: x16 :: x17 :: some (.fr d) :: ε) := rfl
theorem bo18f {x0 x1 x2 x3 x4 x5 x6 x7 x8 x9 x10 x11 x12 x13 x14 x15 x16 x17 : Option R} {ε : Ev} {QE : R → Ev → Prop} {d : D} : dBo 18 (x0 :: x1 :: x2 :: x3 :: x4 :: x5 :: x6 :: x7 :: x8 :: x9 :: x10 :: x11 :: x12 :: x13 :: x14 :: x15 :: x16 :: x17 :: some (.fr d) :: ε) QE = QE (.fr d) (x0 :: x1 :: x2 :: x3 :: x4 :: x5 :: x6 :: x7 :: x8 :: x9 :: x10 :: x11 :: x12 :: x13 :: x14 :: x15 :: x16 :: x17 :: some (.fr d) :: ε) := rfl
theorem mv18f {x0 x1 x2 x3 x4 x5 x6 x7 x8 x9 x10 x11 x12 x13 x14 x15 x16 x17 : Option R} {ε : Ev} {QE : R → Ev → Prop} {d : D} : dMv 18 (x0 :: x1 :: x2 :: x3 :: x4 :: x5 :: x6 :: x7 :: x8 :: x9 :: x10 :: x11 :: x12 :: x13 :: x14 :: x15 :: x16 :: x17 :: some (.fr d) :: ε) QE = QE (.fr d) (x0 :: x1 :: x2 :: x3 :: x4 :: x5 :: x6 :: x7 :: x8 :: x9 :: x10 :: x11 :: x12 :: x13 :: x14 :: x15 :: x16 :: x17 :: some (.fr d) :: ε) := rfl
theorem nm18o {x0 x1 x2 x3 x4 x5 x6 x7 x8 x9 x10 x11 x12 x13 x14 x15 x16 x17 : Option R} {ε : Ev} {QE : R → Ev → Prop} {ds : List D} : dNm 18 (x0 :: x1 :: x2 :: x3 :: x4 :: x5 :: x6 :: x7 :: x8 :: x9 :: x10 :: x11 :: x12 :: x13 :: x14 :: x15 :: x16 :: x17 :: some (.ow ds) :: ε) QE = QE (.fr (.lst ds)) (x0 :: x1 :: x2 :: x3 :: x4 :: x5 :: x6 :: x7 :: x8 :: x9 :: x10 :: x11 :: x12 :: x13 :: x14 :: x15 :: x16 :: x17 :: some (.fr (.lst ds)) :: ε) := rfl
theorem bo18o {x0 x1 x2 x3 x4 x5 x6 x7 x8 x9 x10 x11 x12 x13 x14 x15 x16 x17 : Option R} {ε : Ev} {QE : R → Ev → Prop} {ds : List D} : dBo 18 (x0 :: x1 :: x2 :: x3 :: x4 :: x5 :: x6 :: x7 :: x8 :: x9 :: x10 :: x11 :: x12 :: x13 :: x14 :: x15 :: x16 :: x17 :: some (.ow ds) :: ε) QE = QE (.bo ds) (x0 :: x1 :: x2 :: x3 :: x4 :: x5 :: x6 :: x7 :: x8 :: x9 :: x10 :: x11 :: x12 :: x13 :: x14 :: x15 :: x16 :: x17 :: some (.ow ds) :: ε) := rfl
theorem mv18o {x0 x1 x2 x3 x4 x5 x6 x7 x8 x9 x10 x11 x12 x13 x14 x15 x16 x17 : Option R} {ε : Ev} {QE : R → Ev → Prop} {ds : List D} : dMv 18 (x0 :: x1 :: x2 :: x3 :: x4 :: x5 :: x6 :: x7 :: x8 :: x9 :: x10 :: x11 :: x12 :: x13 :: x14 :: x15 :: x16 :: x17 :: some (.ow ds) :: ε) QE = QE (.ow ds) (x0 :: x1 :: x2 :: x3 :: x4 :: x5 :: x6 :: x7 :: x8 :: x9 :: x10 :: x11 :: x12 :: x13 :: x14 :: x15 :: x16 :: x17 :: none :: ε) := rfl
theorem nm18d {x0 x1 x2 x3 x4 x5 x6 x7 x8 x9 x10 x11 x12 x13 x14 x15 x16 x17 : Option R} {ε : Ev} {QE : R → Ev → Prop} {ks : List (L2.Key × D)} : dNm 18 (x0 :: x1 :: x2 :: x3 :: x4 :: x5 :: x6 :: x7 :: x8 :: x9 :: x10 :: x11 :: x12 :: x13 :: x14 :: x15 :: x16 :: x17 :: some (.od ks) :: ε) QE = QE (.fr (.dct ks)) (x0 :: x1 :: x2 :: x3 :: x4 :: x5 :: x6 :: x7 :: x8 :: x9 :: x10 :: x11 :: x12 :: x13 :: x14 :: x15 :: x16 :: x17 :: some (.fr (.dct ks)) :: ε) := rfl
theorem bo18d {x0 x1 x2 x3 x4 x5 x6 x7 x8 x9 x10 x11 x12 x13 x14 x15 x16 x17 : Option R} {ε : Ev} {QE : R → Ev → Prop} {ks : List (L2.Key × D)} : dBo 18 (x0 :: x1 :: x2 :: x3 :: x4 :: x5 :: x6 :: x7 :: x8 :: x9 :: x10 :: x11 :: x12 :: x13 :: x14 :: x15 :: x16 :: x17 :: some (.od ks) :: ε) QE = QE (.bd ks) (x0 :: x1 :: x2 :: x3 :: x4 :: x5 :: x6 :: x7 :: x8 :: x9 :: x10 :: x11 :: x12 :: x13 :: x14 :: x15 :: x16 :: x17 :: some (.od ks) :: ε) := rfl
theorem mv18d {x0 x1 x2 x3 x4 x5 x6 x7 x8 x9 x10 x11 x12 x13 x14 x15 x16 x17 : Option R} {ε : Ev} {QE : R → Ev → Prop} {ks : List (L2.Key × D)} : dMv 18 (x0 :: x1 :: x2 :: x3 :: x4 :: x5 :: x6 :: x7 :: x8 :: x9 :: x10 :: x11 :: x12 :: x13 :: x14 :: x15 :: x16 :: x17 :: some (.od ks) :: ε) QE = QE (.od ks) (x0 :: x1 :: x2 :: x3 :: x4 :: x5 :: x6 :: x7 :: x8 :: x9 :: x10 :: x11 :: x12 :: x13 :: x14 :: x15 :: x16 :: x17 :: none :: ε) := rfl
theorem nm19f {x0 x1 x2 x3 x4 x5 x6 x7 x8 x9 x10 x11 x12 x13 x14 x15 x16 x17 x18 : Option R} {ε : Ev} {QE : R → Ev → Prop} {d : D} : dNm 19 (x0 :: x1 :: x2 :: x3 :: x4 :: x5 :: x6 :: x7 :: x8 :: x9 :: x10 :: x11 :: x12 :: x13 :: x14 :: x15 :: x16 :: x17 :: x18 :: some (.fr d) :: ε) QE = QE (.fr d) (x0 :: x1 :: x2 :: x3 :: x4 :: x5 :: x6 :: x7 :: x8 :: x9 :: x10 :: x11 :: x12 :: x13 :: x14 :: x15 :: x16 :: x17 :: x18 :: some (.fr d) :: ε) := rfl
theorem bo19f {x0 x1 x2 x3 x4 x5 x6 x7 x8 x9 x10 x11 x12 x13 x14 x15 x16 x17 x18 : Option R} {ε : Ev} {QE : R → Ev → Prop} {d : D} : dBo 19 (x0 :: x1 :: x2 :: x3 :: x4 :: x5 :: x6 :: x7 :: x8 :: x9 :: x10 :: x11 :: x12 :: x13 :: x14 :: x15 :: x16 :: x17 :: x18 :: some (.fr d) :: ε) QE = QE (.fr d) (x0 :: x1 :: x2 :: x3 :: x4 :: x5 :: x6 :: x7 :: x8 :: x9 :: x10 :: x11 :: x12 :: x13 :: x14 :: x15 :: x16 :: x17 :: x18 :: some (.fr d) :: ε) := rfl
theorem mv19f {x0 x1 x2 x3 x4 x5 x6 x7 x8 x9 x10 x11 x12 x13 x14 x15 x16 x17 x18 : Option R} {ε : Ev} {QE : R → Ev → Prop} {d : D} : dMv 19 (x0 :: x1 :: x2 :: x3 :: x4 :: x5 :: x6 :: x7 :: x8 :: x9 :: x10 :: x11 :: x12 :: x13 :: x14 :: x15 :: x16 :: x17 :: x18 :: some (.fr d) :: ε) QE = QE (.fr d) (x0 :: x1 :: x2 :: x3 :: x4 :: x5 :: x6 :: x7 :: x8 :: x9 :: x10 :: x11 :: x12 :: x13 :: x14 :: x15 :: x16 :: x17 :: x18 :: some (.fr d) :: ε) := rfl
theorem nm19o {x0 x1 x2 x3 x4 x5 x6 x7 x8 x9 x10 x11 x12 x13 x14 x15 x16 x17 x18 : Option R} {ε : Ev} {QE : R → Ev → Prop} {ds : List D} : dNm 19 (x0 :: x1 :: x2 :: x3 :: x4 :: x5 :: x6 :: x7 :: x8 :: x9 :: x10 :: x11 :: x12 :: x13 :: x14 :: x15 :: x16 :: x17 :: x18 :: some (.ow ds) :: ε) QE = QE (.fr (.lst ds)) (x0 :: x1 :: x2 :: x3 :: x4 :: x5 :: x6 :: x7 :: x8 :: x9 :: x10 :: x11 :: x12 :: x13 :: x14 :: x15 :: x16 :: x17 :: x18 :: some (.fr (.lst ds)) :: ε) := rfl
theorem bo19o {x0 x1 x2 x3 x4 x5 x6 x7 x8 x9 x10 x11 x12 x13 x14 x15 x16 x17 x18 : Option R} {ε : Ev} {QE : R → Ev → Prop} {ds : List D} : dBo 19 (x0 :: x1 :: x2 :: x3 :: x4 :: x5 :: x6 :: x7 :: x8 :: x9 :: x10 :: x11 :: x12 :: x13 :: x14 :: x15 :: x16 :: x17 :: x18 :: some (.ow ds) :: ε) QE = QE (.bo ds) (x0 :: x1 :: x2 :: x3 :: x4 :: x5 :: x6 :: x7 :: x8 :: x9 :: x10 :: x11 :: x12 :: x13 :: x14 :: x15 :: x16 :: x17 :: x18 :: some (.ow ds) :: ε) := rfl
theorem mv19o {x0 x1 x2 x3 x4 x5 x6 x7 x8 x9 x10 x11 x12 x13 x14 x15 x16 x17 x18 : Option R} {ε : Ev} {QE : R → Ev → Prop} {ds : List D} : dMv 19 (x0 :: x1 :: x2 :: x3 :: x4 :: x5 :: x6 :: x7 :: x8 :: x9 :: x10 :: x11 :: x12 :: x13 :: x14 :: x15 :: x16 :: x17 :: x18 :: some (.ow ds) :: ε) QE = QE (.ow ds) (x0 :: x1 :: x2 :: x3 :: x4 :: x5 :: x6 :: x7 :: x8 :: x9 :: x10 :: x11 :: x12 :: x13 :: x14 :: x15 :: x16 :: x17 :: x18 :: none :: ε) := rfl
theorem nm19d {x0 x1 x2 x3 x4 x5 x6 x7 x8 x9 x10 x11 x12 x13 x14 x15 x16 x17 x18 : Option R} {ε : Ev} {QE : R → Ev → Prop} {ks : List (L2.Key × D)} : dNm 19 (x0 :: x1 :: x2 :: x3 :: x4 :: x5 :: x6 :: x7 :: x8 :: x9 :: x10 :: x11 :: x12 :: x13 :: x14 :: x15 :: x16 :: x17 :: x18 :: some (.od ks) :: ε) QE = QE (.fr (.dct ks)) (x0 :: x1 :: x2 :: x3 :: x4 :: x5 :: x6 :: x7 :: x8 :: x9 :: x10 :: x11 :: x12 :: x13 :: x14 :: x15 :: x16 :: x17 :: x18 :: some (.fr (.dct ks)) :: ε) := rfl
theorem bo19d {x0 x1 x2 x3 x4 x5 x6 x7 x8 x9 x10 x11 x12 x13 x14 x15 x16 x17 x18 : Option R} {ε : Ev} {QE : R → Ev → Prop} {ks : List (L2.Key × D)} : dBo 19 (x0 :: x1 :: x2 :: x3 :: x4 :: x5 :: x6 :: x7 :: x8 :: x9 :: x10 :: x11 :: x12 :: x13 :: x14 :: x15 :: x16 :: x17 :: x18 :: some (.od ks) :: ε) QE = QE (.bd ks) (x0 :: x1 :: x2 :: x3 :: x4 :: x5 :: x6 :: x7 :: x8 :: x9 :: x10 :: x11 :: x12 :: x13 :: x14 :: x15 :: x16 :: x17 :: x18 :: some (.od ks) :: ε) := rfl
theorem mv19d {x0 x1 x2 x3 x4 x5 x6 x7 x8 x9 x10 x11 x12 x13 x14 x15 x16 x17 x18 : Option R} {ε : Ev} {QE : R → Ev → Prop} {ks : List (L2.Key × D)} : dMv 19 (x0 :: x1 :: x2 :: x3 :: x4 :: x5 :: x6 :: x7 :: x8 :: x9 :: x10 :: x11 :: x12 :: x13 :: x14 :: x15 :: x16 :: x17 :: x18 :: some (.od ks) :: ε) QE = QE (.od ks) (x0 :: x1 :: x2 :: x3 :: x4 :: x5 :: x6 :: x7 :: x8 :: x9 :: x10 :: x11 :: x12 :: x13 :: x14 :: x15 :: x16 :: x17 :: x18 :: none :: ε) := rfl
theorem nm20f {x0 x1 x2 x3 x4 x5 x6 x7 x8 x9 x10 x11 x12 x13 x14 x15 x16 x17 x18 x19 : Option R} {ε : Ev} {QE : R → Ev → Prop} {d : D} : dNm 20 (x0 :: x1 :: x2 :: x3 :: x4 :: x5 :: x6 :: x7 :: x8 :: x9 :: x10 :: x11 :: x12 :: x13 :: x14 :: x15 :: x16 :: x17 :: x18 :: x19 :: some (.fr d) :: ε) QE = QE (.fr d) (x0 :: x1 :: x2 :: x3 :: x4 :: x5 :: x6 :: x7 :: x8 :: x9 :: x10 :: x11 :: x12 :: x13 :: x14 :: x15 :: x16 :: x17 :: x18 :: x19 :: some (.fr d) :: ε) := rfl
theorem bo20f {x0 x1 x2 x3 x4 x5 x6 x7 x8 x9 x10 x11 x12 x13 x14 x15 x16 x17 x18 x19 : Option R} {ε : Ev} {QE : R → Ev → Prop} {d : D} : dBo 20 (x0 :: x1 :: x2 :: x3 :: x4 :: x5 :: x6 :: x7 :: x8 :: x9 :: x10 :: x11 :: x12 :: x13 :: x14 :: x15 :: x16 :: x17 :: x18 :: x19 :: some (.fr d) :: ε) QE = QE (.fr d) (x0 :: x1 :: x2 :: x3 :: x4 :: x5 :: x6 :: x7 :: x8 :: x9 :: x10 :: x11 :: x12 :: x13 :: x14 :: x15 :: x16 :: x17 :: x18 :: x19 :: some (.fr d) :: ε) := rfl
theorem mv20f {x0 x1 x2 x3 x4 x5 x6 x7 x8 x9 x10 x11 x12 x13 x14 x15 x16 x17 x18 x19 : Option R} {ε : Ev} {QE : R → Ev → Prop} {d : D} : dMv 20 (x0 :: x1 :: x2 :: x3 :: x4 :: x5 :: x6 :: x7 :: x8 :: x9 :: x10 :: x11 :: x12 :: x13 :: x14 :: x15 :: x16 :: x17 :: x18 :: x19 :: some (.fr d) :: ε) QE = QE (.fr d) (x0 :: x1 :: x2 :: x3 :: x4 :: x5 :: x6 :: x7 :: x8 :: x9 :: x10 :: x11 :: x12 :: x13 :: x14 :: x15 :: x16 :: x17 :: x18 :: x19 :: some (.fr d) :: ε) := rfl
theorem nm20o {x0 x1 x2 x3 x4 x5 x6 x7 x8 x9 x10 x11 x12 x13 x14 x15 x16 x17 x18 x19 : Option R} {ε : Ev} {QE : R → Ev → Prop} {ds : List D} : dNm 20 (x0 :: x1 :: x2 :: x3 :: x4 :: x5 :: x6 :: x7 :: x8 :: x9 :: x10 :: x11 :: x12 :: x13 :: x14 :: x15 :: x16 :: x17 :: x18 :: x19 :: some (.ow ds) :: ε) QE = QE (.fr (.lst ds)) (x0 :: x1 :: x2 :: x3 :: x4 :: x5 :: x6 :: x7 :: x8 :: x9 :: x10 :: x11 :: x12 :: x13 :: x14 :: x15 :: x16 :: x17 :: x18 :: x19 :: some (.fr (.lst ds)) :: ε) := rfl
theorem bo20o {x0 x1 x2 x3 x4 x5 x6 x7 x8 x9 x10 x11 x12 x13 x14 x15 x16 x17 x18 x19 : Option R} {ε : Ev} {QE : R → Ev → Prop} {ds : List D} : dBo 20 (x0 :: x1 :: x2 :: x3 :: x4 :: x5 :: x6 :: x7 :: x8 :: x9 :: x10 :: x11 :: x12 :: x13 :: x14 :: x15 :: x16 :: x17 :: x18 :: x19 :: some (.ow ds) :: ε) QE = QE (.bo ds) (x0 :: x1 :: x2 :: x3 :: x4 :: x5 :: x6 :: x7 :: x8 :: x9 :: x10 :: x11 :: x12 :: x13 :: x14 :: x15 :: x16 :: x17 :: x18 :: x19 :: some (.ow ds) :: ε) := rfl
theorem mv20o {x0 x1 x2 x3 x4 x5 x6 x7 x8 x9 x10 x11 x12 x13 x14 x15 x16 x17 x18 x19 : Option R} {ε : Ev} {QE : R → Ev → Prop} {ds : List D} : dMv 20 (x0 :: x1 :: x2 :: x3 :: x4 :: x5 :: x6 :: x7 :: x8 :: x9 :: x10 :: x11 :: x12 :: x13 :: x14 :: x15 :: x16 :: x17 :: x18 :: x19 :: some (.ow ds) :: ε) QE = QE (.ow ds) (x0 :: x1 :: x2 :: x3 :: x4 :: x5 :: x6 :: x7 :: x8 :: x9 :: x10 :: x11 :: x12 :: x13 :: x14 :: x15 :: x16 :: x17 :: x18 :: x19 :: none :: ε) := rfl
theorem nm20d {x0 x1 x2 x3 x4 x5 x6 x7 x8 x9 x10 x11 x12 x13 x14 x15 x16 x17 x18 x19 : Option R} {ε : Ev} {QE : R → Ev → Prop} {ks : List (L2.Key × D)} : dNm 20 (x0 :: x1 :: x2 :: x3 :: x4 :: x5 :: x6 :: x7 :: x8 :: x9 :: x10 :: x11 :: x12 :: x13 :: x14 :: x15 :: x16 :: x17 :: x18 :: x19 :: some (.od ks) :: ε) QE = QE (.fr (.dct ks)) (x0 :: x1 :: x2 :: x3 :: x4 :: x5 :: x6 :: x7 :: x8 :: x9 :: x10 :: x11 :: x12 :: x13 :: x14 :: x15 :: x16 :: x17 :: x18 :: x19 :: some (.fr (.dct ks)) :: ε) := rfl
theorem bo20d {x0 x1 x2 x3 x4 x5 x6 x7 x8 x9 x10 x11 x12 x13 x14 x15 x16 x17 x18 x19 : Option R} {ε : Ev} {QE : R → Ev → Prop} {ks : List (L2.Key × D)} : dBo 20 (x0 :: x1 :: x2 :: x3 :: x4 :: x5 :: x6 :: x7 :: x8 :: x9 :: x10 :: x11 :: x12 :: x13 :: x14 :: x15 :: x16 :: x17 :: x18 :: x19 :: some (.od ks) :: ε) QE = QE (.bd ks) (x0 :: x1 :: x2 :: x3 :: x4 :: x5 :: x6 :: x7 :: x8 :: x9 :: x10 :: x11 :: x12 :: x13 :: x14 :: x15 :: x16 :: x17 :: x18 :: x19 :: some (.od ks) :: ε) := rfl
theorem mv20d {x0 x1 x2 x3 x4 x5 x6 x7 x8 x9 x10 x11 x12 x13 x14 x15 x16 x17 x18 x19 : Option R} {ε : Ev} {QE : R → Ev → Prop} {ks : List (L2.Key × D)} : dMv 20 (x0 :: x1 :: x2 :: x3 :: x4 :: x5 :: x6 :: x7 :: x8 :: x9 :: x10 :: x11 :: x12 :: x13 :: x14 :: x15 :: x16 :: x17 :: x18 :: x19 :: some (.od ks) :: ε) QE = QE (.od ks) (x0 :: x1 :: x2 :: x3 :: x4 :: x5 :: x6 :: x7 :: x8 :: x9 :: x10 :: x11 :: x12 :: x13 :: x14 :: x15 :: x16 :: x17 :: x18 :: x19 :: none :: ε) := rfl
theorem nm21f {x0 x1 x2 x3 x4 x5 x6 x7 x8 x9 x10 x11 x12 x13 x14 x15 x16 x17 x18 x19 x20 : Option R} {ε : Ev} {QE : R → Ev → Prop} {d : D} : dNm 21 (x0 :: x1 :: x2 :: x3 :: x4 :: x5 :: x6 :: x7 :: x8 :: x9 :: x10 :: x11 :: x12 :: x13 :: x14 :: x15 :: x16 :: x17 :: x18 :: x19 :: x20 :: some (.fr d) :: ε) QE = QE (.fr d) (x0 :: x1 :: x2 :: x3 :: x4 :: x5 :: x6 :: x7 :: x8 :: x9 :: x10 :: x11 :: x12 :: x13 :: x14 :: x15 :: x16 :: x17 :: x18 :: x19 :: x20 :: some (.fr d) :: ε) := rfl
theorem bo21f {x0 x1 x2 x3 x4 x5 x6 x7 x8 x9 x10 x11 x12 x13 x14 x15 x16 x17 x18 x19 x20 : Option R} {ε : Ev} {QE : R → Ev → Prop} {d : D} : dBo 21 (x0 :: x1 :: x2 :: x3 :: x4 :: x5 :: x6 :: x7 :: x8 :: x9 :: x10 :: x11 :: x12 :: x13 :: x14 :: x15 :: x16 :: x17 :: x18 :: x19 :: x20 :: some (.fr d) :: ε) QE = QE (.fr d) (x0 :: x1 :: x2 :: x3 :: x4 :: x5 :: x6 :: x7 :: x8 :: x9 :: x10 :: x11 :: x12 :: x13 :: x14 :: x15 :: x16 :: x17 :: x18 :: x19 :: x20 :: some (.fr d) :: ε) := rfl
theorem mv21f {x0 x1 x2 x3 x4 x5 x6 x7 x8 x9 x10 x11 x12 x13 x14 x15 x16 x17 x18 x19 x20 : Option R} {ε : Ev} {QE : R → Ev → Prop} {d : D} : dMv 21 (x0 :: x1 :: x2 :: x3 :: x4 :: x5 :: x6 :: x7 :: x8 :: x9 :: x10 :: x11 :: x12 :: x13 :: x14 :: x15 :: x16 :: x17 :: x18 :: x19 :: x20 :: some (.fr d) :: ε) QE = QE (.fr d) (x0 :: x1 :: x2 :: x3 :: x4 :: x5 :: x6 :: x7 :: x8 :: x9 :: x10 :: x11 :: x12 :: x13 :: x14 :: x15 :: x16 :: x17 :: x18 :: x19 :: x20 :: some (.fr d) :: ε) := rfl
theorem nm21o {x0 x1 x2 x3 x4 x5 x6 x7 x8 x9 x10 x11 x12 x13 x14 x15 x16 x17 x18 x19 x20 : Option R} {ε : Ev} {QE : R → Ev → Prop} {ds : List D} : dNm 21 (x0 :: x1 :: x2 :: x3 :: x4 :: x5 :: x6 :: x7 :: x8 :: x9 :: x10 :: x11 :: x12 :: x13 :: x14 :: x15 :: x16 :: x17 :: x18 :: x19 :: x20 :: some (.ow ds) :: ε) QE = QE (.fr (.lst ds)) (x0 :: x1 :: x2 :: x3 :: x4 :: x5 :: x6 :: x7 :: x8 :: x9 :: x10 :: x11 :: x12 :: x13 :: x14 :: x15 :: x16 :: x17 :: x18 :: x19 :: x20 :: some (.fr (.lst ds)) :: ε) := rfl
theorem bo21o {x0 x1 x2 x3 x4 x5 x6 x7 x8 x9 x10 x11 x12 x13 x14 x15 x16 x17 x18 x19 x20 : Option R} {ε : Ev} {QE : R → Ev → Prop} {ds : List D} : dBo 21 (x0 :: x1 :: x2 :: x3 :: x4 :: x5 :: x6 :: x7 :: x8 :: x9 :: x10 :: x11 :: x12 :: x13 :: x14 :: x15 :: x16 :: x17 :: x18 :: x19 :: x20 :: some (.ow ds) :: ε) QE = QE (.bo ds) (x0 :: x1 :: x2 :: x3 :: x4 :: x5 :: x6 :: x7 :: x8 :: x9 :: x10 :: x11 :: x12 :: x13 :: x14 :: x15 :: x16 :: x17 :: x18 :: x19 :: x20 :: some (.ow ds) :: ε) := rfl
theorem mv21o {x0 x1 x2 x3 x4 x5 x6 x7 x8 x9 x10 x11 x12 x13 x14 x15 x16 x17 x18 x19 x20 : Option R} {ε : Ev} {QE : R → Ev → Prop} {ds : List D} : dMv 21 (x0 :: x1 :: x2 :: x3 :: x4 :: x5 :: x6 :: x7 :: x8 :: x9 :: x10 :: x11 :: x12 :: x13 :: x14 :: x15 :: x16 :: x17 :: x18 :: x19 :: x20 :: some (.ow ds) :: ε) QE = QE (.ow ds) (x0 :: x1 :: x2 :: x3 :: x4 :: x5 :: x6 :: x7 :: x8 :: x9 :: x10 :: x11 :: x12 :: x13 :: x14 :: x15 :: x16 :: x17 :: x18 :: x19 :: x20 :: none :: ε) := rfl
theorem nm21d {x0 x1 x2 x3 x4 x5 x6 x7 x8 x9 x10 x11 x12 x13 x14 x15 x16 x17 x18 x19 x20 : Option R} {ε : Ev} {QE : R → Ev → Prop} {ks : List (L2.Key × D)} : dNm 21 (x0 :: x1 :: x2 :: x3 :: x4 :: x5 :: x6 :: x7 :: x8 :: x9 :: x10 :: x11 :: x12 :: x13 :: x14 :: x15 :: x16 :: x17 :: x18 :: x19 :: x20 :: some (.od ks) :: ε) QE = QE (.fr (.dct ks)) (x0 :: x1 :: x2 :: x3 :: x4 :: x5 :: x6 :: x7 :: x8 :: x9 :: x10 :: x11 :: x12 :: x13 :: x14 :: x15 :: x16 :: x17 :: x18 :: x19 :: x20 :: some (.fr (.dct ks)) :: ε) := rfl
theorem bo21d {x0 x1 x2 x3 x4 x5 x6 x7 x8 x9 x10 x11 x12 x13 x14 x15 x16 x17 x18 x19 x20 : Option R} {ε : Ev} {QE : R → Ev → Prop} {ks : List (L2.Key × D)} : dBo 21 (x0 :: x1 :: x2 :: x3 :: x4 :: x5 :: x6 :: x7 :: x8 :: x9 :: x10 :: x11 :: x12 :: x13 :: x14 :: x15 :: x16 :: x17 :: x18 :: x19 :: x20 :: some (.od ks) :: ε) QE = QE (.bd ks) (x0 :: x1 :: x2 :: x3 :: x4 :: x5 :: x6 :: x7 :: x8 :: x9 :: x10 :: x11 :: x12 :: x13 :: x14 :: x15 :: x16 :: x17 :: x18 :: x19 :: x20 :: some (.od ks) :: ε) := rfl
theorem mv21d {x0 x1 x2 x3 x4 x5 x6 x7 x8 x9 x10 x11 x12 x13 x14 x15 x16 x17 x18 x19 x20 : Option R} {ε : Ev} {QE : R → Ev → Prop} {ks : List (L2.Key × D)} : dMv 21 (x0 :: x1 :: x2 :: x3 :: x4 :: x5 :: x6 :: x7 :: x8 :: x9 :: x10 :: x11 :: x12 :: x13 :: x14 :: x15 :: x16 :: x17 :: x18 :: x19 :: x20 :: some (.od ks) :: ε) QE = QE (.od ks) (x0 :: x1 :: x2 :: x3 :: x4 :: x5 :: x6 :: x7 :: x8 :: x9 :: x10 :: x11 :: x12 :: x13 :: x14 :: x15 :: x16 :: x17 :: x18 :: x19 :: x20 :: none :: ε) := rfl
theorem nm22f {x0 x1 x2 x3 x4 x5 x6 x7 x8 x9 x10 x11 x12 x13 x14 x15 x16 x17 x18 x19 x20 x21 : Option R} {ε : Ev} {QE : R → Ev → Prop} {d : D} : dNm 22 (x0 :: x1 :: x2 :: x3 :: x4 :: x5 :: x6 :: x7 :: x8 :: x9 :: x10 :: x11 :: x12 :: x13 :: x14 :: x15 :: x16 :: x17 :: x18 :: x19 :: x20 :: x21 :: some (.fr d) :: ε) QE = QE (.fr d) (x0 :: x1 :: x2 :: x3 :: x4 :: x5 :: x6 :: x7 :: x8 :: x9 :: x10 :: x11 :: x12 :: x13 :: x14 :: x15 :: x16 :: x17 :: x18 :: x19 :: x20 :: x21 :: some (.fr d) :: ε) := rfl
theorem bo22f {x0 x1 x2 x3 x4 x5 x6 x7 x8 x9 x10 x11 x12 x13 x14 x15 x16 x17 x18 x19 x20 x21 : Option R} {ε : Ev} {QE : R → Ev → Prop} {d : D} : dBo 22 (x0 :: x1 :: x2 :: x3 :: x4 :: x5 :: x6 :: x7 :: x8 :: x9 :: x10 :: x11 :: x12 :: x13 :: x14 :: x15 :: x16 :: x17 :: x18 :: x19 :: x20 :: x21 :: some (.fr d) :: ε) QE = QE (.fr d) (x0 :: x1 :: x2 :: x3 :: x4 :: x5 :: x6 :: x7 :: x8 :: x9 :: x10 :: x11 :: x12 :: x13 :: x14 :: x15 :: x16 :: x17 :: x18 :: x19 :: x20 :: x21 :: some (.fr d) :: ε) := rfl
theorem mv22f {x0 x1 x2 x3 x4 x5 x6 x7 x8 x9 x10 x11 x12 x13 x14 x15 x16 x17 x18 x19 x20 x21 : Option R} {ε : Ev} {QE : R → Ev → Prop} {d : D} : dMv 22 (x0 :: x1 :: x2 :: x3 :: x4 :: x5 :: x6 :: x7 :: x8 :: x9 :: x10 :: x11 :: x12 :: x13 :: x14 :: x15 :: x16 :: x17 :: x18 :: x19 :: x20 :: x21 :: some (.fr d) :: ε) QE = QE (.fr d) (x0 :: x1 :: x2 :: x3 :: x4 :: x5 :: x6 :: x7 :: x8 :: x9 :: x10 :: x11 :: x12 :: x13 :: x14 :: x15 :: x16 :: x17 :: x18 :: x19 :: x20 :: x21 :: some (.fr d) :: ε) := rfl
theorem nm22o {x0 x1 x2 x3 x4 x5 x6 x7 x8 x9 x10 x11 x12 x13 x14 x15 x16 x17 x18 x19 x20 x21 : Option R} {ε : Ev} {QE : R → Ev → Prop} {ds : List D} : dNm 22 (x0 :: x1 :: x2 :: x3 :: x4 :: x5 :: x6 :: x7 :: x8 :: x9 :: x10 :: x11 :: x12 :: x13 :: x14 :: x15 :: x16 :: x17 :: x18 :: x19 :: x20 :: x21 :: some (.ow ds) :: ε) QE = QE (.fr (.lst ds)) (x0 :: x1 :: x2 :: x3 :: x4 :: x5 :: x6 :: x7 :: x8 :: x9 :: x10 :: x11 :: x12 :: x13 :: x14 :: x15 :: x16 :: x17 :: x18 :: x19 :: x20 :: x21 :: some (.fr (.lst ds)) :: ε) := rfl
theorem bo22o {x0 x1 x2 x3 x4 x5 x6 x7 x8 x9 x10 x11 x12 x13 x14 x15 x16 x17 x18 x19 x20 x21 : Option R} {ε : Ev} {QE : R → Ev → Prop} {ds : List D} : dBo 22 (x0 :: x1 :: x2 :: x3 :: x4 :: x5 :: x6 :: x7 :: x8 :: x9 :: x10 :: x11 :: x12 :: x13 :: x14 :: x15 :: x16 :: x17 :: x18 :: x19 :: x20 :: x21 :: some (.ow ds) :: ε) QE = QE (.bo ds) (x0 :: x1 :: x2 :: x3 :: x4 :: x5 :: x6 :: x7 :: x8 :: x9 :: x10 :: x11 :: x12 :: x13 :: x14 :: x15 :: x16 :: x17 :: x18 :: x19 :: x20 :: x21 :: some (.ow ds) :: ε) := rfl
theorem mv22o {x0 x1 x2 x3 x4 x5 x6 x7 x8 x9 x10 x11 x12 x13 x14 x15 x16 x17 x18 x19 x20 x21 : Option R} {ε : Ev} {QE : R → Ev → Prop} {ds : List D} : dMv 22 (x0 :: x1 :: x2 :: x3 :: x4 :: x5 :: x6 :: x7 :: x8 :: x9 :: x10 :: x11 :: x12 :: x13 :: x14 :: x15 :: x16 :: x17 :: x18 :: x19 :: x20 :: x21 :: some (.ow ds) :: ε) QE = QE (.ow ds) (x0 :: x1 :: x2 :: x3 :: x4 :: x5 :: x6 :: x7 :: x8 :: x9 :: x10 :: x11 :: x12 :: x13 :: x14 :: x15 :: x16 :: x17 :: x18 :: x19 :: x20 :: x21 :: none :: ε) := rfl
theorem nm22d {x0 x1 x2 x3 x4 x5 x6 x7 x8 x9 x10 x11 x12 x13 x14 x15 x16 x17 x18 x19 x20 x21 : Option R} {ε : Ev} {QE : R → Ev → Prop} {ks : List (L2.Key × D)} : dNm 22 (x0 :: x1 :: x2 :: x3 :: x4 :: x5 :: x6 :: x7 :: x8 :: x9 :: x10 :: x11 :: x12 :: x13 :: x14 :: x15 :: x16 :: x17 :: x18 :: x19 :: x20 :: x21 :: some (.od ks) :: ε) QE = QE (.fr (.dct ks)) (x0 :: x1 :: x2 :: x3 :: x4 :: x5 :: x6 :: x7 :: x8 :: x9 :: x10 :: x11 :: x12 :: x13 :: x14 :: x15 :: x16 :: x17 :: x18 :: x19 :: x20 :: x21 :: some (.fr (.dct ks)) :: ε) := rfl
theorem bo22d {x0 x1 x2 x3 x4 x5 x6 x7 x8 x9 x10 x11 x12 x13 x14 x15 x16 x17 x18 x19 x20 x21 : Option R} {ε : Ev} {QE : R → Ev → Prop} {ks : List (L2.Key × D)} : dBo 22 (x0 :: x1 :: x2 :: x3 :: x4 :: x5 :: x6 :: x7 :: x8 :: x9 :: x10 :: x11 :: x12 :: x13 :: x14 :: x15 :: x16 :: x17 :: x18 :: x19 :: x20 :: x21 :: some (.od ks) :: ε) QE = QE (.bd ks) (x0 :: x1 :: x2 :: x3 :: x4 :: x5 :: x6 :: x7 :: x8 :: x9 :: x10 :: x11 :: x12 :: x13 :: x14 :: x15 :: x16 :: x17 :: x18 :: x19 :: x20 :: x21 :: some (.od ks) :: ε) := rfl
theorem mv22d {x0 x1 x2 x3 x4 x5 x6 x7 x8 x9 x10 x11 x12 x13 x14 x15 x16 x17 x18 x19 x20 x21 : Option R} {ε : Ev} {QE : R → Ev → Prop} {ks : List (L2.Key × D)} : dMv 22 (x0 :: x1 :: x2 :: x3 :: x4 :: x5 :: x6 :: x7 :: x8 :: x9 :: x10 :: x11 :: x12 :: x13 :: x14 :: x15 :: x16 :: x17 :: x18 :: x19 :: x20 :: x21 :: some (.od ks) :: ε) QE = QE (.od ks) (x0 :: x1 :: x2 :: x3 :: x4 :: x5 :: x6 :: x7 :: x8 :: x9 :: x10 :: x11 :: x12 :: x13 :: x14 :: x15 :: x16 :: x17 :: x18 :: x19 :: x20 :: x21 :: none :: ε) := rfl
theorem nm23f {x0 x1 x2 x3 x4 x5 x6 x7 x8 x9 x10 x11 x12 x13 x14 x15 x16 x17 x18 x19 x20 x21 x22 : Option R} {ε : Ev} {QE : R → Ev → Prop} {d : D} : dNm 23 (x0 :: x1 :: x2 :: x3 :: x4 :: x5 :: x6 :: x7 :: x8 :: x9 :: x10 :: x11 :: x12 :: x13 :: x14 :: x15 :: x16 :: x17 :: x18 :: x19 :: x20 :: x21 :: x22 :: some (.fr d) :: ε) QE = QE (.fr d) (x0 :: x1 :: x2 :: x3 :: x4 :: x5 :: x6 :: x7 :: x8 :: x9 :: x10 :: x11 :: x12 :: x13 :: x14 :: x15 :: x16 :: x17 :: x18 :: x19 :: x20 :: x21 :: x22 :: some (.fr d) :: ε) := rfl
theorem bo23f {x0 x1 x2 x3 x4 x5 x6 x7 x8 x9 x10 x11 x12 x13 x14 x15 x16 x17 x18 x19 x20 x21 x22 : Option R} {ε : Ev} {QE : R → Ev → Prop} {d : D} : dBo 23 (x0 :: x1 :: x2 :: x3 :: x4 :: x5 :: x6 :: x7 :: x8 :: x9 :: x10 :: x11 :: x12 :: x13 :: x14 :: x15 :: x16 :: x17 :: x18 :: x19 :: x20 :: x21 :: x22 :: some (.fr d) :: ε) QE = QE (.fr d) (x0 :: x1 :: x2 :: x3 :: x4 :: x5 :: x6 :: x7 :: x8 :: x9 :: x10 :: x11 :: x12 :: x13 :: x14 :: x15 :: x16 :: x17 :: x18 :: x19 :: x20 :: x21 :: x22 :: some (.fr d) :: ε) := rfl
theorem mv23f {x0 x1 x2 x3 x4 x5 x6 x7 x8 x9 x10 x11 x12 x13 x14 x15 x16 x17 x18 x19 x20 x21 x22 : Option R} {ε : Ev} {QE : R → Ev → Prop} {d : D} : dMv 23 (x0 :: x1 :: x2 :: x3 :: x4 :: x5 :: x6 :: x7 :: x8 :: x9 :: x10 :: x11 :: x12 :: x13 :: x14 :: x15 :: x16 :: x17 :: x18 :: x19 :: x20 :: x21 :: x22 :: some (.fr d) :: ε) QE = QE (.fr d) (x0 :: x1 :: x2 :: x3 :: x4 :: x5 :: x6 :: x7 :: x8 :: x9 :: x10 :: x11 :: x12 :: x13 :: x14 :: x15 :: x16 :: x17 :: x18 :: x19 :: x20 :: x21 :: x22 :: some (.fr d) :: ε) := rfl
theorem nm23o {x0 x1 x2 x3 x4 x5 x6 x7 x8 x9 x10 x11 x12 x13 x14 x15 x16 x17 x18 x19 x20 x21 x22 : Option R} {ε : Ev} {QE : R → Ev → Prop} {ds : List D} : dNm 23 (x0 :: x1 :: x2 :: x3 :: x4 :: x5 :: x6 :: x7 :: x8 :: x9 :: x10 :: x11 :: x12 :: x13 :: x14 :: x15 :: x16 :: x17 :: x18 :: x19 :: x20 :: x21 :: x22 :: some (.ow ds) :: ε) QE = QE (.fr (.lst ds)) (x0 :: x1 :: x2 :: x3 :: x4 :: x5 :: x6 :: x7 :: x8 :: x9 :: x10 :: x11 :: x12 :: x13 :: x14 :: x15 :: x16 :: x17 :: x18 :: x19 :: x20 :: x21 :: x22 :: some (.fr (.lst ds)) :: ε) := rfl
theorem bo23o {x0 x1 x2 x3 x4 x5 x6 x7 x8 x9 x10 x11 x12 x13 x14 x15 x16 x17 x18 x19 x20 x21 x22 : Option R} {ε : Ev} {QE : R → Ev → Prop} {ds : List D} : dBo 23 (x0 :: x1 :: x2 :: x3 :: x4 :: x5 :: x6 :: x7 :: x8 :: x9 :: x10 :: x11 :: x12 :: x13 :: x14 :: x15 :: x16 :: x17 :: x18 :: x19 :: x20 :: x21 :: x22 :: some (.ow ds) :: ε) QE = QE (.bo ds) (x0 :: x1 :: x2 :: x3 :: x4 :: x5 :: x6 :: x7 :: x8 :: x9 :: x10 :: x11 :: x12 :: x13 :: x14 :: x15 :: x16 :: x17 :: x18 :: x19 :: x20 :: x21 :: x22 :: some (.ow ds) :: ε) := rfl
theorem mv23o {x0 x1 x2 x3 x4 x5 x6 x7 x8 x9 x10 x11 x12 x13 x14 x15 x16 x17 x18 x19 x20 x21 x22 : Option R} {ε : Ev} {QE : R → Ev → Prop} {ds : List D} : dMv 23 (x0 :: x1 :: x2 :: x3 :: x4 :: x5 :: x6 :: x7 :: x8 :: x9 :: x10 :: x11 :: x12 :: x13 :: x14 :: x15 :: x16 :: x17 :: x18 :: x19 :: x20 :: x21 :: x22 :: some (.ow ds) :: ε) QE = QE (.ow ds) (x0 :: x1 :: x2 :: x3 :: x4 :: x5 :: x6 :: x7 :: x8 :: x9 :: x10 :: x11 :: x12 :: x13 :: x14 :: x15 :: x16 :: x17 :: x18 :: x19 :: x20 :: x21 :: x22 :: none :: ε) := rfl
theorem nm23d {x0 x1 x2 x3 x4 x5 x6 x7 x8 x9 x10 x11 x12 x13 x14 x15 x16 x17 x18 x19 x20 x21 x22 : Option R} {ε : Ev} {QE : R → Ev → Prop} {ks : List (L2.Key × D)} : dNm 23 (x0 :: x1 :: x2 :: x3 :: x4 :: x5 :: x6 :: x7 :: x8 :: x9 :: x10 :: x11 :: x12 :: x13 :: x14 :: x15 :: x16 :: x17 :: x18 :: x19 :: x20 :: x21 :: x22 :: some (.od ks) :: ε) QE = QE (.fr (.dct ks)) (x0 :: x1 :: x2 :: x3 :: x4 :: x5 :: x6 :: x7 :: x8 :: x9 :: x10 :: x11 :: x12 :: x13 :: x14 :: x15 :: x16 :: x17 :: x18 :: x19 :: x20 :: x21 :: x22 :: some (.fr (.dct ks)) :: ε) := rfl
theorem bo23d {x0 x1 x2 x3 x4 x5 x6 x7 x8 x9 x10 x11 x12 x13 x14 x15 x16 x17 x18 x19 x20 x21 x22 : Option R} {ε : Ev} {QE : R → Ev → Prop} {ks : List (L2.Key × D)} : dBo 23 (x0 :: x1 :: x2 :: x3 :: x4 :: x5 :: x6 :: x7 :: x8 :: x9 :: x10 :: x11 :: x12 :: x13 :: x14 :: x15 :: x16 :: x17 :: x18 :: x19 :: x20 :: x21 :: x22 :: some (.od ks) :: ε) QE = QE (.bd ks) (x0 :: x1 :: x2 :: x3 :: x4 :: x5 :: x6 :: x7 :: x8 :: x9 :: x10 :: x11 :: x12 :: x13 :: x14 :: x15 :: x16 :: x17 :: x18 :: x19 :: x20 :: x21 :: x22 :: some (.od ks) :: ε) := rfl
theorem mv23d {x0 x1 x2 x3 x4 x5 x6 x7 x8 x9 x10 x11 x12 x13 x14 x15 x16 x17 x18 x19 x20 x21 x22 : Option R} {ε : Ev} {QE : R → Ev → Prop} {ks : List (L2.Key × D)} : dMv 23 (x0 :: x1 :: x2 :: x3 :: x4 :: x5 :: x6 :: x7 :: x8 :: x9 :: x10 :: x11 :: x12 :: x13 :: x14 :: x15 :: x16 :: x17 :: x18 :: x19 :: x20 :: x21 :: x22 :: some (.od ks) :: ε) QE = QE (.od ks) (x0 :: x1 :: x2 :: x3 :: x4 :: x5 :: x6 :: x7 :: x8 :: x9 :: x10 :: x11 :: x12 :: x13 :: x14 :: x15 :: x16 :: x17 :: x18 :: x19 :: x20 :: x21 :: x22 :: none :: ε) := rfl
end DL

set_option Elab.async false
set_option linter.all false
set_option maxRecDepth 100000
set_option maxHeartbeats 4000000
namespace DL.K
open PySem PySem.Spec PyProof.Rows L2 DL

def padL (n w : Int) : List Nat := (List.replicate (w - (istr n).length).toNat [48]).flatten ++ istr n
def risingL : List (List Nat) → Bool
  | a :: b :: r => decide (a < b) && risingL (b :: r)
  | _ => true
def pwL (ns : List Int) : List Int := (rngI 1 8).filter fun w => risingL (ns.map fun n => padL n w)
theorem zip_rising : ∀ ls : List (List Nat), ∃ bs : List (List Nat × List Nat), zipD (ls.map D.str) ((ls.drop 1).map D.str) = bs.map (fun p => D.tup [.str p.1, .str p.2]) ∧ (bs.map fun p => decide (p.1 < p.2)).all id = risingL ls
  | [] => ⟨[], rfl, rfl⟩
  | [a] => ⟨[], rfl, rfl⟩
  | a :: b :: r => by
    obtain ⟨bs, e1, e2⟩ := zip_rising (b :: r)
    refine ⟨(a, b) :: bs, ?_, ?_⟩
    · show D.tup [.str a, .str b] :: zipD ((b :: r).map D.str) (r.map D.str) = _
      rw [show zipD ((b :: r).map D.str) (r.map D.str) = _ from e1]; rfl
    · rw [List.map_cons, List.all_cons, e2]; rfl
theorem padL_len {n w : Int} (h : Num n) (hw : w ≤ 1000) : (padL n w).length ≤ 1100 := by
  unfold padL
  have := istr_len h.1 (by decide) h.2
  simp only [List.length_append, List.length_flatten, List.map_replicate, List.length_singleton, List.sum_replicate_nat]
  omega
theorem eqvs_bool (a b : Bool) : (!D.eqv (.bl a) (.bl b)) = true ↔ a ≠ b := by rw [eqv_bl]; simp

/-! ### the plain law -/
theorem rising_iff : ∀ ls : List (List Nat), risingL ls = true ↔ ls.Pairwise (· < ·)
  | [] => by simp [risingL]
  | [a] => by simp [risingL]
  | a :: b :: r => by
    have ih := rising_iff (b :: r)
    show (decide (a < b) && risingL (b :: r)) = true ↔ _
    rw [Bool.and_eq_true, decide_eq_true_eq, ih, List.pairwise_cons (l := b :: r)]
    constructor
    · rintro ⟨h1, h2⟩
      refine ⟨fun z hz => ?_, h2⟩
      rcases List.mem_cons.mp hz with rfl | hz
      · exact h1
      · exact List.lt_trans h1 ((List.pairwise_cons.mp h2).1 z hz)
    · rintro ⟨h1, h2⟩
      exact ⟨h1 b (List.mem_cons_self ..), h2⟩
theorem pw_strict {ls : List (List Nat)} (hn : ls.Nodup) : ls.Pairwise (· < ·) ↔ ls.Pairwise (· ≤ ·) :=
  ⟨fun h => h.imp fun h => List.le_of_lt h, fun h => by
    have := List.Pairwise.and h hn
    exact this.imp fun {a b} ⟨h1, h2⟩ => by
      rcases slt_tri a b with h | h | h
      · exact h
      · exact absurd h h2
      · exact absurd h (List.not_lt.mpr h1)⟩
theorem rising_sort {ls : List (List Nat)} (hn : ls.Nodup) : risingL ls = decide (ls = ssort ls) := by
  rw [Bool.eq_iff_iff, rising_iff, pw_strict hn, decide_eq_true_eq, ssort_iff]
theorem pad_eq (n w : Int) : padL n w = List.replicate (w - (istr n).length).toNat 48 ++ istr n := by
  unfold padL
  congr 1
  generalize (w - (istr n).length).toNat = k
  induction k with
  | zero => rfl
  | succ k ih => rw [List.replicate_succ, List.flatten_cons, ih]; rfl
theorem val_zeros (k : Nat) (l : List Nat) : NumText.digitsVal (List.replicate k 48 ++ l) = NumText.digitsVal l := by
  induction k with
  | zero => rfl
  | succ k ih => rw [List.replicate_succ, List.cons_append, NumText.digitsVal_zero, ih]
theorem pad_val {n : Int} (h : 0 ≤ n) (w : Int) : (NumText.digitsVal (padL n w) : Int) = n := by rw [pad_eq, val_zeros, istr_val h]
theorem pad_digits {n : Int} (h : 0 ≤ n) (w : Int) : NumText.AllDigits (padL n w) := by
  rw [pad_eq]
  intro c hc
  rcases List.mem_append.mp hc with hc | hc
  · rw [(List.mem_replicate.mp hc).2]; decide
  · exact istr_digits h c hc
theorem pad_inj {m n w : Int} (h : 0 ≤ m) (h2 : 0 ≤ n) (e : padL m w = padL n w) : m = n := by rw [← pad_val h w, ← pad_val h2 w, e]
theorem pad_full {n w : Int} (h : ((istr n).length : Int) ≤ w) : (padL n w).length = w.toNat := by
  rw [pad_eq, List.length_append, List.length_replicate]; omega
theorem fold_lt : ∀ (a b : List Nat) (x y : Nat), NumText.AllDigits a → NumText.AllDigits b → a.length = b.length → x < y → a.foldl (fun acc c => acc * 10 + (c - 48)) x < b.foldl (fun acc c => acc * 10 + (c - 48)) y
  | [], [], _, _, _, _, _, h => h
  | [], _ :: _, _, _, _, _, e, _ => by simp at e
  | _ :: _, [], _, _, _, _, e, _ => by simp at e
  | c :: a, d :: b, x, y, h1, h2, e, h => by
    have hc := h1.head
    have hd := h2.head
    exact fold_lt a b _ _ h1.tail h2.tail (by simpa using e) (by show x * 10 + (c - 48) < y * 10 + (d - 48); omega)
theorem lex_val : ∀ (a b : List Nat) (x : Nat), NumText.AllDigits a → NumText.AllDigits b → a.length = b.length → a < b → a.foldl (fun acc c => acc * 10 + (c - 48)) x < b.foldl (fun acc c => acc * 10 + (c - 48)) x
  | [], [], _, _, _, _, h => absurd h (List.lt_irrefl _)
  | [], _ :: _, _, _, _, e, _ => by simp at e
  | _ :: _, [], _, _, _, e, _ => by simp at e
  | c :: a, d :: b, x, h1, h2, e, h => by
    have hc := h1.head
    have hd := h2.head
    rcases List.cons_lt_cons_iff.mp h with h' | ⟨e', h'⟩
    · exact fold_lt a b _ _ h1.tail h2.tail (by simpa using e) (by show x * 10 + (c - 48) < x * 10 + (d - 48); omega)
    · subst e'
      exact lex_val a b _ h1.tail h2.tail (by simpa using e) h'
theorem pad_lt {m n w : Int} (h : 0 ≤ m) (h2 : 0 ≤ n) (hm : ((istr m).length : Int) ≤ w) (hn : ((istr n).length : Int) ≤ w) : padL m w < padL n w ↔ m < n := by
  have key : ∀ {m n : Int}, 0 ≤ m → 0 ≤ n → ((istr m).length : Int) ≤ w → ((istr n).length : Int) ≤ w → padL m w < padL n w → m < n := fun {m n} h h2 hm hn hl => by
    have := lex_val _ _ 0 (pad_digits h w) (pad_digits h2 w) (by rw [pad_full hm, pad_full hn]) hl
    have e1 := pad_val h w
    have e2 := pad_val h2 w
    unfold NumText.digitsVal at e1 e2
    omega
  refine ⟨key h h2 hm hn, fun hl => ?_⟩
  rcases slt_tri (padL m w) (padL n w) with h' | h' | h'
  · exact h'
  · have := pad_inj h h2 h'; omega
  · have := key h2 h hn hm h'; omega
structure Good (zs : List Int) : Prop where
  ne : zs ≠ []
  nd : zs.Nodup
  num : ∀ n ∈ zs, 0 < n ∧ n ≤ 99999999
theorem Good.Num {zs : List Int} (g : Good zs) : ∀ n ∈ zs, Num n := fun n hn => by
  have := g.num n hn
  exact ⟨by omega, by have : (99999999 : Int) < 10 ^ 18 := by decide
                      omega⟩
def dueL (zs : List Int) : List Int := (rngI 1 8).filter fun w => decide ((zs.map fun n => padL n w) = ssort (zs.map fun n => padL n w))
theorem pads_nodup {zs : List Int} (g : Good zs) (w : Int) : (zs.map fun n => padL n w).Nodup := by
  rw [List.Nodup, List.pairwise_map]
  exact (List.Pairwise.and_mem.mp g.nd).imp fun {a b} ⟨ha, hb, h⟩ e => h (pad_inj (by have := g.num a ha; omega) (by have := g.num b hb; omega) e)
theorem pw_due {zs : List Int} (g : Good zs) : pwL zs = dueL zs := List.filter_congr fun w _ => rising_sort (pads_nodup g w)
theorem due_high {zs : List Int} (g : Good zs) {w : Int} (h1 : 1 ≤ w) (h8 : w ≤ 8) (hw : ∀ n ∈ zs, ((istr n).length : Int) ≤ w) : decide (w ∈ dueL zs) = decide (zs = isort zs) := by
  rw [Bool.eq_iff_iff, decide_eq_true_eq, decide_eq_true_eq, ← pw_due g, pwL, List.mem_filter, rising_iff, isort_iff, List.pairwise_map]
  have hp : ∀ n ∈ zs, 0 ≤ n := fun n hn => by have := g.num n hn; omega
  constructor
  · rintro ⟨-, h⟩
    exact (List.Pairwise.and_mem.mp h).imp fun {a b} ⟨ha, hb, h⟩ => by
      have := (pad_lt (hp a ha) (hp b hb) (hw a ha) (hw b hb)).mp h
      omega
  · intro h
    refine ⟨mem_rngI.mpr ⟨h1, by omega⟩, ?_⟩
    exact (List.Pairwise.and_mem.mp (List.Pairwise.and h g.nd)).imp fun {a b} ⟨ha, hb, h, hne⟩ => (pad_lt (hp a ha) (hp b hb) (hw a ha) (hw b hb)).mpr (by omega)
theorem Good.perm {zs ys : List Int} (g : Good zs) (p : ys.Perm zs) : Good ys := ⟨fun e => g.ne (by subst e; exact List.nil_perm.mp p), p.nodup_iff.mpr g.nd, fun n hn => g.num n (p.mem_iff.mp hn)⟩
theorem Good.take2 {zs : List Int} (g : Good zs) : Good (zs.take 2) := ⟨fun e => by
  cases zs with
  | nil => exact g.ne rfl
  | cons a r => simp at e, g.nd.sublist (List.take_sublist _ _), fun n hn => g.num n (List.mem_of_mem_take hn)⟩
theorem back_map {zs : List Int} (g : Good zs) : ∃ ys : List Int, ssort (zs.map istr) = ys.map istr ∧ Good ys ∧ ys.length = zs.length := by
  have p := ssort_perm (zs.map istr)
  have : ∀ ls : List (List Nat), (∀ l ∈ ls, ∃ n ∈ zs, l = istr n) → ∃ ys : List Int, ls = ys.map istr ∧ ∀ n ∈ ys, n ∈ zs := by
    intro ls
    induction ls with
    | nil => exact fun _ => ⟨[], rfl, by simp⟩
    | cons l r ih =>
      intro h
      obtain ⟨n, hn, rfl⟩ := h l (List.mem_cons_self ..)
      obtain ⟨ys, rfl, hy⟩ := ih fun z hz => h z (List.mem_cons_of_mem _ hz)
      exact ⟨n :: ys, rfl, fun z hz => by
        rcases List.mem_cons.mp hz with rfl | hz
        · exact hn
        · exact hy z hz⟩
  obtain ⟨ys, e, hy⟩ := this (ssort (zs.map istr)) fun l hl => by
    obtain ⟨n, hn, rfl⟩ := List.mem_map.mp (p.mem_iff.mp hl)
    exact ⟨n, hn, rfl⟩
  have hlen : ys.length = zs.length := by
    have := p.length_eq
    rw [e, List.length_map, List.length_map] at this
    exact this
  refine ⟨ys, e, ⟨fun z => ?_, ?_, fun n hn => g.num n (hy n hn)⟩, hlen⟩
  · subst z
    exact g.ne (List.length_eq_zero_iff.mp hlen.symm)
  · have hnd : (zs.map istr).Nodup := by
      rw [List.Nodup, List.pairwise_map]
      exact (List.Pairwise.and_mem.mp g.nd).imp fun {a b} ⟨ha, hb, h⟩ e => h (istr_inj (by have := g.num a ha; omega) (by have := g.num b hb; omega) e)
    have h2 := p.nodup_iff.mpr hnd
    rw [e, List.Nodup, List.pairwise_map] at h2
    exact h2.imp fun h e => h (by rw [e])
theorem enum_at {f : Int → D} : ∀ {xs : List Int} {k i : Nat} {d : D}, (enumD k (xs.map f))[i]? = some d → ∃ x, xs[i]? = some x ∧ d = .tup [.int ((k + i : Nat) : Int), f x]
  | [], _, _, _, h => by simp [enumD] at h
  | x :: xs, k, 0, d, h => ⟨x, rfl, by simpa [enumD] using h.symm⟩
  | x :: xs, k, i + 1, d, h => by
    obtain ⟨y, h1, h2⟩ := enum_at (xs := xs) (k := k + 1) (i := i) (by simpa [enumD] using h)
    exact ⟨y, by simpa using h1, by rw [h2]; congr 3; omega⟩
theorem flat_rep (b : Bool) (k : Nat) : (List.replicate k [D.bl b]).flatten = (List.replicate k b).map D.bl := by
  induction k with
  | zero => rfl
  | succ k ih => rw [List.replicate_succ, List.flatten_cons, ih]; rfl

/-! ### digits -/
def nd : Nat → Nat
  | 0 => 0
  | n + 1 => (TL.numL (n + 1)).length
theorem nd_pos {k : Nat} (h : 0 < k) : nd k = (TL.numL k).length := by cases k with | zero => omega | succ k => rfl
theorem nd_lt {k : Nat} (h : k < 10) (h0 : 0 < k) : nd k = 1 := by rw [nd_pos h0, TL.numL_lt h]; rfl
theorem nd_step {k : Nat} (h : 10 ≤ k) : nd k = nd (k / 10) + 1 := by
  rw [nd_pos (by omega), nd_pos (by omega), TL.numL_step h, List.length_append]; rfl
theorem nd_div (k : Nat) (h : 0 < k) : nd k = nd (k / 10) + 1 := by
  by_cases h1 : k < 10
  · rw [nd_lt h1 h, Nat.div_eq_of_lt h1]; rfl
  · exact nd_step (by omega)
theorem nd_bd : ∀ k : Nat, 0 < k → 10 ^ (nd k - 1) ≤ k ∧ k < 10 ^ nd k ∧ 1 ≤ nd k := by
  intro k
  induction k using Nat.strongRecOn with
  | _ k ih =>
    intro h0
    by_cases h : k < 10
    · rw [nd_lt h h0]; exact ⟨by omega, by omega, by omega⟩
    · obtain ⟨h1, h2, h3⟩ := ih (k / 10) (by omega) (by omega)
      rw [nd_step (by omega)]
      obtain ⟨m, hm⟩ : ∃ m, nd (k / 10) = m + 1 := ⟨nd (k / 10) - 1, by omega⟩
      rw [hm] at h1 h2 ⊢
      simp only [Nat.add_sub_cancel] at h1 ⊢
      have e1 : 10 ^ (m + 1) = 10 ^ m * 10 := Nat.pow_succ ..
      have e2 : 10 ^ (m + 1 + 1) = 10 ^ (m + 1) * 10 := Nat.pow_succ ..
      omega
theorem pow_mono {a b : Nat} (h : a ≤ b) : 10 ^ a ≤ 10 ^ b := Nat.pow_le_pow_right (by decide) h
theorem pow_lt {a b : Nat} (h : 10 ^ a < 10 ^ b) : a < b := by
  by_cases h' : a < b
  · exact h'
  · have := pow_mono (by omega : b ≤ a); omega
theorem pow_pos (a : Nat) : 0 < 10 ^ a := Nat.pow_pos (by decide)
theorem nd_of {k d : Nat} (h1 : 10 ^ d ≤ k) (h2 : k < 10 ^ (d + 1)) : nd k = d + 1 := by
  have hp := pow_pos d
  obtain ⟨a, b, c⟩ := nd_bd k (by omega)
  have x := pow_lt (Nat.lt_of_le_of_lt h1 b)
  have y := pow_lt (Nat.lt_of_le_of_lt a h2)
  omega
theorem nd_le {k n : Nat} (h0 : 0 < k) (h : k ≤ n) : nd k ≤ nd n := by
  obtain ⟨a, b, c⟩ := nd_bd k h0
  obtain ⟨a', b', c'⟩ := nd_bd n (by omega)
  have x := pow_lt (Nat.lt_of_le_of_lt (Nat.le_trans a h) b')
  omega
theorem nd_mul {k : Nat} (h : 0 < k) : nd (k * 10) = nd k + 1 := by
  rw [nd_div (k * 10) (by omega), Nat.mul_div_cancel _ (by decide)]
/-! ### sums -/
def sm (g : Nat → Int) : Nat → Int
  | 0 => 0
  | m + 1 => sm g m + g m
theorem sm_congr {g h : Nat → Int} : ∀ {m : Nat}, (∀ i, i < m → g i = h i) → sm g m = sm h m
  | 0, _ => rfl
  | m + 1, e => by rw [sm, sm, sm_congr fun i hi => e i (by omega), e m (by omega)]
theorem sm_add {g h : Nat → Int} : ∀ m : Nat, sm (fun i => g i + h i) m = sm g m + sm h m
  | 0 => rfl
  | m + 1 => by rw [sm, sm, sm, sm_add m]; omega
theorem sm_sub {g h : Nat → Int} : ∀ m : Nat, sm (fun i => g i - h i) m = sm g m - sm h m
  | 0 => rfl
  | m + 1 => by rw [sm, sm, sm, sm_sub m]; omega
theorem sm_le {g h : Nat → Int} : ∀ {m : Nat}, (∀ i, i < m → g i ≤ h i) → sm g m ≤ sm h m
  | 0, _ => Int.le_refl _
  | m + 1, e => by
    have h1 := sm_le (m := m) fun i hi => e i (by omega)
    have h2 := e m (by omega)
    rw [sm, sm]; omega
theorem sm_zero : ∀ m : Nat, sm (fun _ => 0) m = 0
  | 0 => rfl
  | m + 1 => by rw [sm, sm_zero m]; rfl
/-- pointwise below and of one sum: pointwise one -/
theorem sm_eq_of_le {g h : Nat → Int} : ∀ {m : Nat}, (∀ i, i < m → g i ≤ h i) → sm h m ≤ sm g m → ∀ i, i < m → g i = h i
  | 0, _, _, i, hi => by omega
  | m + 1, e, q, i, hi => by
    have h1 := sm_le (m := m) fun i hi => e i (by omega)
    have h2 := e m (by omega)
    rw [sm, sm] at q
    by_cases him : i = m
    · subst him; omega
    · exact sm_eq_of_le (m := m) (fun i hi => e i (by omega)) (by omega) i (by omega)
/-- one place differs by one -/
theorem sm_one {g h : Nat → Int} {m j : Nat} (hj : j < m) (e : ∀ i, i < m → i ≠ j → g i = h i) (ej : g j = h j + 1) : sm g m = sm h m + 1 := by
  have : sm g m = sm (fun i => h i + if i = j then 1 else 0) m := sm_congr fun i hi => by
    by_cases hij : i = j
    · subst hij; simp [ej]
    · simp [hij, e i hi hij]
  rw [this, sm_add]
  have k : ∀ m, j < m → sm (fun i => if i = j then (1 : Int) else 0) m = 1 := by
    intro m
    induction m with
    | zero => intro h; omega
    | succ m ih =>
      intro hm
      rw [sm]
      by_cases hjm : j = m
      · subst hjm
        rw [sm_congr (h := fun _ => 0) fun i hi => by simp; omega, sm_zero]; simp
      · rw [ih (by omega), if_neg (by omega)]; rfl
  rw [k m hj]
/-! ### places -/
/-- of the L-figured numbers those below fK k L stand ahead of k; those below uK k L ahead of what follows k's own -/
def fK (k L : Nat) : Nat := if L < nd k then k / 10 ^ (nd k - L) + 1 else k * 10 ^ (L - nd k)
def uK (k L : Nat) : Nat := if L < nd k then k / 10 ^ (nd k - L) + 1 else (k + 1) * 10 ^ (L - nd k)
def tK (n : Nat) (g : Nat → Nat) : Int := sm (fun i => ((min (g (i + 1)) (n + 1) : Nat) : Int) - ((10 ^ i : Nat) : Int)) (nd n)
def rk (n k : Nat) : Int := tK n (fK k)
theorem tK_congr {n : Nat} {g h : Nat → Nat} (e : ∀ L, 1 ≤ L → L ≤ nd n → min (g L) (n + 1) = min (h L) (n + 1)) : tK n g = tK n h := sm_congr fun i hi => by rw [e (i + 1) (by omega) (by omega)]
theorem tK_le {n : Nat} {g h : Nat → Nat} (e : ∀ L, 1 ≤ L → L ≤ nd n → min (g L) (n + 1) ≤ min (h L) (n + 1)) : tK n g ≤ tK n h := sm_le fun i hi => by
  have := e (i + 1) (by omega) (by omega)
  omega
theorem div_pow_succ (k a : Nat) : k / 10 ^ (a + 1) = k / 10 / 10 ^ a := by rw [Nat.pow_succ, Nat.mul_comm, Nat.div_div_eq_div_mul]
theorem rk_ten {n k : Nat} (h0 : 0 < k) (h : k ≤ n) : rk n (k * 10) = rk n k + 1 := by
  have hd := nd_le h0 h
  have h1 := (nd_bd k h0).2.2
  refine sm_one (j := nd k - 1) (by omega) (fun i hi hij => ?_) ?_
  · have : fK (k * 10) (i + 1) = fK k (i + 1) := by
      unfold fK
      rw [nd_mul h0]
      by_cases hl : i + 1 < nd k
      · rw [if_pos (by omega), if_pos hl]
        rw [show nd k + 1 - (i + 1) = (nd k - (i + 1)) + 1 by omega, div_pow_succ, Nat.mul_div_cancel _ (by decide)]
      · rw [if_neg (by omega), if_neg hl, show i + 1 - nd k = (i + 1 - (nd k + 1)) + 1 by omega, Nat.pow_succ]
        rw [Nat.mul_assoc, Nat.mul_comm 10]
    rw [this]
  · have e1 : fK (k * 10) (nd k - 1 + 1) = k + 1 := by
      unfold fK
      rw [nd_mul h0, Nat.sub_add_cancel h1, if_pos (by omega), show nd k + 1 - nd k = 1 by omega, Nat.pow_one, Nat.mul_div_cancel _ (by decide)]
    have e2 : fK k (nd k - 1 + 1) = k := by
      unfold fK
      rw [Nat.sub_add_cancel h1, if_neg (by omega), Nat.sub_self, Nat.pow_zero, Nat.mul_one]
    rw [e1, e2]; omega
theorem nd_succ {k : Nat} (h0 : 0 < k) (h : k % 10 ≠ 9) : nd (k + 1) = nd k := by
  rw [nd_div (k + 1) (by omega), nd_div k h0, show (k + 1) / 10 = k / 10 by omega]
theorem rk_succ {n k : Nat} (h0 : 0 < k) (h : k % 10 ≠ 9) : rk n (k + 1) = tK n (uK k) := tK_congr fun L h1 h2 => by
  unfold fK uK
  rw [nd_succ h0 h]
  by_cases hl : L < nd k
  · rw [if_pos hl, if_pos hl, show nd k - L = (nd k - L - 1) + 1 by omega, div_pow_succ, div_pow_succ, show (k + 1) / 10 = k / 10 by omega]
  · rw [if_neg hl, if_neg hl]
/-- the last of its row: what follows k's own follows its parent's own -/
theorem uK_up {n k : Nat} (h0 : 0 < k) (h : k % 10 = 9 ∨ k = n) : tK n (uK k) = tK n (uK (k / 10)) := tK_congr fun L h1 h2 => by
  unfold uK
  have hd := nd_div k h0
  by_cases hl : L < nd k
  · rw [if_pos hl]
    by_cases hl2 : L < nd (k / 10)
    · rw [if_pos hl2, show nd k - L = (nd (k / 10) - L) + 1 by omega, div_pow_succ]
    · rw [if_neg hl2, show nd k - L = 1 by omega, show L - nd (k / 10) = 0 by omega]; simp
  · rw [if_neg hl, if_neg (by omega), show L - nd (k / 10) = (L - nd k) + 1 by omega, Nat.pow_succ]
    have hp := pow_pos (L - nd k)
    generalize 10 ^ (L - nd k) = P at hp ⊢
    rcases h with h | h
    · rw [show (k / 10 + 1) * (P * 10) = ((k / 10 + 1) * 10) * P by rw [Nat.mul_assoc, Nat.mul_comm P]]
      rw [show (k / 10 + 1) * 10 = k + 1 by omega]
    · have a : k + 1 ≤ (k + 1) * P := Nat.le_mul_of_pos_right _ hp
      have b : (k / 10 + 1) * 10 ≤ (k / 10 + 1) * (P * 10) := by
        rw [Nat.mul_comm P, ← Nat.mul_assoc]
        exact Nat.le_mul_of_pos_right _ hp
      omega
theorem uK_zero (n : Nat) (h : 0 < n) : tK n (uK 0) = n := by
  have key : ∀ m, 10 ^ m ≤ n + 1 → sm (fun i => ((min (uK 0 (i + 1)) (n + 1) : Nat) : Int) - ((10 ^ i : Nat) : Int)) m = ((10 ^ m : Nat) : Int) - 1 := by
    intro m
    induction m with
    | zero => intro _; rfl
    | succ m ih =>
      intro hm
      have h1 : 10 ^ m ≤ 10 ^ (m + 1) := pow_mono (by omega)
      rw [sm, ih (by omega)]
      have e : uK 0 (m + 1) = 10 ^ (m + 1) := by
        unfold uK
        rw [if_neg (by simp [nd])]
        simp [nd]
      rw [e, Nat.min_eq_left hm]
      omega
  obtain ⟨a, b, c⟩ := nd_bd n h
  obtain ⟨m, hm⟩ : ∃ m, nd n = m + 1 := ⟨nd n - 1, by omega⟩
  unfold tK
  rw [hm] at a b ⊢
  simp only [Nat.add_sub_cancel] at a
  rw [sm, key m (by omega)]
  have e : uK 0 (m + 1) = 10 ^ (m + 1) := by
    unfold uK
    rw [if_neg (by simp [nd])]
    simp [nd]
  rw [e]
  omega
theorem fK_low {k L : Nat} (h0 : 0 < k) (h1 : 1 ≤ L) : 10 ^ (L - 1) ≤ fK k L := by
  obtain ⟨a, b, c⟩ := nd_bd k h0
  unfold fK
  by_cases hl : L < nd k
  · rw [if_pos hl]
    have : 10 ^ (L - 1) ≤ k / 10 ^ (nd k - L) := by
      rw [Nat.le_div_iff_mul_le (pow_pos _), ← Nat.pow_add, show L - 1 + (nd k - L) = nd k - 1 by omega]
      exact a
    omega
  · rw [if_neg hl]
    calc 10 ^ (L - 1) = 10 ^ (nd k - 1) * 10 ^ (L - nd k) := by rw [← Nat.pow_add]; congr 1; omega
      _ ≤ k * 10 ^ (L - nd k) := Nat.mul_le_mul_right _ a
theorem uK_high {k L : Nat} (h0 : 0 < k) : uK k L ≤ 10 ^ L := by
  obtain ⟨a, b, c⟩ := nd_bd k h0
  unfold uK
  by_cases hl : L < nd k
  · rw [if_pos hl]
    have : k / 10 ^ (nd k - L) < 10 ^ L := by
      rw [Nat.div_lt_iff_lt_mul (pow_pos _), ← Nat.pow_add, show L + (nd k - L) = nd k by omega]
      exact b
    omega
  · rw [if_neg hl]
    calc (k + 1) * 10 ^ (L - nd k) ≤ 10 ^ nd k * 10 ^ (L - nd k) := Nat.mul_le_mul_right _ b
      _ = 10 ^ L := by rw [← Nat.pow_add]; congr 1; omega
theorem rk_nonneg {n k : Nat} (h0 : 0 < k) (hn : 0 < n) : 0 ≤ rk n k := by
  have z := sm_zero (nd n)
  rw [← z]
  refine sm_le fun i hi => ?_
  have a := fK_low (L := i + 1) h0 (by omega)
  simp only [Nat.add_sub_cancel] at a
  have b := (nd_bd n hn).1
  have c : 10 ^ i ≤ 10 ^ (nd n - 1) := pow_mono (by omega)
  omega
theorem tK_uK_le {n k : Nat} (h0 : 0 < k) (hn : 0 < n) : tK n (uK k) ≤ n := by
  rw [← uK_zero n hn]
  refine tK_le fun L h1 h2 => ?_
  have a := uK_high (L := L) h0
  have e : uK 0 L = 10 ^ L := by
    unfold uK
    rw [if_neg (by simp [nd])]
    simp [nd]
  omega
theorem fK_one (n : Nat) (hn : 0 < n) : rk n 1 = 0 := by
  unfold rk tK
  rw [sm_congr (h := fun _ => 0), sm_zero]
  intro i hi
  have b := (nd_bd n hn).1
  have c : 10 ^ i ≤ 10 ^ (nd n - 1) := pow_mono (by omega)
  have e : fK 1 (i + 1) = 10 ^ i := by
    unfold fK
    rw [show nd 1 = 1 from nd_lt (by omega) (by omega), if_neg (by omega)]
    simp
  rw [e]
  omega
/-- how many begin with k -/
def cK (n k : Nat) : Int := sm (fun i => ((min ((k + 1) * 10 ^ i) (n + 1) : Nat) : Int) - ((min (k * 10 ^ i) (n + 1) : Nat) : Int)) (nd n + 1 - nd k)
theorem sm_shift (g : Nat → Int) (a : Nat) : ∀ m, sm g (a + m) = sm g a + sm (fun i => g (a + i)) m
  | 0 => by simp [sm]
  | m + 1 => by rw [← Nat.add_assoc, sm, sm_shift g a m, sm]; omega
theorem uK_count {n k : Nat} (h0 : 0 < k) (h : k ≤ n) : tK n (uK k) = rk n k + cK n k := by
  have hd := nd_le h0 h
  have h1 := (nd_bd k h0).2.2
  have e : tK n (uK k) - rk n k = cK n k := by
    unfold rk tK
    rw [← sm_sub]
    rw [show nd n = (nd k - 1) + (nd n + 1 - nd k) by omega, sm_shift]
    rw [sm_congr (h := fun _ => 0), sm_zero]
    · unfold cK
      rw [Int.zero_add]
      refine sm_congr fun i hi => ?_
      have e1 : uK k (nd k - 1 + i + 1) = (k + 1) * 10 ^ i := by
        unfold uK
        rw [if_neg (by omega), show nd k - 1 + i + 1 - nd k = i by omega]
      have e2 : fK k (nd k - 1 + i + 1) = k * 10 ^ i := by
        unfold fK
        rw [if_neg (by omega), show nd k - 1 + i + 1 - nd k = i by omega]
      rw [e1, e2]
      omega
    · intro i hi
      unfold uK fK
      rw [if_pos (by omega), if_pos (by omega)]
      omega
  omega
theorem cK_pos {n k : Nat} (h0 : 0 < k) (h : k ≤ n) : 1 ≤ cK n k := by
  have hd := nd_le h0 h
  unfold cK
  obtain ⟨m, hm⟩ : ∃ m, nd n + 1 - nd k = 1 + m := ⟨nd n - nd k, by omega⟩
  rw [hm, sm_shift]
  have z := sm_zero m
  have a : sm (fun _ => 0) m ≤ sm (fun i => ((min ((k + 1) * 10 ^ (1 + i)) (n + 1) : Nat) : Int) - ((min (k * 10 ^ (1 + i)) (n + 1) : Nat) : Int)) m := sm_le fun i hi => by
    have : k * 10 ^ (1 + i) ≤ (k + 1) * 10 ^ (1 + i) := Nat.mul_le_mul_right _ (by omega)
    omega
  rw [z] at a
  simp only [sm, Nat.pow_zero, Nat.mul_one]
  omega
theorem cK_one {n k : Nat} (h0 : 0 < k) (h : k ≤ n) (h2 : n < k * 10) : cK n k = 1 := by
  have hd := nd_le h0 h
  unfold cK
  obtain ⟨m, hm⟩ : ∃ m, nd n + 1 - nd k = 1 + m := ⟨nd n - nd k, by omega⟩
  rw [hm, sm_shift, sm_congr (g := fun i => _) (h := fun _ => 0) (m := m), sm_zero]
  · simp only [sm, Nat.pow_zero, Nat.mul_one]
    omega
  · intro i hi
    have hp := pow_pos i
    have e : k * 10 ≤ k * 10 ^ (1 + i) := by
      rw [Nat.add_comm, Nat.pow_succ, Nat.mul_comm (10 ^ i), ← Nat.mul_assoc]
      exact Nat.le_mul_of_pos_right _ hp
    have : k * 10 ^ (1 + i) ≤ (k + 1) * 10 ^ (1 + i) := Nat.mul_le_mul_right _ (by omega)
    omega
theorem rk_lt {n k : Nat} (h0 : 0 < k) (h : k ≤ n) : rk n k < n := by
  have a := uK_count h0 h
  have b := cK_pos h0 h
  have c := tK_uK_le (n := n) h0 (by omega)
  omega
/-- one of two never stands behind the other -/
theorem fK_tot {k j : Nat} (hk : 0 < k) (hj : 0 < j) (hd : nd k ≤ nd j) : (k * 10 ^ (nd j - nd k) ≤ j → ∀ L, fK k L ≤ fK j L) ∧ (j < k * 10 ^ (nd j - nd k) → ∀ L, fK j L ≤ fK k L) := by
  constructor
  · intro h L
    unfold fK
    by_cases h1 : L < nd k
    · rw [if_pos h1, if_pos (by omega)]
      have : k / 10 ^ (nd k - L) ≤ j / 10 ^ (nd j - L) := by
        rw [Nat.le_div_iff_mul_le (pow_pos _), show nd j - L = (nd k - L) + (nd j - nd k) by omega, Nat.pow_add, ← Nat.mul_assoc]
        exact Nat.le_trans (Nat.mul_le_mul_right _ (Nat.div_mul_le_self _ _)) h
      omega
    · rw [if_neg h1]
      by_cases h2 : L < nd j
      · rw [if_pos h2]
        have : k * 10 ^ (L - nd k) ≤ j / 10 ^ (nd j - L) := by
          rw [Nat.le_div_iff_mul_le (pow_pos _), Nat.mul_assoc, ← Nat.pow_add, show L - nd k + (nd j - L) = nd j - nd k by omega]
          exact h
        omega
      · rw [if_neg h2, show L - nd k = (nd j - nd k) + (L - nd j) by omega, Nat.pow_add, ← Nat.mul_assoc]
        exact Nat.mul_le_mul_right _ h
  · intro h L
    unfold fK
    by_cases h1 : L < nd k
    · rw [if_pos h1, if_pos (by omega)]
      have : j / 10 ^ (nd j - L) ≤ k / 10 ^ (nd k - L) := by
        rw [Nat.le_div_iff_mul_le (pow_pos _)]
        have a : j / 10 ^ (nd j - L) * 10 ^ (nd k - L) * 10 ^ (nd j - nd k) ≤ j := by
          rw [Nat.mul_assoc, ← Nat.pow_add, show nd k - L + (nd j - nd k) = nd j - L by omega]
          exact Nat.div_mul_le_self _ _
        exact Nat.le_of_lt (Nat.lt_of_mul_lt_mul_right (Nat.lt_of_le_of_lt a h))
      omega
    · rw [if_neg h1]
      by_cases h2 : L < nd j
      · rw [if_pos h2]
        have : j / 10 ^ (nd j - L) < k * 10 ^ (L - nd k) := by
          rw [Nat.div_lt_iff_lt_mul (pow_pos _), Nat.mul_assoc, ← Nat.pow_add, show L - nd k + (nd j - L) = nd j - nd k by omega]
          exact h
        omega
      · rw [if_neg h2, show L - nd k = (nd j - nd k) + (L - nd j) by omega, Nat.pow_add, ← Nat.mul_assoc]
        exact Nat.mul_le_mul_right _ (Nat.le_of_lt h)
theorem rk_mono {n k j : Nat} (h : ∀ L, fK k L ≤ fK j L) : rk n k ≤ rk n j := tK_le fun L _ _ => by have := h L; omega
theorem rk_inj_le {n k j : Nat} (hk : 0 < k) (hj : 0 < j) (hkn : k ≤ n) (hjn : j ≤ n) (h : ∀ L, fK k L ≤ fK j L) (e : rk n j ≤ rk n k) : k = j := by
  have p := sm_eq_of_le (m := nd n) (g := fun i => ((min (fK k (i + 1)) (n + 1) : Nat) : Int) - ((10 ^ i : Nat) : Int)) (h := fun i => ((min (fK j (i + 1)) (n + 1) : Nat) : Int) - ((10 ^ i : Nat) : Int)) (fun i hi => by have := h (i + 1); omega) e
  have p' : ∀ L, 1 ≤ L → L ≤ nd n → min (fK k L) (n + 1) = min (fK j L) (n + 1) := fun L h1 h2 => by
    have := p (L - 1) (by omega)
    rw [show L - 1 + 1 = L by omega] at this
    omega
  have dk := (nd_bd k hk).2.2
  have dj := (nd_bd j hj).2.2
  have hkd := nd_le hk hkn
  have hjd := nd_le hj hjn
  have own : ∀ k, fK k (nd k) = k := fun k => by unfold fK; rw [if_neg (by omega), Nat.sub_self, Nat.pow_zero, Nat.mul_one]
  have a := p' (nd k) dk hkd
  have b := p' (nd j) dj hjd
  rw [own] at a b
  have a' : fK j (nd k) = k := by omega
  have b' : fK k (nd j) = j := by omega
  rcases Nat.lt_trichotomy (nd k) (nd j) with hl | hl | hl
  · unfold fK at a' b'
    rw [if_pos hl] at a'
    rw [if_neg (by omega)] at b'
    have q : j / 10 ^ (nd j - nd k) = k := Nat.div_eq_of_eq_mul_left (pow_pos _) b'.symm
    omega
  · rw [hl, own] at a'
    exact a'.symm
  · unfold fK at a' b'
    rw [if_pos hl] at b'
    rw [if_neg (by omega)] at a'
    have q : k / 10 ^ (nd k - nd j) = j := Nat.div_eq_of_eq_mul_left (pow_pos _) a'.symm
    omega
theorem rk_inj {n k j : Nat} (hk : 0 < k) (hj : 0 < j) (hkn : k ≤ n) (hjn : j ≤ n) (e : rk n k = rk n j) : k = j := by
  have key : ∀ {k j : Nat}, 0 < k → 0 < j → k ≤ n → j ≤ n → rk n k = rk n j → nd k ≤ nd j → k = j := fun {k j} hk hj hkn hjn e hd => by
    have t := fK_tot hk hj hd
    by_cases h : k * 10 ^ (nd j - nd k) ≤ j
    · exact rk_inj_le hk hj hkn hjn (t.1 h) (by omega)
    · exact (rk_inj_le hj hk hjn hkn (t.2 (by omega)) (by omega)).symm
  by_cases hd : nd k ≤ nd j
  · exact key hk hj hkn hjn e hd
  · exact (key hj hk hjn hkn e.symm (by omega)).symm

/-! ### places and the order of texts -/
theorem num_split : ∀ (e j : Nat), 0 < j / 10 ^ e → ∃ t, TL.numL j = TL.numL (j / 10 ^ e) ++ t ∧ t.length = e
  | 0, j, _ => ⟨[], by simp, rfl⟩
  | e + 1, j, h => by
    rw [div_pow_succ] at h ⊢
    have h10 : 10 ≤ j := by
      by_cases h' : 10 ≤ j
      · exact h'
      · rw [show j / 10 = 0 by omega, Nat.zero_div] at h; omega
    obtain ⟨t, e1, e2⟩ := num_split e (j / 10) h
    refine ⟨t ++ [48 + j % 10], ?_, by simp [e2]⟩
    rw [TL.numL_step h10, e1, List.append_assoc]
theorem lex_app : ∀ (a b x y : List Nat), a.length = b.length → a < b → a ++ x < b ++ y
  | [], [], _, _, _, h => absurd h (List.lt_irrefl _)
  | [], _ :: _, _, _, e, _ => by simp at e
  | _ :: _, [], _, _, e, _ => by simp at e
  | c :: a, d :: b, x, y, e, h => by
    rw [List.cons_append, List.cons_append, List.cons_lt_cons_iff]
    rcases List.cons_lt_cons_iff.mp h with h' | ⟨e', h'⟩
    · exact .inl h'
    · exact .inr ⟨e', lex_app a b x y (by simpa using e) h'⟩
theorem lex_pre : ∀ (a t : List Nat), t ≠ [] → a < a ++ t
  | [], [], h => absurd rfl h
  | [], c :: t, _ => by simp
  | c :: a, t, h => by
    rw [List.cons_append, List.cons_lt_cons_iff]
    exact .inr ⟨rfl, lex_pre a t h⟩
theorem num_lt {k j : Nat} (hd : (TL.numL k).length = (TL.numL j).length) (h : k < j) : TL.numL k < TL.numL j := by
  have v := fun {a b : Nat} (e : (TL.numL a).length = (TL.numL b).length) (l : TL.numL a < TL.numL b) => lex_val _ _ 0 (TL.numL_digits a) (TL.numL_digits b) e l
  have va := fun a => TL.numL_val a
  unfold NumText.digitsVal at va
  rcases slt_tri (TL.numL k) (TL.numL j) with h' | h' | h'
  · exact h'
  · have := TL.numL_inj h'; omega
  · have := v hd.symm h'
    rw [va, va] at this
    omega
theorem str_cmp {k j : Nat} (hk : 0 < k) (hj : 0 < j) (hd : nd k ≤ nd j) : (k * 10 ^ (nd j - nd k) ≤ j → k ≠ j → TL.numL k < TL.numL j) ∧ (j < k * 10 ^ (nd j - nd k) → TL.numL j < TL.numL k) := by
  obtain ⟨a, b, c⟩ := nd_bd j hj
  obtain ⟨a', b', c'⟩ := nd_bd k hk
  have hq : 0 < j / 10 ^ (nd j - nd k) := by
    rw [Nat.div_pos_iff]
    exact ⟨pow_pos _, Nat.le_trans (pow_mono (by omega)) a⟩
  obtain ⟨t, e1, e2⟩ := num_split _ j hq
  have hl : (TL.numL k).length = (TL.numL (j / 10 ^ (nd j - nd k))).length := by
    have h1 := congrArg List.length e1
    rw [List.length_append, e2, ← nd_pos hj, ← nd_pos hq] at h1
    rw [← nd_pos hk, ← nd_pos hq]
    omega
  constructor
  · intro h hne
    have h' : k ≤ j / 10 ^ (nd j - nd k) := (Nat.le_div_iff_mul_le (pow_pos _)).mpr h
    rw [e1]
    rcases Nat.lt_or_eq_of_le h' with h' | h'
    · have := lex_app _ _ [] t hl (num_lt hl h')
      rwa [List.append_nil] at this
    · rw [← h']
      refine lex_pre _ _ fun et => hne ?_
      rw [et] at e2
      rw [← e2, List.length_nil, Nat.pow_zero, Nat.div_one] at h'
      exact h'
  · intro h
    have h' : j / 10 ^ (nd j - nd k) < k := (Nat.div_lt_iff_lt_mul (pow_pos _)).mpr h
    rw [e1]
    have := lex_app _ _ t [] hl.symm (num_lt hl.symm h')
    rwa [List.append_nil] at this
theorem str_of_rk {n k j : Nat} (hk : 0 < k) (hj : 0 < j) (h : rk n k < rk n j) : TL.numL k < TL.numL j := by
  by_cases hd : nd k ≤ nd j
  · have t := fK_tot hk hj hd
    have s := str_cmp hk hj hd
    by_cases h' : k * 10 ^ (nd j - nd k) ≤ j
    · exact s.1 h' fun e => by subst e; omega
    · have := rk_mono (n := n) (t.2 (by omega)); omega
  · have t := fK_tot hj hk (by omega)
    have s := str_cmp hj hk (by omega)
    by_cases h' : j * 10 ^ (nd k - nd j) ≤ k
    · have := rk_mono (n := n) (t.1 h'); omega
    · exact s.2 (by omega)
theorem rk_of_str {n k j : Nat} (hk : 0 < k) (hj : 0 < j) (hkn : k ≤ n) (hjn : j ≤ n) (h : TL.numL k < TL.numL j) : rk n k < rk n j := by
  rcases Int.lt_trichotomy (rk n k) (rk n j) with h' | h' | h'
  · exact h'
  · have := rk_inj hk hj hkn hjn h'
    subst this
    exact absurd h (List.lt_irrefl _)
  · exact absurd (List.lt_trans h (str_of_rk hj hk h')) (List.lt_irrefl _)
theorem istr_cast (k : Nat) : istr (k : Int) = TL.numL k := istr_nat k
theorem istr_nd {k : Nat} (h : 0 < k) : (istr (k : Int)).length = nd k := by rw [istr_nat, nd_pos h]
theorem nd_small {k : Nat} (h0 : 0 < k) (h : k < 10 ^ 18) : nd k ≤ 18 := by
  have := (nd_bd k h0).1
  have := pow_lt (Nat.lt_of_le_of_lt this h)
  omega
theorem num_nat {k : Nat} (h : k < 10 ^ 18) : Num (k : Int) := by
  have e : ((10 ^ 18 : Nat) : Int) = 10 ^ 18 := by decide
  exact ⟨by omega, by omega⟩
/-- the running sum of count_from -/
def cT (n k i : Nat) : Int := ((min ((k + 1) * 10 ^ i) (n + 1) : Nat) : Int) - ((min (k * 10 ^ i) (n + 1) : Nat) : Int)
theorem cT_end {n k i : Nat} (h0 : 0 < k) (hk : k ≤ n) (hi : i ≤ nd n + 1 - nd k) (h : n < k * 10 ^ i) : sm (cT n k) i = cK n k := by
  obtain ⟨m, hm⟩ : ∃ m, nd n + 1 - nd k = i + m := ⟨nd n + 1 - nd k - i, by omega⟩
  show _ = sm (cT n k) (nd n + 1 - nd k)
  rw [hm, sm_shift, sm_congr (g := fun j => cT n k (i + j)) (h := fun _ => 0) (m := m), sm_zero, Int.add_zero]
  intro j hj
  have hp := pow_pos j
  have e : k * 10 ^ i ≤ k * 10 ^ (i + j) := Nat.mul_le_mul_left _ (pow_mono (by omega))
  have e2 : k * 10 ^ (i + j) ≤ (k + 1) * 10 ^ (i + j) := Nat.mul_le_mul_right _ (by omega)
  unfold cT
  omega
theorem cT_in {n k i : Nat} (h0 : 0 < k) (hk : k ≤ n) (h : k * 10 ^ i ≤ n) : i + 1 ≤ nd n + 1 - nd k := by
  have a := (nd_bd k h0).1
  have a3 := (nd_bd k h0).2.2
  have b := (nd_bd n (by omega)).2.1
  have c : 10 ^ (nd k - 1 + i) ≤ k * 10 ^ i := by rw [Nat.pow_add]; exact Nat.mul_le_mul_right _ a
  have := pow_lt (Nat.lt_of_le_of_lt (Nat.le_trans c h) b)
  omega
theorem flat48' (k : Nat) : (List.replicate k [48]).flatten = List.replicate k 48 := by
  induction k with
  | zero => rfl
  | succ k ih => rw [List.replicate_succ, List.flatten_cons, ih]; rfl
theorem one_zeros {k : Nat} (hk : k ≤ 100) : PySem.intText? (S ([49] ++ (List.replicate k [48]).flatten)) = some (((10 ^ k : Nat)) : Int) := by
  rw [flat48']
  have v : NumText.digitsVal ([49] ++ List.replicate k 48) = 10 ^ k := by
    clear hk
    induction k with
    | zero => rfl
    | succ k ih => rw [List.replicate_succ', ← List.append_assoc, NumText.digitsVal_snoc, ih, Nat.pow_succ]; rfl
  have := intText_digits (x := S ([49] ++ List.replicate k 48)) (by
    rw [list_S]
    intro c hc
    rcases List.mem_append.mp hc with h | h
    · rw [List.mem_singleton.mp h]; decide
    · rw [(List.mem_replicate.mp h).2]; decide) (by rw [list_S]; simp) (by rw [S_len]; simp; omega)
  rw [list_S, v] at this
  exact this
theorem small_pow {a : Nat} (h : a < 2 ^ 64) : a < 2 ^ 1000 := Nat.lt_of_lt_of_le h (Nat.pow_le_pow_right (by decide) (by decide))
theorem nb70 {x : Int} (h0 : 0 ≤ x) (h : x ≤ 4 * 10 ^ 18) : x.natAbs < 2 ^ 70 := by
  have e : (4 * 10 ^ 18 : Int) < 2 ^ 70 := by decide
  omega
theorem pw18 {e : Nat} (h : e ≤ 18) : ((10 ^ e : Nat) : Int) ≤ 10 ^ 18 ∧ 0 < ((10 ^ e : Nat) : Int) := by
  have a := pow_mono h
  have b := pow_pos e
  have c : ((10 ^ 18 : Nat) : Int) = 10 ^ 18 := by decide
  omega

mutual
def plain : Nat → D → Bool
  | 0, _ => false
  | _ + 1, .non => true
  | _ + 1, .bl _ => true
  | _ + 1, .int _ => true
  | _ + 1, .str l => l.all fun c => decide (c < 1114112)
  | n + 1, .lst ds => plains n ds && decide (ds.length ≤ 100000)
  | n + 1, .tup ds => plains n ds && decide (ds.length ≤ 100000)
  | _ + 1, _ => false
def plains : Nat → List D → Bool
  | _, [] => true
  | n, d :: ds => plain n d && plains n ds
end
theorem plains_get {n : Nat} : ∀ {ds : List D} {i : Nat} {d : D}, plains n ds = true → ds[i]? = some d → plain n d = true
  | [], _, _, _, h => by simp at h
  | x :: ds, 0, d, p, h => by
    simp only [plains, Bool.and_eq_true] at p
    simp only [List.getElem?_cons_zero, Option.some.injEq] at h
    rw [← h]; exact p.1
  | x :: ds, i + 1, d, p, h => by
    simp only [plains, Bool.and_eq_true] at p
    exact plains_get p.2 (by simpa using h)
theorem plains_ints {n : Nat} : ∀ ns : List Int, plains (n + 1) (ns.map .int) = true
  | [] => rfl
  | i :: ns => by simp [plains, plain, plains_ints ns]
theorem like_of {k : Nat} {n : Nat} (hn : n ≤ k) {xs ys : List D} (hl : xs.length = ys.length) {c : Int → Bool} (hc : ∀ (i : Nat) x y, xs[i]? = some x → ys[i]? = some y → (c i = true ↔ x = y)) : ((rngI 0 xs.length).filter (fun i => !c i) = []) ↔ xs = ys := by
  rw [List.filter_eq_nil_iff]
  constructor
  · intro h
    refine List.ext_getElem hl fun i h1 h2 => ?_
    have h3 := h (i : Int) (mem_rngI.mpr ⟨by omega, by omega⟩)
    exact (hc i _ _ (List.getElem?_eq_getElem h1) (List.getElem?_eq_getElem h2)).mp (by simpa using h3)
  · rintro rfl i hi
    have hi := mem_rngI.mp hi
    have h1 : i.toNat < xs.length := by omega
    have := (hc i.toNat _ _ (List.getElem?_eq_getElem h1) (List.getElem?_eq_getElem h1)).mpr rfl
    rw [Int.toNat_of_nonneg hi.1] at this
    simp [this]

/-! ### joined texts -/
theorem joinL_eq (a : List Nat) (ls : List (List Nat)) : joinL a ls = TL.joinL a ls := by
  unfold joinL
  rw [TL.join_eq]
  have h := TL.tl_join (S a) (ls.map S)
  have e1 : TL.tl (S a) = a := list_S a
  have e2 : (ls.map S).map TL.tl = ls := by
    rw [List.map_map]
    conv => rhs; rw [← List.map_id ls]
    exact List.map_congr_left fun l _ => list_S l
  rw [e1, e2] at h
  exact h
theorem joinL_len (a : List Nat) : ∀ ls : List (List Nat), (joinL a ls).length ≤ (ls.map List.length).sum + ls.length * a.length := by
  intro ls
  rw [joinL_eq]
  induction ls with
  | nil => simp [TL.joinL]
  | cons p r ih =>
    cases r with
    | nil => simp [TL.joinL]
    | cons q r =>
      show (p ++ (a ++ TL.joinL a (q :: r))).length ≤ _
      simp only [List.length_append, List.map_cons, List.sum_cons, List.length_cons] at ih ⊢
      have e : (r.length + 1 + 1) * a.length = (r.length + 1) * a.length + a.length := Nat.succ_mul _ _
      omega
theorem joinL_mem (a : List Nat) : ∀ ls : List (List Nat), ∀ c ∈ joinL a ls, c ∈ a ∨ ∃ l ∈ ls, c ∈ l := by
  intro ls
  rw [joinL_eq]
  induction ls with
  | nil => intro c hc; simp [TL.joinL] at hc
  | cons p r ih =>
    cases r with
    | nil =>
      intro c hc
      exact .inr ⟨p, List.mem_cons_self .., by simpa [TL.joinL] using hc⟩
    | cons q r =>
      intro c hc
      have hc : c ∈ p ++ (a ++ TL.joinL a (q :: r)) := hc
      rcases List.mem_append.mp hc with h | h
      · exact .inr ⟨p, List.mem_cons_self .., h⟩
      · rcases List.mem_append.mp h with h | h
        · exact .inl h
        · rcases ih c h with h | ⟨l, hl, h⟩
          · exact .inl h
          · exact .inr ⟨l, List.mem_cons_of_mem _ hl, h⟩
theorem split_back {ls : List (List Nat)} (hne : ls ≠ []) (h : ∀ l ∈ ls, 45 ∉ l) : splitL (joinL [45] ls) [45] = ls := by
  unfold splitL joinL
  rw [S_list]
  have e := TL.split_join (y := S [45]) (s := 45) (S := []) rfl (by decide +kernel) (parts := ls.map S) (fun e => hne (List.map_eq_nil_iff.mp e)) (fun p hp => by
    obtain ⟨l, hl, rfl⟩ := List.mem_map.mp hp
    rw [show TL.tl (S l) = l from list_S l]
    exact h l hl)
  rw [e, List.map_map]
  conv => rhs; rw [← List.map_id ls]
  exact List.map_congr_left fun l _ => list_S l
/-- a number with k noughts ahead -/
def zer (k : Nat) (n : Int) : List Nat := (List.replicate k [48]).flatten ++ istr n
theorem flat48 (k : Nat) : (List.replicate k [48]).flatten = List.replicate k 48 := by
  induction k with
  | zero => rfl
  | succ k ih => rw [List.replicate_succ, List.flatten_cons, ih]; rfl
theorem zer_digits {n : Int} (k : Nat) (h : 0 ≤ n) : NumText.AllDigits (zer k n) := by
  unfold zer
  rw [flat48]
  intro c hc
  rcases List.mem_append.mp hc with hc | hc
  · rw [(List.mem_replicate.mp hc).2]; decide
  · exact istr_digits h c hc
theorem zer_len {n : Int} (k : Nat) (h : Num n) : (zer k n).length ≤ k + 18 := by
  unfold zer
  have := istr_len h.1 (by decide) h.2
  rw [flat48, List.length_append, List.length_replicate]
  omega
theorem zer_pos {n : Int} (k : Nat) (h : 0 ≤ n) : 0 < (zer k n).length := by
  unfold zer
  have := istr_len_pos h
  rw [List.length_append]; omega
theorem zer_int {n : Int} {k : Nat} (hk : k ≤ 100) (h : Num n) : PySem.intText? (S (zer k n)) = some n := by
  have hl := zer_len k h
  have := intText_digits (x := S (zer k n)) (by rw [list_S]; exact zer_digits k h.1) (by rw [list_S]; exact List.length_pos_iff.mp (zer_pos k h.1)) (by rw [S_len]; omega)
  rw [list_S] at this
  unfold zer at this
  rw [flat48, val_zeros, istr_val h.1, ← flat48] at this
  exact this
theorem pad_zer (n w : Int) : padL n w = zer (w - (istr n).length).toNat n := rfl
theorem zer0 (n : Int) : zer 0 n = istr n := rfl
/-- a name: numbers with noughts -/
def nameP (ks : List Nat) (row : List Int) : List (List Nat) := List.zipWith zer ks row
def nameL (ks : List Nat) (row : List Int) : List Nat := joinL [45] (nameP ks row)
structure RowOk (row : List Int) : Prop where
  ne : row ≠ []
  le : row.length ≤ 4
  num : ∀ n ∈ row, 0 < n ∧ n ≤ 99999999
theorem RowOk.Num {row : List Int} (h : RowOk row) : ∀ n ∈ row, Num n := fun n hn => by
  have := h.num n hn
  exact ⟨by omega, by have : (99999999 : Int) < 10 ^ 18 := by decide
                      omega⟩
structure KsOk (ks : List Nat) (row : List Int) : Prop where
  len : ks.length = row.length
  le : ∀ k ∈ ks, k ≤ 100
theorem nameP_mem {ks : List Nat} {row : List Int} : ∀ l ∈ nameP ks row, ∃ k ∈ ks, ∃ n ∈ row, l = zer k n := by
  unfold nameP
  induction ks generalizing row with
  | nil => intro l h; simp at h
  | cons k ks ih =>
    cases row with
    | nil => intro l h; simp at h
    | cons n row =>
      intro l h
      rw [List.zipWith_cons_cons] at h
      rcases List.mem_cons.mp h with rfl | h
      · exact ⟨k, List.mem_cons_self .., n, List.mem_cons_self .., rfl⟩
      · obtain ⟨k', h1, n', h2, e⟩ := ih l h
        exact ⟨k', List.mem_cons_of_mem _ h1, n', List.mem_cons_of_mem _ h2, e⟩
theorem nameP_len {ks : List Nat} {row : List Int} (h : KsOk ks row) : (nameP ks row).length = row.length := by
  unfold nameP
  rw [List.length_zipWith, h.len, Nat.min_self]
theorem sum_le {α : Type} {f : α → Nat} {b : Nat} : ∀ (xs : List α), (∀ x ∈ xs, f x ≤ b) → (xs.map f).sum ≤ xs.length * b
  | [], _ => by simp
  | x :: xs, h => by
    rw [List.map_cons, List.sum_cons, List.length_cons]
    have h1 := h x (List.mem_cons_self ..)
    have h2 := sum_le xs fun y hy => h y (List.mem_cons_of_mem _ hy)
    have e : (xs.length + 1) * b = xs.length * b + b := Nat.succ_mul _ _
    omega
theorem nameP_sum {ks : List Nat} {row : List Int} (h : KsOk ks row) (g : RowOk row) : ((nameP ks row).map List.length).sum ≤ 4 * 118 := by
  have := sum_le (f := List.length) (b := 118) (nameP ks row) fun l hl => by
    obtain ⟨k, hk, n, hn, rfl⟩ := nameP_mem l hl
    have h1 := zer_len k (g.Num n hn)
    have h2 := h.le k hk
    omega
  rw [nameP_len h] at this
  have e : row.length * 118 ≤ 4 * 118 := Nat.mul_le_mul_right _ g.le
  omega
theorem nameL_len {ks : List Nat} {row : List Int} (h : KsOk ks row) (g : RowOk row) : (nameL ks row).length ≤ 1000 := by
  have h1 := joinL_len [45] (nameP ks row)
  have h2 := nameP_sum h g
  rw [nameP_len h] at h1
  have h3 := g.le
  unfold nameL
  simp only [List.length_singleton, Nat.mul_one] at h1
  omega
theorem nameP_free {ks : List Nat} {row : List Int} (g : RowOk row) : ∀ l ∈ nameP ks row, 45 ∉ l := fun l hl hc => by
  obtain ⟨k, hk, n, hn, rfl⟩ := nameP_mem l hl
  have := zer_digits k (g.Num n hn).1 45 hc
  omega
theorem nameP_ne {ks : List Nat} {row : List Int} (h : KsOk ks row) (g : RowOk row) : nameP ks row ≠ [] := fun e => by
  have := nameP_len h
  rw [e] at this
  exact g.ne (List.length_eq_zero_iff.mp this.symm)
theorem name_split {ks : List Nat} {row : List Int} (h : KsOk ks row) (g : RowOk row) : splitL (nameL ks row) [45] = nameP ks row := split_back (nameP_ne h g) (nameP_free g)
theorem name_chs {ks : List Nat} {row : List Int} (g : RowOk row) : chs (nameL ks row) := fun c hc => by
  rcases joinL_mem _ _ c hc with h | ⟨l, hl, h⟩
  · rw [List.mem_singleton.mp h]; decide
  · obtain ⟨k, hk, n, hn, rfl⟩ := nameP_mem l hl
    have := zer_digits k (g.Num n hn).1 c h
    omega
theorem zip_map_l {row : List Int} (f : Int → Nat) : nameP (row.map f) row = row.map fun n => zer (f n) n := by
  unfold nameP
  induction row with
  | nil => rfl
  | cons n row ih => rw [List.map_cons, List.zipWith_cons_cons, ih]; rfl
theorem ks_map {row : List Int} {f : Int → Nat} (h : ∀ n ∈ row, f n ≤ 100) : KsOk (row.map f) row := ⟨by simp, fun k hk => by
  obtain ⟨n, hn, rfl⟩ := List.mem_map.mp hk
  exact h n hn⟩
theorem plain_row {n : Nat} {row : List Int} (g : RowOk row) : plain (n + 2) (.tup (row.map .int)) = true := by
  have := g.le
  simp only [plain, plains_ints, Bool.true_and, decide_eq_true_eq, List.length_map]
  omega
theorem plain_str {n : Nat} {l : List Nat} (h : chs l) : plain (n + 1) (.str l) = true := by
  simp only [plain, List.all_eq_true, decide_eq_true_eq]
  exact h
theorem rows_ext {f g : Int → Nat} {row : List Int} (h : ∀ n ∈ row, f n = g n) : nameL (row.map f) row = nameL (row.map g) row := by rw [List.map_congr_left h]
theorem ks_zero {ks : List Nat} {row : List Int} (hl : ks.length = row.length) (h : ∀ k ∈ ks, k = 0) : ks = row.map fun _ => 0 := by
  refine List.ext_getElem (by simpa using hl) fun i h1 h2 => ?_
  rw [List.getElem_map]
  exact h _ (List.getElem_mem h1)
theorem zip_snoc {ks : List Nat} {row : List Int} (hl : ks.length = row.length) (k : Nat) (n : Int) : nameP (ks ++ [k]) (row ++ [n]) = nameP ks row ++ [zer k n] := by
  unfold nameP
  rw [List.zipWith_append hl]; rfl
theorem w_in_ss {c : Nat} {a : List Nat} {Q : R → Prop} : wIn (.str [c]) (.str a) Q = Q (.fr (.bl (false.xor (decide (c ∈ a))))) := rfl
theorem numL_head : ∀ n : Nat, 0 < n → ∃ c r, TL.numL n = c :: r ∧ 49 ≤ c ∧ c ≤ 57 := by
  intro n
  induction n using Nat.strongRecOn with
  | _ n ih =>
    intro h0
    by_cases h : n < 10
    · exact ⟨48 + n, [], TL.numL_lt h, by omega, by omega⟩
    · obtain ⟨c, r, e, h1, h2⟩ := ih (n / 10) (by omega) (by omega)
      exact ⟨c, r ++ [48 + n % 10], by rw [TL.numL_step (by omega), e]; rfl, h1, h2⟩
theorem istr_head {n : Int} (h : 0 < n) : ∃ c r, istr n = c :: r ∧ 49 ≤ c ∧ c ≤ 57 := by
  rw [istr_eq (by omega)]
  exact numL_head _ (by omega)
theorem zer_val {n : Int} (k : Nat) (h : 0 ≤ n) : (NumText.digitsVal (zer k n) : Int) = n := by
  unfold zer
  rw [flat48, val_zeros, istr_val h]
theorem nameP_vals {ks : List Nat} {row : List Int} (hl : ks.length = row.length) (h : ∀ n ∈ row, 0 ≤ n) : (nameP ks row).map (fun l => D.int (NumText.digitsVal l)) = row.map D.int := by
  unfold nameP
  induction ks generalizing row with
  | nil => cases row with
    | nil => rfl
    | cons n row => simp at hl
  | cons k ks ih =>
    cases row with
    | nil => simp at hl
    | cons n row =>
      rw [List.zipWith_cons_cons, List.map_cons, List.map_cons, zer_val k (h n (List.mem_cons_self ..)), ih (by simpa using hl) fun m hm => h m (List.mem_cons_of_mem _ hm)]
theorem mem_get {α : Type} {xs : List α} {i : Nat} {x : α} (h : xs[i]? = some x) : x ∈ xs := List.mem_of_getElem? h

/-! ### rows and their order -/
def rowD (r : List Int) : D := .tup (r.map .int)
theorem rowD_inj (x y : List Int) : D.eqv (rowD x) (rowD y) = decide (x = y) := eqv_intsT x y
theorem il_irrefl (x : List Int) : ¬ x < x := List.lt_irrefl x
theorem il_trans {x y z : List Int} (h : x < y) (h2 : y < z) : x < z := List.lt_trans h h2
theorem il_tri (a b : List Int) : a < b ∨ a = b ∨ b < a := by
  by_cases h : a < b
  · exact .inl h
  · by_cases h2 : b < a
    · exact .inr (.inr h2)
    · exact .inr (.inl (List.le_antisymm (List.not_lt.mp h2) (List.not_lt.mp h)))
theorem toks_row (x y : List Int) (l m : List (Int ⊕ List Nat)) : PyProof.Rows.lexLt itemOrd (PySem.W.keyToksAll (pys (x.map .int)) ++ l) (PySem.W.keyToksAll (pys (y.map .int)) ++ m) = if x = y then PyProof.Rows.lexLt itemOrd l m else decide (x < y) := by
  induction x generalizing y with
  | nil =>
    cases y with
    | nil =>
      simp only [List.map_nil, pys, PySem.W.keyToksAll, List.cons_append, List.nil_append, if_true]
      exact lex_self (O := itemOrd) _ _ _
    | cons b y =>
      simp only [List.map_nil, List.map_cons, pys, PySem.W.keyToksAll, List.cons_append, List.nil_append]
      rw [if_neg (by simp), lex_diff (O := itemOrd) (by simp)]
      show decide ((0 : Int) < 1) = _
      simp
  | cons a x ih =>
    cases y with
    | nil =>
      simp only [List.map_nil, List.map_cons, pys, PySem.W.keyToksAll, List.cons_append, List.nil_append]
      rw [if_neg (by simp), lex_diff (O := itemOrd) (by simp)]
      show decide ((1 : Int) < 0) = _
      simp
    | cons b y =>
      simp only [List.map_cons, pys, PySem.W.keyToksAll, D.py, PySem.W.keyToks, List.cons_append, List.nil_append, List.append_assoc]
      rw [lex_self (O := itemOrd)]
      by_cases hab : a = b
      · subst hab
        rw [lex_self (O := itemOrd), ih y]
        by_cases hxy : x = y
        · subst hxy; simp
        · rw [if_neg hxy, if_neg (by simpa using hxy)]
          simp [List.cons_lt_cons_iff]
      · rw [lex_diff (O := itemOrd) (by simpa using hab), if_neg (by simp [hab])]
        show decide (a < b) = _
        simp [List.cons_lt_cons_iff, hab]
theorem dlt_row (x y : List Int) : PySem.W.dataLt (D.py (rowD x)) (D.py (rowD y)) = decide (x < y) := by
  have := toks_row x y [] []
  rw [List.append_nil, List.append_nil] at this
  show PyProof.Rows.lexLt itemOrd (PySem.W.keyToks (D.py (rowD x))) (PySem.W.keyToks (D.py (rowD y))) = _
  unfold rowD
  rw [D.py, D.py, PySem.W.keyToks, PySem.W.keyToks, this]
  by_cases h : x = y
  · subst h; simp [il_irrefl]; rfl
  · rw [if_neg h]
theorem dle_row (x y : List Int) : dle (rowD x) (rowD y) = decide (x ≤ y) := by
  show (!PySem.W.dataLt (D.py (rowD y)) (D.py (rowD x))) = _
  rw [dlt_row]
  by_cases h : y < x
  · rw [decide_eq_true h, decide_eq_false (fun z => z h)]; rfl
  · rw [decide_eq_false h, decide_eq_true (List.not_lt.mp h)]; rfl
/-- a row with its name -/
abbrev NR := List Nat × List Int
def nm (x : NR) : List Nat := nameL x.1 x.2
def pairN (x : NR) : D := .tup [rowD x.2, .str (nm x)]
def leN (x y : NR) : Bool := decide (x.2 < y.2 ∨ (x.2 = y.2 ∧ nm x ≤ nm y))
theorem dle_pair (x y : NR) : dle (pairN x) (pairN y) = leN x y := by
  show (!PyProof.Rows.lexLt itemOrd (PySem.W.keyToks (D.py (pairN y))) (PySem.W.keyToks (D.py (pairN x)))) = _
  unfold pairN rowD
  simp only [D.py, pys, PySem.W.keyToks, PySem.W.keyToksAll]
  rw [lex_self (O := itemOrd), toks_row]
  unfold leN
  by_cases h : y.2 = x.2
  · rw [if_pos h, lex_self (O := itemOrd)]
    simp only [List.cons_append, List.nil_append, list_S]
    by_cases h2 : nm y = nm x
    · rw [h2, lex_self (O := itemOrd), lex_self (O := itemOrd)]
      rw [decide_eq_true (.inr ⟨h.symm, List.le_refl _⟩)]; rfl
    · rw [lex_diff (O := itemOrd) (by simpa using h2)]
      show (!decide (nm y < nm x)) = _
      rw [h]
      by_cases h3 : nm y < nm x
      · rw [decide_eq_true h3, decide_eq_false]; rfl
        rintro (h4 | ⟨_, h4⟩)
        · exact il_irrefl _ h4
        · exact h4 h3
      · rw [decide_eq_false h3, decide_eq_true (.inr ⟨rfl, List.not_lt.mp h3⟩)]; rfl
  · rw [if_neg h]
    by_cases h3 : y.2 < x.2
    · rw [decide_eq_true h3, decide_eq_false]; rfl
      rintro (h4 | ⟨h4, _⟩)
      · exact il_irrefl _ (il_trans h3 h4)
      · exact h h4.symm
    · have : x.2 < y.2 := by
        rcases il_tri x.2 y.2 with h4 | h4 | h4
        · exact h4
        · exact absurd h4.symm h
        · exact absurd h4 h3
      rw [decide_eq_false h3, decide_eq_true (.inl this)]; rfl
theorem leN_trans (x y z : NR) (h1 : leN x y = true) (h2 : leN y z = true) : leN x z = true := by
  unfold leN at *
  simp only [decide_eq_true_eq] at *
  rcases h1 with h1 | ⟨e1, h1⟩ <;> rcases h2 with h2 | ⟨e2, h2⟩
  · exact .inl (il_trans h1 h2)
  · exact .inl (e2 ▸ h1)
  · exact .inl (e1 ▸ h2)
  · exact .inr ⟨e1.trans e2, List.le_trans h1 h2⟩
theorem leN_total (x y : NR) : (leN x y || leN y x) = true := by
  unfold leN
  simp only [Bool.or_eq_true, decide_eq_true_eq]
  rcases il_tri x.2 y.2 with h | h | h
  · exact .inl (.inl h)
  · rcases List.le_total (nm x) (nm y) with h2 | h2
    · exact .inl (.inr ⟨h, h2⟩)
    · exact .inr (.inr ⟨h.symm, h2⟩)
  · exact .inr (.inl h)
def srtN (N : List NR) : List NR := N.mergeSort leN
theorem srtN_perm (N : List NR) : (srtN N).Perm N := List.mergeSort_perm N _
theorem srtN_pw (N : List NR) : (srtN N).Pairwise fun x y => leN x y = true := List.pairwise_mergeSort leN_trans leN_total N
theorem sort_pairs (N : List NR) : (N.map pairN).mergeSort dle = (srtN N).map pairN := (List.map_mergeSort (fun a _ b _ => (dle_pair a b).symm)).symm
/-! ### plain names -/
def pnT : List Int → List Nat
  | [] => []
  | b :: y => 45 :: (istr b ++ pnT y)
def pn : List Int → List Nat
  | [] => []
  | a :: x => istr a ++ pnT x
def zrow (r : List Int) : NR := (r.map fun _ => 0, r)
theorem nm_zrow : ∀ r : List Int, nm (zrow r) = pn r := fun r => by
  unfold nm zrow nameL
  rw [zip_map_l, joinL_eq]
  simp only [zer0]
  induction r with
  | nil => rfl
  | cons a r ih =>
    cases r with
    | nil => simp [TL.joinL, pn, pnT]
    | cons b r =>
      show istr a ++ ([45] ++ TL.joinL [45] ((b :: r).map istr)) = istr a ++ (45 :: (istr b ++ pnT r))
      rw [ih]
      rfl
def tlt : List Int → List Int → Bool
  | [], [] => false
  | [], _ :: _ => true
  | _ :: _, [] => false
  | a :: x, b :: y => if a = b then tlt x y else decide (istr a < istr b)
def Tl (u : List Nat) : Prop := u = [] ∨ ∃ z, u = 45 :: z
theorem tl_pnT : ∀ x : List Int, Tl (pnT x)
  | [] => .inl rfl
  | _ :: _ => .inr ⟨_, rfl⟩
theorem digs_lt : ∀ (s t u w : List Nat), NumText.AllDigits s → NumText.AllDigits t → s ≠ t → Tl u → Tl w → (s ++ u < t ++ w ↔ s < t)
  | [], [], _, _, _, _, h, _, _ => absurd rfl h
  | [], d :: t, u, w, _, ht, _, hu, _ => by
    have := (ht d List.mem_cons_self).1
    constructor
    · intro _; exact List.nil_lt_cons _ _
    · intro _
      rcases hu with rfl | ⟨z, rfl⟩
      · simp
      · rw [List.nil_append, List.cons_append, List.cons_lt_cons_iff]; exact .inl (by omega)
  | c :: s, [], u, w, hs, _, _, _, hw => by
    have := (hs c List.mem_cons_self).1
    constructor
    · intro h
      rcases hw with rfl | ⟨z, rfl⟩
      · simp at h
      · rw [List.nil_append, List.cons_append, List.cons_lt_cons_iff] at h
        rcases h with h | ⟨h, _⟩ <;> omega
    · intro h; simp at h
  | c :: s, d :: t, u, w, hs, ht, h, hu, hw => by
    rw [List.cons_append, List.cons_append, List.cons_lt_cons_iff, List.cons_lt_cons_iff]
    by_cases hcd : c = d
    · subst hcd
      have := digs_lt s t u w (fun x hx => hs x (List.mem_cons_of_mem _ hx)) (fun x hx => ht x (List.mem_cons_of_mem _ hx)) (fun e => h (by rw [e])) hu hw
      simp [this]
    · simp [hcd]
def PosR (r : List Int) : Prop := ∀ n ∈ r, 0 < n ∧ n ≤ 99999999
theorem app_lt (s x y : List Nat) : s ++ x < s ++ y ↔ x < y := by
  induction s with
  | nil => rfl
  | cons c s ih => rw [List.cons_append, List.cons_append, List.cons_lt_cons_iff, ih]; simp
theorem pnT_lt : ∀ x y : List Int, PosR x → PosR y → (pnT x < pnT y ↔ tlt x y = true)
  | [], [], _, _ => by simp [pnT, tlt]
  | [], _ :: _, _, _ => by simp [pnT, tlt]
  | _ :: _, [], _, _ => by simp [pnT, tlt]
  | a :: x, b :: y, hx, hy => by
    have ha := hx a List.mem_cons_self
    have hb := hy b List.mem_cons_self
    rw [pnT, pnT, tlt, List.cons_lt_cons_iff]
    by_cases h : a = b
    · subst h
      rw [if_pos rfl, ← pnT_lt x y (fun n hn => hx n (List.mem_cons_of_mem _ hn)) (fun n hn => hy n (List.mem_cons_of_mem _ hn)), app_lt]
      simp
    · rw [if_neg h, digs_lt _ _ _ _ (istr_digits (by omega)) (istr_digits (by omega)) (fun e => h (istr_inj (by omega) (by omega) e)) (tl_pnT x) (tl_pnT y)]
      simp
theorem pn_lt {x y : List Int} (hx : x ≠ []) (hy : y ≠ []) (px : PosR x) (py : PosR y) : pn x < pn y ↔ tlt x y = true := by
  rw [← pnT_lt x y px py]
  cases x with
  | nil => exact absurd rfl hx
  | cons a x =>
    cases y with
    | nil => exact absurd rfl hy
    | cons b y =>
      rw [pnT, pnT, List.cons_lt_cons_iff]
      simp [pn]
theorem tlt_asymm : ∀ x y : List Int, tlt x y = true → tlt y x = true → False
  | [], [], h, _ => by simp [tlt] at h
  | [], _ :: _, _, h => by simp [tlt] at h
  | _ :: _, [], h, _ => by simp [tlt] at h
  | a :: x, b :: y, h, h2 => by
    rw [tlt] at h h2
    by_cases hab : a = b
    · subst hab
      rw [if_pos rfl] at h h2
      exact tlt_asymm x y h h2
    · rw [if_neg hab] at h
      rw [if_neg (Ne.symm hab)] at h2
      exact List.lt_irrefl _ (List.lt_trans (of_decide_eq_true h) (of_decide_eq_true h2))
theorem tlt_tri : ∀ x y : List Int, PosR x → PosR y → tlt x y = true ∨ x = y ∨ tlt y x = true
  | [], [], _, _ => .inr (.inl rfl)
  | [], _ :: _, _, _ => .inl rfl
  | _ :: _, [], _, _ => .inr (.inr rfl)
  | a :: x, b :: y, hx, hy => by
    have ha := hx a List.mem_cons_self
    have hb := hy b List.mem_cons_self
    rw [tlt, tlt]
    by_cases hab : a = b
    · subst hab
      rw [if_pos rfl, if_pos rfl]
      rcases tlt_tri x y (fun n hn => hx n (List.mem_cons_of_mem _ hn)) (fun n hn => hy n (List.mem_cons_of_mem _ hn)) with h | h | h
      · exact .inl h
      · exact .inr (.inl (by rw [h]))
      · exact .inr (.inr h)
    · rw [if_neg hab, if_neg (Ne.symm hab)]
      rcases slt_tri (istr a) (istr b) with h | h | h
      · exact .inl (decide_eq_true h)
      · exact absurd (istr_inj (by omega) (by omega) h) hab
      · exact .inr (.inr (decide_eq_true h))
theorem pn_inj {x y : List Int} (hx : x ≠ []) (hy : y ≠ []) (px : PosR x) (py : PosR y) (e : pn x = pn y) : x = y := by
  rcases tlt_tri x y px py with h | h | h
  · have := (pn_lt hx hy px py).mpr h; rw [e] at this; exact absurd this (List.lt_irrefl _)
  · exact h
  · have := (pn_lt hy hx py px).mpr h; rw [e] at this; exact absurd this (List.lt_irrefl _)
/-! ### rows on which both orders agree -/
def AG (rows : List (List Int)) : Prop := ∀ r ∈ rows, ∀ r' ∈ rows, r < r' → tlt r r' = true
theorem perm_sorted {A B : List (List Nat)} (p : A.Perm B) : A = ssort B ↔ A.Pairwise (· ≤ ·) := by
  constructor
  · intro h; rw [h]; exact ssort_pw B
  · intro h
    exact List.Perm.eq_of_pairwise (le := fun a b : List Nat => a ≤ b) (fun a b _ _ h1 h2 => List.le_antisymm h1 h2) h (ssort_pw B) (p.trans (ssort_perm B).symm)
theorem agree_iff {rows : List (List Int)} (nd : rows.Nodup) (ok : ∀ r ∈ rows, RowOk r) : ((srtN (rows.map zrow)).map nm = ssort ((rows.map zrow).map nm)) ↔ AG rows := by
  have p := srtN_perm (rows.map zrow)
  rw [perm_sorted (p.map nm), List.pairwise_map]
  have pw := srtN_pw (rows.map zrow)
  have mem : ∀ x, x ∈ srtN (rows.map zrow) → ∃ r ∈ rows, x = zrow r := fun x hx => by
    obtain ⟨r, hr, rfl⟩ := List.mem_map.mp (p.mem_iff.mp hx)
    exact ⟨r, hr, rfl⟩
  have zin : ∀ r ∈ rows, zrow r ∈ srtN (rows.map zrow) := fun r hr => p.mem_iff.mpr (List.mem_map_of_mem hr)
  have znd : (srtN (rows.map zrow)).Nodup := by
    refine p.nodup_iff.mpr ?_
    rw [List.Nodup, List.pairwise_map]
    exact nd.imp fun h e => h (congrArg Prod.snd e)
  constructor
  · intro h r hr r' hr' hlt
    obtain ⟨i, hi, ei⟩ := List.getElem_of_mem (zin r hr)
    obtain ⟨j, hj, ej⟩ := List.getElem_of_mem (zin r' hr')
    have o := ok r hr
    have o' := ok r' hr'
    rcases Nat.lt_trichotomy i j with hij | hij | hij
    · have := (List.pairwise_iff_getElem.mp h) i j hi hj hij
      rw [ei, ej, nm_zrow, nm_zrow] at this
      rcases tlt_tri r r' o.num o'.num with h1 | h1 | h1
      · exact h1
      · subst h1; exact absurd hlt (il_irrefl _)
      · exact absurd ((pn_lt o'.ne o.ne o'.num o.num).mpr h1) this
    · subst hij
      rw [ei] at ej
      have : r = r' := congrArg Prod.snd ej
      subst this
      exact absurd hlt (il_irrefl _)
    · have := (List.pairwise_iff_getElem.mp pw) j i hj hi hij
      rw [ei, ej] at this
      unfold leN at this
      simp only [decide_eq_true_eq] at this
      rcases this with h1 | ⟨h1, _⟩
      · exact absurd (il_trans hlt h1) (il_irrefl _)
      · have h1 : r' = r := h1
        subst h1; exact absurd hlt (il_irrefl _)
  · intro h
    refine (List.Pairwise.and_mem.mp (pw.and znd)).imp fun {x y} ⟨hx, hy, h1, h2⟩ => ?_
    obtain ⟨r, hr, rfl⟩ := mem x hx
    obtain ⟨r', hr', rfl⟩ := mem y hy
    rw [nm_zrow, nm_zrow]
    unfold leN at h1
    simp only [decide_eq_true_eq] at h1
    rcases h1 with h1 | ⟨h1, _⟩
    · have := h r hr r' hr' h1
      exact List.le_of_lt ((pn_lt (ok r hr).ne (ok r' hr').ne (ok r hr).num (ok r' hr').num).mpr this)
    · have h1 : r = r' := h1
      subst h1; exact absurd rfl h2

/-! ### k12: what fits between two neighbours -/
theorem nd_numL {k : Nat} (h : 0 < k) : (TL.numL k).length = nd k := (nd_pos h).symm
/-- a figured number stands ahead of k exactly below fK k -/
theorem ahead_iff {j k : Nat} (hj : 0 < j) (hk : 0 < k) : TL.numL j < TL.numL k ↔ j < fK k (nd j) := by
  unfold fK
  by_cases hd : nd j < nd k
  · rw [if_pos hd]
    have c := str_cmp hj hk (by omega)
    have e : j < k / 10 ^ (nd k - nd j) + 1 ↔ j * 10 ^ (nd k - nd j) ≤ k := by
      rw [Nat.lt_succ_iff, Nat.le_div_iff_mul_le (pow_pos _)]
    rw [e]
    constructor
    · intro h
      by_cases h2 : j * 10 ^ (nd k - nd j) ≤ k
      · exact h2
      · exact absurd (List.lt_trans h (c.2 (by omega))) (List.lt_irrefl _)
    · intro h
      exact c.1 h fun z => by subst z; omega
  · rw [if_neg hd]
    have c := str_cmp hk hj (by omega)
    constructor
    · intro h
      by_cases h2 : j < k * 10 ^ (nd j - nd k)
      · exact h2
      · by_cases e : k = j
        · subst e; exact absurd h (List.lt_irrefl _)
        · exact absurd (List.lt_trans h (c.1 (by omega) e)) (List.lt_irrefl _)
    · exact c.2
theorem istr_ne {k : Nat} : istr (k : Int) ≠ [] := fun e => by
  have := istr_len_pos (n := (k : Int)) (by omega)
  rw [e] at this; exact absurd this (by decide)
theorem cut_num {k d : Nat} (hk : 0 < k) (h1 : 1 ≤ d) (h : d ≤ nd k) : cut (istr (k : Int)) none (some (d : Int)) = istr ((k / 10 ^ (nd k - d) : Nat) : Int) := by
  obtain ⟨a, b, c⟩ := nd_bd k hk
  have hq : 0 < k / 10 ^ (nd k - d) := by
    rw [Nat.div_pos_iff]
    exact ⟨pow_pos _, Nat.le_trans (pow_mono (by omega)) a⟩
  obtain ⟨t, e1, e2⟩ := num_split (nd k - d) k hq
  rw [cut_to, istr_nat, istr_nat, e1]
  have hl := congrArg List.length e1
  rw [List.length_append, e2, nd_numL hk] at hl
  rw [List.take_append_of_le_length (by omega), List.take_of_length_le (by omega)]

/-! ### k04: numbers that agree -/
def PosI (a : Int) : Prop := 0 < a ∧ a < 10 ^ 17
def AV (vs : List Int) : Prop := ∀ a ∈ vs, ∀ b ∈ vs, a < b → istr a < istr b
theorem rule_iff {a b : Nat} (ha : 0 < a) (hb : 0 < b) (hl : nd a < nd b) : b / 10 ^ (nd b - nd a) < a ↔ ¬ istr (a : Int) < istr (b : Int) := by
  rw [istr_nat, istr_nat, ahead_iff ha hb]
  unfold fK
  rw [if_pos hl]
  omega
theorem short_lt {a b : Nat} (ha : 0 < a) (hd : nd b ≤ nd a) (h : a < b) : istr (a : Int) < istr (b : Int) := by
  have := nd_le ha (Nat.le_of_lt h)
  rw [istr_nat, istr_nat]
  exact num_lt (by rw [nd_numL ha, nd_numL (by omega)]; omega) h
theorem long_lt {a b : Nat} (ha : 0 < a) (hb : 0 < b) (hl : nd a < nd b) : a < b := by
  by_cases h : a < b
  · exact h
  · have := nd_le hb (by omega : b ≤ a); omega
def hd0 (r : List Int) : Int := r.headD 0
def someR (rows : List (List Int)) : List (List Int) := rows.filter fun r => decide (r ≠ [])
def tailsR (rows : List (List Int)) (f : Int) : List (List Int) := ((someR rows).filter fun r => decide (hd0 r = f)).map List.tail
theorem mem_some {rows : List (List Int)} {a : Int} {x : List Int} (h : a :: x ∈ rows) : a :: x ∈ someR rows := List.mem_filter.mpr ⟨h, by simp⟩
theorem ag_split (rows : List (List Int)) : AG rows ↔ AV ((someR rows).map hd0) ∧ ∀ f ∈ (someR rows).map hd0, AG (tailsR rows f) := by
  have un : ∀ r ∈ someR rows, ∃ a x, r = a :: x ∧ a :: x ∈ rows := fun r hr => by
    have h := List.mem_filter.mp hr
    cases r with
    | nil => simp at h
    | cons a x => exact ⟨a, x, rfl, h.1⟩
  constructor
  · intro h
    refine ⟨fun a ha b hb hab => ?_, fun f _ x hx y hy hxy => ?_⟩
    · obtain ⟨r, hr, rfl⟩ := List.mem_map.mp ha
      obtain ⟨r', hr', rfl⟩ := List.mem_map.mp hb
      obtain ⟨a, x, rfl, h1⟩ := un r hr
      obtain ⟨b, y, rfl, h2⟩ := un r' hr'
      have hab : a < b := hab
      have := h _ h1 _ h2 (List.cons_lt_cons_iff.mpr (.inl hab))
      rw [tlt, if_neg (by omega)] at this
      exact of_decide_eq_true this
    · obtain ⟨r, hr, rfl⟩ := List.mem_map.mp hx
      obtain ⟨r', hr', rfl⟩ := List.mem_map.mp hy
      have hr := List.mem_filter.mp hr
      have hr' := List.mem_filter.mp hr'
      obtain ⟨a, x, rfl, h1⟩ := un r hr.1
      obtain ⟨b, y, rfl, h2⟩ := un r' hr'.1
      have e1 : a = f := of_decide_eq_true hr.2
      have e2 : b = f := of_decide_eq_true hr'.2
      subst e1 e2
      have hxy : x < y := hxy
      have := h _ h1 _ h2 (List.cons_lt_cons_iff.mpr (.inr ⟨rfl, hxy⟩))
      rw [tlt, if_pos rfl] at this
      exact this
  · rintro ⟨h1, h2⟩ r hr r' hr' hlt
    cases r with
    | nil =>
      cases r' with
      | nil => exact absurd hlt (il_irrefl _)
      | cons b y => rfl
    | cons a x =>
      cases r' with
      | nil => simp at hlt
      | cons b y =>
        rw [tlt]
        rcases List.cons_lt_cons_iff.mp hlt with h | ⟨h, h3⟩
        · rw [if_neg (by omega)]
          exact decide_eq_true (h1 a (List.mem_map.mpr ⟨_, mem_some hr, rfl⟩) b (List.mem_map.mpr ⟨_, mem_some hr', rfl⟩) h)
        · subst h
          rw [if_pos rfl]
          refine h2 a (List.mem_map.mpr ⟨_, mem_some hr, rfl⟩) x ?_ y ?_ h3
          · exact List.mem_map.mpr ⟨a :: x, List.mem_filter.mpr ⟨mem_some hr, by simp [hd0]⟩, rfl⟩
          · exact List.mem_map.mpr ⟨a :: y, List.mem_filter.mpr ⟨mem_some hr', by simp [hd0]⟩, rfl⟩
/-! ### from which number on they agree -/
def RS (l : List Int) : Prop := (l.map istr).Pairwise (· < ·)
def ThrP (row : List Int) (k : Nat) : Prop := ∃ h : k < row.length, RS (row.drop k) ∧ (k = 0 ∨ ¬ istr row[k - 1] < istr row[k])
theorem rs_step {row : List Int} {k : Nat} (h : k + 1 < row.length) (hs : RS (row.drop (k + 1))) (hlt : istr row[k] < istr row[k + 1]) : RS (row.drop k) := by
  have e : row.drop k = row[k] :: row[k + 1] :: row.drop (k + 2) := by
    rw [List.drop_eq_getElem_cons (by omega : k < row.length), List.drop_eq_getElem_cons h]
  have e2 : row.drop (k + 1) = row[k + 1] :: row.drop (k + 2) := List.drop_eq_getElem_cons h
  unfold RS at *
  rw [e2] at hs
  rw [e]
  simp only [List.map_cons] at hs ⊢
  rw [List.pairwise_cons]
  refine ⟨fun l hl => ?_, hs⟩
  rcases List.mem_cons.mp hl with rfl | hl
  · exact hlt
  · exact List.lt_trans hlt ((List.pairwise_cons.mp hs).1 l hl)
theorem rs_le {row : List Int} {j k : Nat} (hjk : j ≤ k) (hs : RS (row.drop j)) : RS (row.drop k) := by
  have : row.drop k = (row.drop j).drop (k - j) := by rw [List.drop_drop]; congr 1; omega
  unfold RS at *
  rw [this, List.map_drop]
  exact hs.sublist (List.drop_sublist _ _)
theorem rs_adj {row : List Int} {k : Nat} (h : k + 1 < row.length) (hs : RS (row.drop k)) : istr row[k] < istr row[k + 1] := by
  have e : row.drop k = row[k] :: row[k + 1] :: row.drop (k + 2) := by
    rw [List.drop_eq_getElem_cons (by omega : k < row.length), List.drop_eq_getElem_cons h]
  unfold RS at hs
  rw [e] at hs
  exact (List.pairwise_cons.mp hs).1 _ (List.mem_cons_self ..)
theorem thr_one {row : List Int} {j k : Nat} (h1 : ThrP row j) (h2 : ThrP row k) : j = k := by
  have key : ∀ j k, ThrP row j → ThrP row k → ¬ j < k := fun j k ⟨_, s1, _⟩ ⟨hk, _, c⟩ hjk => by
    rcases c with c | c
    · omega
    · obtain ⟨m, rfl⟩ : ∃ m, k = m + 1 := ⟨k - 1, by omega⟩
      exact c (rs_adj hk (rs_le (by omega) s1))
  have a := key j k h1 h2
  have b := key k j h2 h1
  omega
theorem isort_strict {vs : List Int} (nd : vs.Nodup) : (isort vs).Pairwise (· < ·) := ((isort_pw vs).and ((isort_perm vs).nodup_iff.mpr nd)).imp fun ⟨h1, h2⟩ => by omega
theorem rs_av {row : List Int} (h : row.Pairwise (· < ·)) : RS row ↔ AV row := by
  unfold RS
  rw [List.pairwise_map]
  constructor
  · intro hs a ha b hb hab
    obtain ⟨i, hi, rfl⟩ := List.getElem_of_mem ha
    obtain ⟨j, hj, rfl⟩ := List.getElem_of_mem hb
    rcases Nat.lt_trichotomy i j with hij | hij | hij
    · exact (List.pairwise_iff_getElem.mp hs) i j hi hj hij
    · subst hij; omega
    · have := (List.pairwise_iff_getElem.mp h) j i hj hi hij; omega
  · intro ha
    exact (List.Pairwise.and_mem.mp h).imp fun ⟨h1, h2, h3⟩ => ha _ h1 _ h2 h3
theorem av_perm {vs ws : List Int} (p : vs.Perm ws) : AV vs ↔ AV ws := by
  unfold AV
  simp only [p.mem_iff]
theorem ge_drop {row : List Int} (h : row.Pairwise (· < ·)) {k : Nat} (hk : k < row.length) {v : Int} (hv : v ∈ row) : row[k] ≤ v ↔ v ∈ row.drop k := by
  constructor
  · intro hle
    obtain ⟨i, hi, rfl⟩ := List.getElem_of_mem hv
    have : k ≤ i := by
      by_cases hki : k ≤ i
      · exact hki
      · have := (List.pairwise_iff_getElem.mp h) i k hi hk (by omega); omega
    rw [List.mem_drop_iff_getElem]
    exact ⟨i - k, by omega, by simp only [show k + (i - k) = i by omega]⟩
  · intro hd
    obtain ⟨i, hi, rfl⟩ := List.mem_drop_iff_getElem.mp hd
    by_cases h0 : i = 0
    · subst h0; simp
    · have := (List.pairwise_iff_getElem.mp h) k (k + i) hk (by omega) (by omega); omega
theorem filter_drop {row : List Int} (h : row.Pairwise (· < ·)) {k : Nat} (hk : k < row.length) : row.filter (fun v => decide (row[k] ≤ v)) = row.drop k := by
  obtain ⟨z, hz⟩ : ∃ z, z = row[k] := ⟨_, rfl⟩
  rw [← hz]
  have e := (List.take_append_drop k row)
  conv => lhs; rw [← e]
  rw [List.filter_append]
  have h1 : (row.take k).filter (fun v => decide (z ≤ v)) = [] := by
    rw [List.filter_eq_nil_iff]
    intro v hv hc
    obtain ⟨i, hi, rfl⟩ := List.getElem_of_mem hv
    rw [List.length_take] at hi
    have := (List.pairwise_iff_getElem.mp h) i k (by omega) hk (by omega)
    rw [List.getElem_take] at hc
    have hc : z ≤ row[i] := of_decide_eq_true hc
    omega
  have h2 : (row.drop k).filter (fun v => decide (z ≤ v)) = row.drop k := by
    rw [List.filter_eq_self]
    intro v hv
    rw [hz]
    exact decide_eq_true ((ge_drop h hk (List.mem_of_mem_drop hv)).mpr hv)
  rw [h1, h2]; rfl
theorem rest_av {vs : List Int} (nd : vs.Nodup) {k : Nat} (t : ThrP (isort vs) k) {least : Int} (hl : (isort vs)[k]? = some least) : AV (vs.filter fun v => decide (least ≤ v)) := by
  obtain ⟨hk, hs, _⟩ := t
  rw [List.getElem?_eq_getElem hk] at hl
  cases hl
  have st := isort_strict nd
  have p : (vs.filter fun v => decide ((isort vs)[k] ≤ v)).Perm ((isort vs).drop k) := by
    rw [← filter_drop st hk]
    exact ((isort_perm vs).symm).filter _
  rw [av_perm p]
  exact (rs_av (st.sublist (List.drop_sublist _ _))).mp hs
theorem below_av {vs : List Int} (nd : vs.Nodup) {k : Nat} (t : ThrP (isort vs) k) {least m : Int} (hl : (isort vs)[k]? = some least) (hm : m ∈ vs.filter fun v => decide (v < least)) (hx : ∀ x ∈ vs.filter (fun v => decide (v < least)), x ≤ m) : ¬ AV (m :: vs.filter fun v => decide (least ≤ v)) := by
  obtain ⟨hk, _, hc⟩ := t
  rw [List.getElem?_eq_getElem hk] at hl
  cases hl
  have st := isort_strict nd
  have hm' := List.mem_filter.mp hm
  have hlt : m < (isort vs)[k] := of_decide_eq_true hm'.2
  obtain ⟨i, hi, ei⟩ := List.getElem_of_mem ((isort_perm vs).mem_iff.mpr hm'.1)
  have hik : i < k := by
    rcases Nat.lt_trichotomy i k with h | h | h
    · exact h
    · subst h; omega
    · have := (List.pairwise_iff_getElem.mp st) k i hk hi h; omega
  have em : m = (isort vs)[k - 1] := by
    have h1 := hx (isort vs)[k - 1] (List.mem_filter.mpr ⟨(isort_perm vs).mem_iff.mp (List.getElem_mem _), decide_eq_true ((List.pairwise_iff_getElem.mp st) (k - 1) k (by omega) hk (by omega))⟩)
    by_cases h : i = k - 1
    · subst h; exact ei.symm
    · have := (List.pairwise_iff_getElem.mp st) i (k - 1) hi (by omega) (by omega); omega
  intro av
  rcases hc with hc | hc
  · omega
  · refine hc ?_
    rw [← em]
    exact av m List.mem_cons_self _ (List.mem_cons_of_mem _ (List.mem_filter.mpr ⟨(isort_perm vs).mem_iff.mp (List.getElem_mem hk), decide_eq_true (Int.le_refl _)⟩)) hlt

/-! ### lists and tuples of the same -/
def vD : Bool → List D → D
  | true, ds => .tup ds
  | false, ds => .lst ds
theorem lay_up {n m : Nat} {d : D} (h : lay n d) (hnm : n ≤ m) : lay m d := ⟨h.1, Nat.le_trans h.2 hnm⟩
theorem lay_row (r : List Int) : lay 2 (rowD r) := lay_tup (lay_map fun x _ => lay_int x)
theorem lay_pair {x : NR} (h : chs (nm x)) : lay 3 (pairN x) := lay_tup fun d hd => by
  rcases List.mem_cons.mp hd with rfl | hd
  · exact lay_row _
  · rw [List.mem_singleton.mp hd]; exact lay_up (lay_str h) (by decide)
theorem alike_ints : ∀ x y : List Int, PySem.W.alikeAll (pys (x.map .int)) (pys (y.map .int)) = true
  | [], _ => by simp [pys, PySem.W.alikeAll]
  | _ :: _, [] => by simp [pys, PySem.W.alikeAll]
  | a :: x, b :: y => by simp [pys, PySem.W.alikeAll, D.py, PySem.W.alike, alike_ints x y]
theorem srt_pairs {N : List NR} (h : ∀ x ∈ N, chs (nm x)) : Srt (N.map pairN) := by
  refine ⟨fun d hd => ?_, ?_, .inl fun d hd => ?_⟩
  · obtain ⟨x, hx, rfl⟩ := List.mem_map.mp hd
    exact (lay_pair (h x hx)).shp
  · rw [List.map_map]
    exact PySem.W.AllAlike.of fun x y => by simp [pairN, rowD, D.py, pys, PySem.W.alike, PySem.W.alikeAll, alike_ints]
  · obtain ⟨e, he, rfl⟩ := List.mem_map.mp hd
    obtain ⟨x, _, rfl⟩ := List.mem_map.mp he
    exact ⟨_, _, by unfold pairN; rw [D.py, pys]⟩
def NOk (N : List NR) : Prop := N.length ≤ 1000 ∧ ∀ y ∈ N, KsOk y.1 y.2 ∧ RowOk y.2
theorem nm_chs {N : List NR} (h : NOk N) : ∀ x ∈ N, chs (nm x) := fun x hx => name_chs (h.2 x hx).2
def nD (x : NR) : D := .str (nm x)
theorem nD_map (N : List NR) : (N.map nD) = (N.map nm).map D.str := by rw [List.map_map]; rfl
/-! ### the text -/
def topS (i : Nat) : Stmt := PySem.Challenge.pw_textnumbers_k04_whole_numbers_that_agree.main.body.getD i (.Pass ⟨0, 0, 0, 0⟩)
abbrev s_numbers : Stmt := topS 1
theorem sc_numbers : FnScope ["name", "part"] ["name"] (defScope s_numbers) := ⟨rfl, rfl, rfl, by decide +kernel, rfl, by decide +kernel, by decide +kernel⟩
abbrev s_by_number : Stmt := topS 3
theorem sc_by_number : FnScope ["names", "row", "name"] ["names"] (defScope s_by_number) := ⟨rfl, rfl, rfl, by decide +kernel, rfl, by decide +kernel, by decide +kernel⟩
abbrev s_by_text : Stmt := topS 4
theorem sc_by_text : FnScope ["names"] ["names"] (defScope s_by_text) := ⟨rfl, rfl, rfl, by decide +kernel, rfl, by decide +kernel, by decide +kernel⟩
abbrev s_agree : Stmt := topS 5
theorem sc_agree : FnScope ["names"] ["names"] (defScope s_agree) := ⟨rfl, rfl, rfl, by decide +kernel, rfl, by decide +kernel, by decide +kernel⟩
abbrev s_is_rising : Stmt := topS 7
theorem sc_is_rising : FnScope ["texts", "one", "other"] ["texts"] (defScope s_is_rising) := ⟨rfl, rfl, rfl, by decide +kernel, rfl, by decide +kernel, by decide +kernel⟩
abbrev s_is_agreeing : Stmt := topS 8
theorem sc_is_agreeing : FnScope ["values", "value"] ["values"] (defScope s_is_agreeing) := ⟨rfl, rfl, rfl, by decide +kernel, rfl, by decide +kernel, by decide +kernel⟩
abbrev s_threshold : Stmt := topS 10
theorem sc_threshold : FnScope ["values", "row", "at"] ["values"] (defScope s_threshold) := ⟨rfl, rfl, rfl, by decide +kernel, rfl, by decide +kernel, by decide +kernel⟩
abbrev s__law_draw : Stmt := topS 12
theorem sc__law_draw : FnScope ["tape", "many", "prime", "cell", "found"] ["tape", "many"] (defScope s__law_draw) := ⟨rfl, rfl, rfl, by decide +kernel, rfl, by decide +kernel, by decide +kernel⟩
abbrev s__law_like : Stmt := topS 13
theorem sc__law_like : FnScope ["one", "two", "k"] ["one", "two"] (defScope s__law_like) := ⟨rfl, rfl, rfl, by decide +kernel, rfl, by decide +kernel, by decide +kernel⟩
abbrev s__law_number : Stmt := topS 14
theorem sc__law_number : FnScope ["tape", "some"] ["tape"] (defScope s__law_number) := ⟨rfl, rfl, rfl, by decide +kernel, rfl, by decide +kernel, by decide +kernel⟩
abbrev s__law_row : Stmt := topS 15
theorem sc__law_row : FnScope ["tape", "wide", "found", "k"] ["tape", "wide"] (defScope s__law_row) := ⟨rfl, rfl, rfl, by decide +kernel, rfl, by decide +kernel, by decide +kernel⟩
abbrev s__law_rows : Stmt := topS 16
theorem sc__law_rows : FnScope ["tape", "most", "wide", "found", "k", "row"] ["tape", "most", "wide"] (defScope s__law_rows) := ⟨rfl, rfl, rfl, by decide +kernel, rfl, by decide +kernel, by decide +kernel⟩
abbrev s__law_write : Stmt := topS 17
theorem sc__law_write : FnScope ["row", "zeros", "parts", "at", "number"] ["row", "zeros"] (defScope s__law_write) := ⟨rfl, rfl, rfl, by decide +kernel, rfl, by decide +kernel, by decide +kernel⟩
abbrev s__law_plain : Stmt := topS 18
theorem sc__law_plain : FnScope ["rows", "row"] ["rows"] (defScope s__law_plain) := ⟨rfl, rfl, rfl, by decide +kernel, rfl, by decide +kernel, by decide +kernel⟩
abbrev s__law_singles : Stmt := topS 19
theorem sc__law_singles : FnScope ["tape", "most", "found", "k", "number"] ["tape", "most"] (defScope s__law_singles) := ⟨rfl, rfl, rfl, by decide +kernel, rfl, by decide +kernel, by decide +kernel⟩
abbrev s__law_least : Stmt := topS 20
theorem sc__law_least : FnScope ["values", "value", "texts", "other"] ["values"] (defScope s__law_least) := ⟨rfl, rfl, rfl, by decide +kernel, rfl, by decide +kernel, by decide +kernel⟩
abbrev s__law_rule : Stmt := topS 21
theorem sc__law_rule : FnScope ["values", "one", "other"] ["values"] (defScope s__law_rule) := ⟨rfl, rfl, rfl, by decide +kernel, rfl, by decide +kernel, by decide +kernel⟩
abbrev s__law_all_agree : Stmt := topS 22
theorem sc__law_all_agree : FnScope ["rows", "some", "first", "row"] ["rows"] (defScope s__law_all_agree) := ⟨rfl, rfl, rfl, by decide +kernel, rfl, by decide +kernel, by decide +kernel⟩
abbrev s_law : Stmt := topS 23
theorem sc_law : FnScope ["script", "tape", "turn", "values", "least", "rest", "below", "rows", "value"] ["script"] (defScope s_law) := ⟨rfl, rfl, rfl, by decide +kernel, rfl, by decide +kernel, by decide +kernel⟩
structure Bl (mg : Str → Option Value) : Prop where
  b_all : mg "all" = none
  b_bool : mg "bool" = none
  b_enumerate : mg "enumerate" = none
  b_int : mg "int" = none
  b_isinstance : mg "isinstance" = none
  b_len : mg "len" = none
  b_list : mg "list" = none
  b_max : mg "max" = none
  b_range : mg "range" = none
  b_set : mg "set" = none
  b_sorted : mg "sorted" = none
  b_str : mg "str" = none
  b_tuple : mg "tuple" = none
  b_zip : mg "zip" = none
section
variable {P : Program} {w : World} {K : PySem.W.Frag} {mg : Str → Option Value} {base : Heap}
def sp_numbers : DSp := SP (fun x : List Nat × List Int => [.str (nameL x.1 x.2)]) (fun x => KsOk x.1 x.2 ∧ RowOk x.2) (fun x r => r = .fr (.tup (x.2.map .int)))
def sp_by_number : DSp := SP (fun x : Bool × List NR => [vD x.1 (x.2.map nD)]) (fun x => NOk x.2) (fun x r => r = .ow ((srtN x.2).map nD))
def sp_by_text : DSp := SP (fun x : Bool × List NR => [vD x.1 (x.2.map nD)]) (fun x => NOk x.2) (fun x r => r = .ow ((ssort (x.2.map nm)).map .str))
def sp_agree : DSp := SP (fun x : Bool × List NR => [vD x.1 (x.2.map nD)]) (fun x => NOk x.2) (fun x r => r = .fr (.bl (decide ((srtN x.2).map nm = ssort (x.2.map nm)))))
def sp_is_rising : DSp := SP (fun ls : List (List Nat) => [.lst (ls.map .str)]) (fun ls => True) (fun ls r => r = .fr (.bl (risingL ls)))
def sp_is_agreeing : DSp := SP (fun vs : List Int => [.tup (vs.map .int)]) (fun vs => ∀ n ∈ vs, Num n) (fun vs r => r = .fr (.bl (risingL ((isort vs).map istr))))
def sp_threshold : DSp := SP (fun vs : List Int => [.tup (vs.map .int)]) (fun vs => vs ≠ [] ∧ vs.length ≤ 1000 ∧ ∀ n ∈ vs, Num n) (fun vs r => ∃ k n, r = .fr (.int n) ∧ ThrP (isort vs) k ∧ (isort vs)[k]? = some n)
def sp__law_like (n : Nat) : DSp := SP (fun x : D × D => [x.1, x.2]) (fun x => plain n x.1 = true ∧ plain n x.2 = true) (fun x r => ∃ b : Bool, r = .fr (.bl b) ∧ (b = true ↔ x.1 = x.2))
def sp__law_number : DSp := SP (fun _ : Unit => [.tape]) (fun _ => True) (fun _ r => ∃ n : Int, r = .fr (.int n) ∧ 0 < n ∧ n ≤ 99999999)
def sp__law_row : DSp := SP (fun w : Int => [.tape, .int w]) (fun w => 1 ≤ w ∧ w ≤ 4) (fun w r => ∃ row, r = .fr (.tup (row.map .int)) ∧ RowOk row ∧ (row.length : Int) ≤ w)
theorem rows_nil (rows : List (List Int)) : D.eqv (.lst (rows.map rowD)) (.lst []) = decide (rows = []) := by
  rw [eqv_lst]
  cases rows with
  | nil => simp [eqvs_nil]
  | cons x l => simp [eqvs, pys, PyData.eqvAll]
theorem rows_shp (rows : List (List Int)) : D.shp (.lst (rows.map rowD)) := (lay_lst (lay_map fun x _ => lay_row x)).shp
theorem nil_shp' : D.shp (.lst []) := rows_shp []
theorem any_row (r : List Int) (rows : List (List Int)) : ((rows.map rowD).any fun z => D.eqv z (rowD r)) = decide (r ∈ rows) := by
  rw [any_map rowD_inj r rows]; congr 1 <;> simp
def sp__law_rows : DSp := SP (fun x : Int × Int => [.tape, .int x.1, .int x.2]) (fun x => 0 ≤ x.1 ∧ x.1 ≤ 100 ∧ 1 ≤ x.2 ∧ x.2 ≤ 4) (fun x r => ∃ rows : List (List Int), r = .ow (rows.map rowD) ∧ rows.Nodup ∧ (rows.length : Int) ≤ x.1 ∧ ∀ row ∈ rows, RowOk row)
def sp__law_write : DSp := SP (fun x : List Int × List Nat => [.tup (x.1.map .int), .lst (x.2.map fun (k : Nat) => .int (k : Int))]) (fun x => RowOk x.1 ∧ x.2 ≠ [] ∧ x.2.length ≤ 10 ∧ ∀ k ∈ x.2, k ≤ 100)
  (fun x r => ∃ ks, KsOk ks x.1 ∧ (x.2 = [0] → ∀ k ∈ ks, k = 0) ∧ r = .fr (.str (nameL ks x.1)))
def sp__law_plain : DSp := SP (fun rows : List (List Int) => [.lst (rows.map rowD)]) (fun rows => rows.length ≤ 1000 ∧ ∀ r ∈ rows, RowOk r) (fun rows r => r = .fr (.tup ((rows.map zrow).map nD)))
def sp__law_singles : DSp := SP (fun m : Int => [.tape, .int m]) (fun m => 0 ≤ m ∧ m ≤ 1000) (fun m r => ∃ ns : List Int, r = .fr (.tup (ns.map .int)) ∧ ns.length ≤ m.toNat ∧ ns.Nodup ∧ ∀ n ∈ ns, 0 < n ∧ n ≤ 99999999)
def sp__law_least : DSp := SP (fun vs : List Int => [.tup (vs.map .int)]) (fun vs => vs ≠ [] ∧ vs.Nodup ∧ vs.length ≤ 1000 ∧ ∀ n ∈ vs, Num n) (fun vs r => ∃ k n, r = .fr (.int n) ∧ ThrP (isort vs) k ∧ (isort vs)[k]? = some n)
def sp__law_rule : DSp := SP (fun x : Bool × List Int => [vD x.1 (x.2.map .int)]) (fun x => ∀ n ∈ x.2, PosI n) (fun x r => ∃ b : Bool, r = .fr (.bl b) ∧ (b = true ↔ AV x.2))
def sp__law_all_agree (n : Nat) : DSp := SP (fun rows : List (List Int) => [.lst (rows.map rowD)]) (fun rows => 0 < n ∧ rows.length ≤ 50 ∧ ∀ r ∈ rows, r.length < n ∧ PosR r) (fun rows r => ∃ b : Bool, r = .fr (.bl b) ∧ (b = true ↔ AG rows))
theorem cal__law_draw {f : Addr} {fd : FuncData} {k : Nat} (F : Fun K "_law_draw" "_law_draw" s__law_draw f fd) (b : Binds K fd ["tape", "many"] []) (m : mg "_law_draw" = some (.ref f)) (kp : PySem.W.keepIn K (.ref f) = true) (B : Bl mg) : Cal P w K mg base (k + 1) "_law_draw" ["tape", "many"] f fd spDraw := by
  refine ⟨ok_draw F sc__law_draw fun cdv A outer s H E hr => ?_, spDraw_mono, m, kp, b⟩
  have nd := sc__law_draw.nd
  exact (pss_cons (ps_set (i := 2) nd rfl (.inl rfl) pe_int)
      (pss_cons (ps_if (pt_cmpR op_lt (pe_ix ix_list (pv 0) pe_int (fun _ _ => rfl)) (pv 1) (nomark _)) (pss_cons (ps_set (i := 3) nd rfl (.inl rfl) pe_int)
      (pss_cons (ps_if (pt_cmpR op_gt (pe_callB call_len_seq (by rfl) B.b_len PySem.boot_len (pa_cons (pe_ix ix_list (pv 0) pe_int (fun _ _ => rfl)) pa_nil)) pe_int (nomark _)) (pss_one (ps_set (i := 3) nd rfl (.inl rfl) (pe_ix ix_list (pe_ix ix_list (pv 0) pe_int (fun _ _ => rfl)) (pe_op op_mod (pe_ix ix_list (pv 0) pe_int (fun _ _ => rfl)) (pe_callB call_len_seq (by rfl) B.b_len PySem.boot_len (pa_cons (pe_ix ix_list (pv 0) pe_int (fun _ _ => rfl)) pa_nil))) (fun _ _ => rfl)))) pss_nil)
      (pss_cons (ps_if (PW.pt (pw_or (pt_cmpR op_ge (pe_ix ix_list (pv 0) pe_int (fun _ _ => rfl)) (pe_callB call_len_seq (by rfl) B.b_len PySem.boot_len (pa_cons (pe_ix ix_list (pv 0) pe_int (fun _ _ => rfl)) pa_nil)) (nomark _)) (pw_or1 (pt_cmpR op_lt (pv 3) (pe_op op_pow pe_int pe_int) (nomark _))))) (pss_cons (ps_set (i := 3) nd rfl (.inl rfl) (pe_op op_mod (pe_op op_add (pv 3) (pe_op op_mul pe_int (pe_ix ix_list (pv 0) pe_int (fun _ _ => rfl)))) (pv 2)))
      (pss_cons (ps_set (i := 3) nd rfl (.inl rfl) (pe_op op_mod (pe_op op_add (pe_op op_add (pe_op op_mul (pv 3) (pv 3)) (pe_op op_mul pe_int (pv 3))) pe_int) (pv 2)))
      (pss_one (ps_set (i := 3) nd rfl (.inl rfl) (pe_op op_mod (pe_op op_add (pe_op op_mul (pv 3) (pv 3)) pe_int) (pv 2)))))) pss_nil)
      (pss_cons (ps_asg (pe_op op_add (pe_ix ix_list (pv 0) pe_int (fun _ _ => rfl)) pe_int) (pg_sub (pv 0) pe_int set_list))
      (pss_one (ps_asg (pv 3) (pg_sub (pv 0) pe_int set_list))))))) pss_nil)
      (pss_cons (ps_set (i := 4) nd rfl (.inl rfl) (pe_op op_mod (pe_ix ix_list (pv 0) pe_int (fun _ _ => rfl)) (pv 1)))
      (pss_cons (ps_asg (pe_op op_fdivW (pe_ix ix_list (pv 0) pe_int (fun _ _ => rfl)) (pv 1)) (pg_sub (pv 0) pe_int set_list))
      (pss_one (ps_ret (pv 4)))))))
theorem cal_numbers {f : Addr} {fd : FuncData} {k : Nat} (F : Fun K "numbers" "numbers" s_numbers f fd) (b : Binds K fd ["name"] []) (m : mg "numbers" = some (.ref f)) (kp : PySem.W.keepIn K (.ref f) = true) (B : Bl mg) : Cal P w K mg base (k + 1) "numbers" ["name"] f fd sp_numbers := by
  refine ⟨fn_dl F sc_numbers (fun ds Q h => ?len) fun cdv A outer s H E hr => ?body, ?mono, m, kp, b⟩
  case len =>
    obtain ⟨x, rfl, -⟩ := h; rfl
  case mono =>
    exact SP_mono
  case body =>
    have hu64 := hr.units; have hu100 : (A.deeper (envOfC "numbers" (defScope s_numbers) s.heap.objs.size f cdv)).units + 100 < cLine := by have := hr.un; omega
    have hu65 : (A.deeper (envOfC "numbers" (defScope s_numbers) s.heap.objs.size f cdv)).units + 65 < cLine := by omega
    have hu1 : (A.deeper (envOfC "numbers" (defScope s_numbers) s.heap.objs.size f cdv)).units + 1 < cLine := by omega
    refine ⟨_, (qss_one (qs_ret (qe_callTy cd_tuple (by rfl) B.b_tuple bt_tuple (qa_cons (qe_lc [("part", 1)] rfl sc_numbers.nd (qi_seq (qe_split (qe_nm (i := 0)) (qe_str [45]))) (blkOk_by (by rfl)) (fun s H C cl fp => (qg_nm (i := 1) sc_numbers.nd)) (fun s H C cl fp => qts_nil) (fun s H C cl fp => (qe_callTy cd_int (by rfl) B.b_int bt_int (qa_cons (qe_bo (i := 1)) qa_nil)))) qa_nil)))), fun ds Q h => ?_⟩
    obtain ⟨⟨ks, row⟩, rfl, ⟨hk, g⟩, q⟩ := h
    show (_ : TSd) (retD Q) [some (.fr (.str (nameL ks row))), none]
    have hl := nameL_len hk g
    dsimp only at hl hk g
    try simp only [e_dSeq, e_dNext, e_dSet, e_dRet, e_dDrop, e_dIfS, e_dTgS, e_dC, e_dBin, e_dTst, e_dChn, e_dAnd, e_dOr, e_dNot, e_dAndV, e_dOrV, e_dNotV, e_dIf, e_dNil, e_dCons, e_dLst, e_dTup, e_dCB, e_dCall, e_dYes, e_dApp, e_dAug, e_dAugM, e_dIsi, e_dIsi2, e_dSl, e_dNoP, e_dPart, e_dM1, e_dFor, e_dLC, e_dIt, e_dRng1, e_dZipM, e_dRngN, e_dRev, e_dPar0, w_maxT, e_dSrtSet, e_dItS, e_dPar2, e_dPar3, e_par2, e_par3, e_dCallD, e_dCallK, e_dRng2, e_dEnum, e_dZip, nm0f, nm0o, nm0d, bo0f, bo0o, bo0d, mv0f, mv0o, mv0d, nm1f, nm1o, nm1d, bo1f, bo1o, bo1d, mv1f, mv1o, mv1d, nm2f, nm2o, nm2d, bo2f, bo2o, bo2d, mv2f, mv2o, mv2d, nm3f, nm3o, nm3d, bo3f, bo3o, bo3d, mv3f, mv3o, mv3d, nm4f, nm4o, nm4d, bo4f, bo4o, bo4d, mv4f, mv4o, mv4d, nm5f, nm5o, nm5d, bo5f, bo5o, bo5d, mv5f, mv5o, mv5d, nm6f, nm6o, nm6d, bo6f, bo6o, bo6d, mv6f, mv6o, mv6d, nm7f, nm7o, nm7d, bo7f, bo7o, bo7d, mv7f, mv7o, mv7d, nm8f, nm8o, nm8d, bo8f, bo8o, bo8d, mv8f, mv8o, mv8d, nm9f, nm9o, nm9d, bo9f, bo9o, bo9d, mv9f, mv9o, mv9d, nm10f, nm10o, nm10d, bo10f, bo10o, bo10d, mv10f, mv10o, mv10d, nm11f, nm11o, nm11d, bo11f, bo11o, bo11d, mv11f, mv11o, mv11d, nm12f, nm12o, nm12d, bo12f, bo12o, bo12d, mv12f, mv12o, mv12d, nm13f, nm13o, nm13d, bo13f, bo13o, bo13d, mv13f, mv13o, mv13d, nm14f, nm14o, nm14d, bo14f, bo14o, bo14d, mv14f, mv14o, mv14d, nm15f, nm15o, nm15d, bo15f, bo15o, bo15d, mv15f, mv15o, mv15d, nm16f, bo16f, mv16f, nm16o, bo16o, mv16o, nm16d, bo16d, mv16d, nm17f, bo17f, mv17f, nm17o, bo17o, mv17o, nm17d, bo17d, mv17d, nm18f, bo18f, mv18f, nm18o, bo18o, mv18o, nm18d, bo18d, mv18d, nm19f, bo19f, mv19f, nm19o, bo19o, mv19o, nm19d, bo19d, mv19d, nm20f, bo20f, mv20f, nm20o, bo20o, mv20o, nm20d, bo20d, mv20d, nm21f, bo21f, mv21f, nm21o, bo21o, mv21o, nm21d, bo21d, mv21d, nm22f, bo22f, mv22f, nm22o, bo22o, mv22o, nm22d, bo22d, mv22d, nm23f, bo23f, mv23f, nm23o, bo23o, mv23o, nm23d, bo23d, mv23d, d_fr, fz_fr, isFr_fr, free_fr, d_ow, fz_ow, isFr_ow, free_ow, d_od, fz_od, isFr_od, free_od, d_bo, fz_bo, isFr_bo, free_bo, d_bd, fz_bd, isFr_bd, free_bd, w_add_i, w_add_s, w_add_l, w_add_t, w_sub, w_mul_i, w_mul_s, w_mul_l, w_mul_t, w_mod, w_fdv, w_pow, w_le_i, w_gt_i, w_ge_i, w_le_s, w_gt_s, w_ge_s, w_lt_i, w_lt_s, w_eq, w_ne, w_is_b, w_isN_b, w_in_l, w_nin_l, w_ix_l, w_ix_t, w_ix_s, w_sl_l, w_sl_t, w_sl_s, w_len_l, w_len_t, w_len_s, w_list_l, w_list_t, w_tuple_l, w_tuple_t, w_str, w_int_i, w_int_b, w_int_s, w_max2, w_max_l, w_min2, w_min_l, w_all, w_any, w_sorted_l, w_sorted_t, w_split, w_join, w_in_t, w_nin_t, w_in_ts, w_nin_ts, e_draw, e_cok_int, e_cok_bl, e_cok_str, List.map_cons, List.map_nil, List.all_cons, List.all_nil, List.length_cons, List.length_nil, List.getElem?_cons_zero, List.getElem?_cons_succ, List.set_cons_zero, List.set_cons_succ, retD, Tg.put, puts, wipeE, true_and, and_true, and_self, Bool.and_true, Bool.true_and, exists_eq_left', exists_eq_left, R.fr.injEq, R.ow.injEq, Option.some.injEq, D.bl.injEq, D.int.injEq, D.str.injEq, D.lst.injEq, D.tup.injEq, decide_eq_true_eq, if_true, exists_eq', Bool.not_true, Bool.not_false, ite_true, ite_false, if_false, Bool.false_eq_true]
    refine ⟨by simp, by rw [sizeLine_eq]; omega, ?_⟩
    rw [name_split hk g]
    refine comp_mapF (fun l => D.int (NumText.digitsVal l)) rfl (fun l hm P hP => ?_) ?_
    · refine ⟨_, rfl, ?_⟩
      try simp only [e_dSeq, e_dNext, e_dSet, e_dRet, e_dDrop, e_dIfS, e_dTgS, e_dC, e_dBin, e_dTst, e_dChn, e_dAnd, e_dOr, e_dNot, e_dAndV, e_dOrV, e_dNotV, e_dIf, e_dNil, e_dCons, e_dLst, e_dTup, e_dCB, e_dCall, e_dYes, e_dApp, e_dAug, e_dAugM, e_dIsi, e_dIsi2, e_dSl, e_dNoP, e_dPart, e_dM1, e_dFor, e_dLC, e_dIt, e_dRng1, e_dZipM, e_dRngN, e_dRev, e_dPar0, w_maxT, e_dSrtSet, e_dItS, e_dPar2, e_dPar3, e_par2, e_par3, e_dCallD, e_dCallK, e_dRng2, e_dEnum, e_dZip, nm0f, nm0o, nm0d, bo0f, bo0o, bo0d, mv0f, mv0o, mv0d, nm1f, nm1o, nm1d, bo1f, bo1o, bo1d, mv1f, mv1o, mv1d, nm2f, nm2o, nm2d, bo2f, bo2o, bo2d, mv2f, mv2o, mv2d, nm3f, nm3o, nm3d, bo3f, bo3o, bo3d, mv3f, mv3o, mv3d, nm4f, nm4o, nm4d, bo4f, bo4o, bo4d, mv4f, mv4o, mv4d, nm5f, nm5o, nm5d, bo5f, bo5o, bo5d, mv5f, mv5o, mv5d, nm6f, nm6o, nm6d, bo6f, bo6o, bo6d, mv6f, mv6o, mv6d, nm7f, nm7o, nm7d, bo7f, bo7o, bo7d, mv7f, mv7o, mv7d, nm8f, nm8o, nm8d, bo8f, bo8o, bo8d, mv8f, mv8o, mv8d, nm9f, nm9o, nm9d, bo9f, bo9o, bo9d, mv9f, mv9o, mv9d, nm10f, nm10o, nm10d, bo10f, bo10o, bo10d, mv10f, mv10o, mv10d, nm11f, nm11o, nm11d, bo11f, bo11o, bo11d, mv11f, mv11o, mv11d, nm12f, nm12o, nm12d, bo12f, bo12o, bo12d, mv12f, mv12o, mv12d, nm13f, nm13o, nm13d, bo13f, bo13o, bo13d, mv13f, mv13o, mv13d, nm14f, nm14o, nm14d, bo14f, bo14o, bo14d, mv14f, mv14o, mv14d, nm15f, nm15o, nm15d, bo15f, bo15o, bo15d, mv15f, mv15o, mv15d, nm16f, bo16f, mv16f, nm16o, bo16o, mv16o, nm16d, bo16d, mv16d, nm17f, bo17f, mv17f, nm17o, bo17o, mv17o, nm17d, bo17d, mv17d, nm18f, bo18f, mv18f, nm18o, bo18o, mv18o, nm18d, bo18d, mv18d, nm19f, bo19f, mv19f, nm19o, bo19o, mv19o, nm19d, bo19d, mv19d, nm20f, bo20f, mv20f, nm20o, bo20o, mv20o, nm20d, bo20d, mv20d, nm21f, bo21f, mv21f, nm21o, bo21o, mv21o, nm21d, bo21d, mv21d, nm22f, bo22f, mv22f, nm22o, bo22o, mv22o, nm22d, bo22d, mv22d, nm23f, bo23f, mv23f, nm23o, bo23o, mv23o, nm23d, bo23d, mv23d, d_fr, fz_fr, isFr_fr, free_fr, d_ow, fz_ow, isFr_ow, free_ow, d_od, fz_od, isFr_od, free_od, d_bo, fz_bo, isFr_bo, free_bo, d_bd, fz_bd, isFr_bd, free_bd, w_add_i, w_add_s, w_add_l, w_add_t, w_sub, w_mul_i, w_mul_s, w_mul_l, w_mul_t, w_mod, w_fdv, w_pow, w_le_i, w_gt_i, w_ge_i, w_le_s, w_gt_s, w_ge_s, w_lt_i, w_lt_s, w_eq, w_ne, w_is_b, w_isN_b, w_in_l, w_nin_l, w_ix_l, w_ix_t, w_ix_s, w_sl_l, w_sl_t, w_sl_s, w_len_l, w_len_t, w_len_s, w_list_l, w_list_t, w_tuple_l, w_tuple_t, w_str, w_int_i, w_int_b, w_int_s, w_max2, w_max_l, w_min2, w_min_l, w_all, w_any, w_sorted_l, w_sorted_t, w_split, w_join, w_in_t, w_nin_t, w_in_ts, w_nin_ts, e_draw, e_cok_int, e_cok_bl, e_cok_str, List.map_cons, List.map_nil, List.all_cons, List.all_nil, List.length_cons, List.length_nil, List.getElem?_cons_zero, List.getElem?_cons_succ, List.set_cons_zero, List.set_cons_succ, retD, Tg.put, puts, wipeE, true_and, and_true, and_self, Bool.and_true, Bool.true_and, exists_eq_left', exists_eq_left, R.fr.injEq, R.ow.injEq, Option.some.injEq, D.bl.injEq, D.int.injEq, D.str.injEq, D.lst.injEq, D.tup.injEq, decide_eq_true_eq, if_true, exists_eq', Bool.not_true, Bool.not_false, ite_true, ite_false, if_false, Bool.false_eq_true]
      obtain ⟨k, hk', n, hn, rfl⟩ := nameP_mem l hm
      have hz := zer_len k (g.Num n hn)
      have hk2 := hk.le k hk'
      refine ⟨n, zer_int hk2 (g.Num n hn), by omega, ?_⟩
      rw [zer_val k (g.Num n hn).1] at hP
      exact hP
    rw [nameP_vals hk.len fun n hn => (g.Num n hn).1]
    try simp only [e_dSeq, e_dNext, e_dSet, e_dRet, e_dDrop, e_dIfS, e_dTgS, e_dC, e_dBin, e_dTst, e_dChn, e_dAnd, e_dOr, e_dNot, e_dAndV, e_dOrV, e_dNotV, e_dIf, e_dNil, e_dCons, e_dLst, e_dTup, e_dCB, e_dCall, e_dYes, e_dApp, e_dAug, e_dAugM, e_dIsi, e_dIsi2, e_dSl, e_dNoP, e_dPart, e_dM1, e_dFor, e_dLC, e_dIt, e_dRng1, e_dZipM, e_dRngN, e_dRev, e_dPar0, w_maxT, e_dSrtSet, e_dItS, e_dPar2, e_dPar3, e_par2, e_par3, e_dCallD, e_dCallK, e_dRng2, e_dEnum, e_dZip, nm0f, nm0o, nm0d, bo0f, bo0o, bo0d, mv0f, mv0o, mv0d, nm1f, nm1o, nm1d, bo1f, bo1o, bo1d, mv1f, mv1o, mv1d, nm2f, nm2o, nm2d, bo2f, bo2o, bo2d, mv2f, mv2o, mv2d, nm3f, nm3o, nm3d, bo3f, bo3o, bo3d, mv3f, mv3o, mv3d, nm4f, nm4o, nm4d, bo4f, bo4o, bo4d, mv4f, mv4o, mv4d, nm5f, nm5o, nm5d, bo5f, bo5o, bo5d, mv5f, mv5o, mv5d, nm6f, nm6o, nm6d, bo6f, bo6o, bo6d, mv6f, mv6o, mv6d, nm7f, nm7o, nm7d, bo7f, bo7o, bo7d, mv7f, mv7o, mv7d, nm8f, nm8o, nm8d, bo8f, bo8o, bo8d, mv8f, mv8o, mv8d, nm9f, nm9o, nm9d, bo9f, bo9o, bo9d, mv9f, mv9o, mv9d, nm10f, nm10o, nm10d, bo10f, bo10o, bo10d, mv10f, mv10o, mv10d, nm11f, nm11o, nm11d, bo11f, bo11o, bo11d, mv11f, mv11o, mv11d, nm12f, nm12o, nm12d, bo12f, bo12o, bo12d, mv12f, mv12o, mv12d, nm13f, nm13o, nm13d, bo13f, bo13o, bo13d, mv13f, mv13o, mv13d, nm14f, nm14o, nm14d, bo14f, bo14o, bo14d, mv14f, mv14o, mv14d, nm15f, nm15o, nm15d, bo15f, bo15o, bo15d, mv15f, mv15o, mv15d, nm16f, bo16f, mv16f, nm16o, bo16o, mv16o, nm16d, bo16d, mv16d, nm17f, bo17f, mv17f, nm17o, bo17o, mv17o, nm17d, bo17d, mv17d, nm18f, bo18f, mv18f, nm18o, bo18o, mv18o, nm18d, bo18d, mv18d, nm19f, bo19f, mv19f, nm19o, bo19o, mv19o, nm19d, bo19d, mv19d, nm20f, bo20f, mv20f, nm20o, bo20o, mv20o, nm20d, bo20d, mv20d, nm21f, bo21f, mv21f, nm21o, bo21o, mv21o, nm21d, bo21d, mv21d, nm22f, bo22f, mv22f, nm22o, bo22o, mv22o, nm22d, bo22d, mv22d, nm23f, bo23f, mv23f, nm23o, bo23o, mv23o, nm23d, bo23d, mv23d, d_fr, fz_fr, isFr_fr, free_fr, d_ow, fz_ow, isFr_ow, free_ow, d_od, fz_od, isFr_od, free_od, d_bo, fz_bo, isFr_bo, free_bo, d_bd, fz_bd, isFr_bd, free_bd, w_add_i, w_add_s, w_add_l, w_add_t, w_sub, w_mul_i, w_mul_s, w_mul_l, w_mul_t, w_mod, w_fdv, w_pow, w_le_i, w_gt_i, w_ge_i, w_le_s, w_gt_s, w_ge_s, w_lt_i, w_lt_s, w_eq, w_ne, w_is_b, w_isN_b, w_in_l, w_nin_l, w_ix_l, w_ix_t, w_ix_s, w_sl_l, w_sl_t, w_sl_s, w_len_l, w_len_t, w_len_s, w_list_l, w_list_t, w_tuple_l, w_tuple_t, w_str, w_int_i, w_int_b, w_int_s, w_max2, w_max_l, w_min2, w_min_l, w_all, w_any, w_sorted_l, w_sorted_t, w_split, w_join, w_in_t, w_nin_t, w_in_ts, w_nin_ts, e_draw, e_cok_int, e_cok_bl, e_cok_str, List.map_cons, List.map_nil, List.all_cons, List.all_nil, List.length_cons, List.length_nil, List.getElem?_cons_zero, List.getElem?_cons_succ, List.set_cons_zero, List.set_cons_succ, retD, Tg.put, puts, wipeE, true_and, and_true, and_self, Bool.and_true, Bool.true_and, exists_eq_left', exists_eq_left, R.fr.injEq, R.ow.injEq, Option.some.injEq, D.bl.injEq, D.int.injEq, D.str.injEq, D.lst.injEq, D.tup.injEq, decide_eq_true_eq, if_true, exists_eq', Bool.not_true, Bool.not_false, ite_true, ite_false, if_false, Bool.false_eq_true]
    exact q _ rfl
theorem cal_by_number {f : Addr} {fd : FuncData} {f_numbers : Addr} {fd_numbers : FuncData} {k : Nat} (F : Fun K "by_number" "by_number" s_by_number f fd) (b : Binds K fd ["names"] []) (m : mg "by_number" = some (.ref f)) (kp : PySem.W.keepIn K (.ref f) = true) (B : Bl mg) (C_numbers : Cal P w K mg base k "numbers" ["name"] f_numbers fd_numbers sp_numbers) : Cal P w K mg base (k + 1) "by_number" ["names"] f fd sp_by_number := by
  refine ⟨fn_dl F sc_by_number (fun ds Q h => ?len) fun cdv A outer s H E hr => ?body, ?mono, m, kp, b⟩
  case len =>
    obtain ⟨x, rfl, -⟩ := h; rfl
  case mono =>
    exact SP_mono
  case body =>
    have hu64 := hr.units; have hu100 : (A.deeper (envOfC "by_number" (defScope s_by_number) s.heap.objs.size f cdv)).units + 100 < cLine := by have := hr.un; omega
    have hu65 : (A.deeper (envOfC "by_number" (defScope s_by_number) s.heap.objs.size f cdv)).units + 65 < cLine := by omega
    have hu1 : (A.deeper (envOfC "by_number" (defScope s_by_number) s.heap.objs.size f cdv)).units + 1 < cLine := by omega
    refine ⟨_, (qss_one (qs_ret (qe_lc [("row", 1), ("name", 2)] rfl sc_by_number.nd (qi_seq (qe_callB (cd_sorted hu100) (by rfl) B.b_sorted bt_sorted (qa_cons (qe_lc [("name", 2)] rfl sc_by_number.nd (qi_seq (qe_nm (i := 0))) (blkOk_by (by rfl)) (fun s H C cl fp => (qg_nm (i := 2) sc_by_number.nd)) (fun s H C cl fp => qts_nil) (fun s H C cl fp => (qe_tup (qa_cons (qe_callC C_numbers hr (by rfl) (qa_cons (qe_nm (i := 2)) qa_nil)) (qa_cons (qe_nm (i := 2)) qa_nil))))) qa_nil))) (blkOk_by (by rfl)) (fun s H C cl fp => (qg_tp (is := [1, 2]) rfl (pgs_cons (pgn (i := 1) sc_by_number.nd) (pgs_cons (pgn (i := 2) sc_by_number.nd) pgs_nil)))) (fun s H C cl fp => qts_nil) (fun s H C cl fp => (qe_nm (i := 2)))))), fun ds Q h => ?_⟩
    obtain ⟨⟨t, N⟩, rfl, ok, q⟩ := h
    dsimp only at ok q
    cases t with
    | true =>
      show (_ : TSd) (retD Q) [some (.fr (.tup (N.map nD))), none, none]
      try simp only [e_dSeq, e_dNext, e_dSet, e_dRet, e_dDrop, e_dIfS, e_dTgS, e_dC, e_dBin, e_dTst, e_dChn, e_dAnd, e_dOr, e_dNot, e_dAndV, e_dOrV, e_dNotV, e_dIf, e_dNil, e_dCons, e_dLst, e_dTup, e_dCB, e_dCall, e_dYes, e_dApp, e_dAug, e_dAugM, e_dIsi, e_dIsi2, e_dSl, e_dNoP, e_dPart, e_dM1, e_dFor, e_dLC, e_dIt, e_dRng1, e_dZipM, e_dRngN, e_dRev, e_dPar0, w_maxT, e_dSrtSet, e_dItS, e_dPar2, e_dPar3, e_par2, e_par3, e_dCallD, e_dCallK, e_dRng2, e_dEnum, e_dZip, nm0f, nm0o, nm0d, bo0f, bo0o, bo0d, mv0f, mv0o, mv0d, nm1f, nm1o, nm1d, bo1f, bo1o, bo1d, mv1f, mv1o, mv1d, nm2f, nm2o, nm2d, bo2f, bo2o, bo2d, mv2f, mv2o, mv2d, nm3f, nm3o, nm3d, bo3f, bo3o, bo3d, mv3f, mv3o, mv3d, nm4f, nm4o, nm4d, bo4f, bo4o, bo4d, mv4f, mv4o, mv4d, nm5f, nm5o, nm5d, bo5f, bo5o, bo5d, mv5f, mv5o, mv5d, nm6f, nm6o, nm6d, bo6f, bo6o, bo6d, mv6f, mv6o, mv6d, nm7f, nm7o, nm7d, bo7f, bo7o, bo7d, mv7f, mv7o, mv7d, nm8f, nm8o, nm8d, bo8f, bo8o, bo8d, mv8f, mv8o, mv8d, nm9f, nm9o, nm9d, bo9f, bo9o, bo9d, mv9f, mv9o, mv9d, nm10f, nm10o, nm10d, bo10f, bo10o, bo10d, mv10f, mv10o, mv10d, nm11f, nm11o, nm11d, bo11f, bo11o, bo11d, mv11f, mv11o, mv11d, nm12f, nm12o, nm12d, bo12f, bo12o, bo12d, mv12f, mv12o, mv12d, nm13f, nm13o, nm13d, bo13f, bo13o, bo13d, mv13f, mv13o, mv13d, nm14f, nm14o, nm14d, bo14f, bo14o, bo14d, mv14f, mv14o, mv14d, nm15f, nm15o, nm15d, bo15f, bo15o, bo15d, mv15f, mv15o, mv15d, nm16f, bo16f, mv16f, nm16o, bo16o, mv16o, nm16d, bo16d, mv16d, nm17f, bo17f, mv17f, nm17o, bo17o, mv17o, nm17d, bo17d, mv17d, nm18f, bo18f, mv18f, nm18o, bo18o, mv18o, nm18d, bo18d, mv18d, nm19f, bo19f, mv19f, nm19o, bo19o, mv19o, nm19d, bo19d, mv19d, nm20f, bo20f, mv20f, nm20o, bo20o, mv20o, nm20d, bo20d, mv20d, nm21f, bo21f, mv21f, nm21o, bo21o, mv21o, nm21d, bo21d, mv21d, nm22f, bo22f, mv22f, nm22o, bo22o, mv22o, nm22d, bo22d, mv22d, nm23f, bo23f, mv23f, nm23o, bo23o, mv23o, nm23d, bo23d, mv23d, d_fr, fz_fr, isFr_fr, free_fr, d_ow, fz_ow, isFr_ow, free_ow, d_od, fz_od, isFr_od, free_od, d_bo, fz_bo, isFr_bo, free_bo, d_bd, fz_bd, isFr_bd, free_bd, w_add_i, w_add_s, w_add_l, w_add_t, w_sub, w_mul_i, w_mul_s, w_mul_l, w_mul_t, w_mod, w_fdv, w_pow, w_le_i, w_gt_i, w_ge_i, w_le_s, w_gt_s, w_ge_s, w_lt_i, w_lt_s, w_eq, w_ne, w_is_b, w_isN_b, w_in_l, w_nin_l, w_ix_l, w_ix_t, w_ix_s, w_sl_l, w_sl_t, w_sl_s, w_len_l, w_len_t, w_len_s, w_list_l, w_list_t, w_tuple_l, w_tuple_t, w_str, w_int_i, w_int_b, w_int_s, w_max2, w_max_l, w_min2, w_min_l, w_all, w_any, w_sorted_l, w_sorted_t, w_split, w_join, w_in_t, w_nin_t, w_in_ts, w_nin_ts, e_draw, e_cok_int, e_cok_bl, e_cok_str, List.map_cons, List.map_nil, List.all_cons, List.all_nil, List.length_cons, List.length_nil, List.getElem?_cons_zero, List.getElem?_cons_succ, List.set_cons_zero, List.set_cons_succ, retD, Tg.put, puts, wipeE, true_and, and_true, and_self, Bool.and_true, Bool.true_and, exists_eq_left', exists_eq_left, R.fr.injEq, R.ow.injEq, Option.some.injEq, D.bl.injEq, D.int.injEq, D.str.injEq, D.lst.injEq, D.tup.injEq, decide_eq_true_eq, if_true, exists_eq', Bool.not_true, Bool.not_false, ite_true, ite_false, if_false, Bool.false_eq_true]
      refine comp_mapF pairN rfl (fun y hy P hP => ?_) ?_
      · refine ⟨_, rfl, ?_⟩
        try simp only [e_dSeq, e_dNext, e_dSet, e_dRet, e_dDrop, e_dIfS, e_dTgS, e_dC, e_dBin, e_dTst, e_dChn, e_dAnd, e_dOr, e_dNot, e_dAndV, e_dOrV, e_dNotV, e_dIf, e_dNil, e_dCons, e_dLst, e_dTup, e_dCB, e_dCall, e_dYes, e_dApp, e_dAug, e_dAugM, e_dIsi, e_dIsi2, e_dSl, e_dNoP, e_dPart, e_dM1, e_dFor, e_dLC, e_dIt, e_dRng1, e_dZipM, e_dRngN, e_dRev, e_dPar0, w_maxT, e_dSrtSet, e_dItS, e_dPar2, e_dPar3, e_par2, e_par3, e_dCallD, e_dCallK, e_dRng2, e_dEnum, e_dZip, nm0f, nm0o, nm0d, bo0f, bo0o, bo0d, mv0f, mv0o, mv0d, nm1f, nm1o, nm1d, bo1f, bo1o, bo1d, mv1f, mv1o, mv1d, nm2f, nm2o, nm2d, bo2f, bo2o, bo2d, mv2f, mv2o, mv2d, nm3f, nm3o, nm3d, bo3f, bo3o, bo3d, mv3f, mv3o, mv3d, nm4f, nm4o, nm4d, bo4f, bo4o, bo4d, mv4f, mv4o, mv4d, nm5f, nm5o, nm5d, bo5f, bo5o, bo5d, mv5f, mv5o, mv5d, nm6f, nm6o, nm6d, bo6f, bo6o, bo6d, mv6f, mv6o, mv6d, nm7f, nm7o, nm7d, bo7f, bo7o, bo7d, mv7f, mv7o, mv7d, nm8f, nm8o, nm8d, bo8f, bo8o, bo8d, mv8f, mv8o, mv8d, nm9f, nm9o, nm9d, bo9f, bo9o, bo9d, mv9f, mv9o, mv9d, nm10f, nm10o, nm10d, bo10f, bo10o, bo10d, mv10f, mv10o, mv10d, nm11f, nm11o, nm11d, bo11f, bo11o, bo11d, mv11f, mv11o, mv11d, nm12f, nm12o, nm12d, bo12f, bo12o, bo12d, mv12f, mv12o, mv12d, nm13f, nm13o, nm13d, bo13f, bo13o, bo13d, mv13f, mv13o, mv13d, nm14f, nm14o, nm14d, bo14f, bo14o, bo14d, mv14f, mv14o, mv14d, nm15f, nm15o, nm15d, bo15f, bo15o, bo15d, mv15f, mv15o, mv15d, nm16f, bo16f, mv16f, nm16o, bo16o, mv16o, nm16d, bo16d, mv16d, nm17f, bo17f, mv17f, nm17o, bo17o, mv17o, nm17d, bo17d, mv17d, nm18f, bo18f, mv18f, nm18o, bo18o, mv18o, nm18d, bo18d, mv18d, nm19f, bo19f, mv19f, nm19o, bo19o, mv19o, nm19d, bo19d, mv19d, nm20f, bo20f, mv20f, nm20o, bo20o, mv20o, nm20d, bo20d, mv20d, nm21f, bo21f, mv21f, nm21o, bo21o, mv21o, nm21d, bo21d, mv21d, nm22f, bo22f, mv22f, nm22o, bo22o, mv22o, nm22d, bo22d, mv22d, nm23f, bo23f, mv23f, nm23o, bo23o, mv23o, nm23d, bo23d, mv23d, d_fr, fz_fr, isFr_fr, free_fr, d_ow, fz_ow, isFr_ow, free_ow, d_od, fz_od, isFr_od, free_od, d_bo, fz_bo, isFr_bo, free_bo, d_bd, fz_bd, isFr_bd, free_bd, w_add_i, w_add_s, w_add_l, w_add_t, w_sub, w_mul_i, w_mul_s, w_mul_l, w_mul_t, w_mod, w_fdv, w_pow, w_le_i, w_gt_i, w_ge_i, w_le_s, w_gt_s, w_ge_s, w_lt_i, w_lt_s, w_eq, w_ne, w_is_b, w_isN_b, w_in_l, w_nin_l, w_ix_l, w_ix_t, w_ix_s, w_sl_l, w_sl_t, w_sl_s, w_len_l, w_len_t, w_len_s, w_list_l, w_list_t, w_tuple_l, w_tuple_t, w_str, w_int_i, w_int_b, w_int_s, w_max2, w_max_l, w_min2, w_min_l, w_all, w_any, w_sorted_l, w_sorted_t, w_split, w_join, w_in_t, w_nin_t, w_in_ts, w_nin_ts, e_draw, e_cok_int, e_cok_bl, e_cok_str, List.map_cons, List.map_nil, List.all_cons, List.all_nil, List.length_cons, List.length_nil, List.getElem?_cons_zero, List.getElem?_cons_succ, List.set_cons_zero, List.set_cons_succ, retD, Tg.put, puts, wipeE, true_and, and_true, and_self, Bool.and_true, Bool.true_and, exists_eq_left', exists_eq_left, R.fr.injEq, R.ow.injEq, Option.some.injEq, D.bl.injEq, D.int.injEq, D.str.injEq, D.lst.injEq, D.tup.injEq, decide_eq_true_eq, if_true, exists_eq', Bool.not_true, Bool.not_false, ite_true, ite_false, if_false, Bool.false_eq_true]
        refine ⟨y, rfl, ok.2 y hy, ?_⟩
        rintro r rfl
        try simp only [e_dSeq, e_dNext, e_dSet, e_dRet, e_dDrop, e_dIfS, e_dTgS, e_dC, e_dBin, e_dTst, e_dChn, e_dAnd, e_dOr, e_dNot, e_dAndV, e_dOrV, e_dNotV, e_dIf, e_dNil, e_dCons, e_dLst, e_dTup, e_dCB, e_dCall, e_dYes, e_dApp, e_dAug, e_dAugM, e_dIsi, e_dIsi2, e_dSl, e_dNoP, e_dPart, e_dM1, e_dFor, e_dLC, e_dIt, e_dRng1, e_dZipM, e_dRngN, e_dRev, e_dPar0, w_maxT, e_dSrtSet, e_dItS, e_dPar2, e_dPar3, e_par2, e_par3, e_dCallD, e_dCallK, e_dRng2, e_dEnum, e_dZip, nm0f, nm0o, nm0d, bo0f, bo0o, bo0d, mv0f, mv0o, mv0d, nm1f, nm1o, nm1d, bo1f, bo1o, bo1d, mv1f, mv1o, mv1d, nm2f, nm2o, nm2d, bo2f, bo2o, bo2d, mv2f, mv2o, mv2d, nm3f, nm3o, nm3d, bo3f, bo3o, bo3d, mv3f, mv3o, mv3d, nm4f, nm4o, nm4d, bo4f, bo4o, bo4d, mv4f, mv4o, mv4d, nm5f, nm5o, nm5d, bo5f, bo5o, bo5d, mv5f, mv5o, mv5d, nm6f, nm6o, nm6d, bo6f, bo6o, bo6d, mv6f, mv6o, mv6d, nm7f, nm7o, nm7d, bo7f, bo7o, bo7d, mv7f, mv7o, mv7d, nm8f, nm8o, nm8d, bo8f, bo8o, bo8d, mv8f, mv8o, mv8d, nm9f, nm9o, nm9d, bo9f, bo9o, bo9d, mv9f, mv9o, mv9d, nm10f, nm10o, nm10d, bo10f, bo10o, bo10d, mv10f, mv10o, mv10d, nm11f, nm11o, nm11d, bo11f, bo11o, bo11d, mv11f, mv11o, mv11d, nm12f, nm12o, nm12d, bo12f, bo12o, bo12d, mv12f, mv12o, mv12d, nm13f, nm13o, nm13d, bo13f, bo13o, bo13d, mv13f, mv13o, mv13d, nm14f, nm14o, nm14d, bo14f, bo14o, bo14d, mv14f, mv14o, mv14d, nm15f, nm15o, nm15d, bo15f, bo15o, bo15d, mv15f, mv15o, mv15d, nm16f, bo16f, mv16f, nm16o, bo16o, mv16o, nm16d, bo16d, mv16d, nm17f, bo17f, mv17f, nm17o, bo17o, mv17o, nm17d, bo17d, mv17d, nm18f, bo18f, mv18f, nm18o, bo18o, mv18o, nm18d, bo18d, mv18d, nm19f, bo19f, mv19f, nm19o, bo19o, mv19o, nm19d, bo19d, mv19d, nm20f, bo20f, mv20f, nm20o, bo20o, mv20o, nm20d, bo20d, mv20d, nm21f, bo21f, mv21f, nm21o, bo21o, mv21o, nm21d, bo21d, mv21d, nm22f, bo22f, mv22f, nm22o, bo22o, mv22o, nm22d, bo22d, mv22d, nm23f, bo23f, mv23f, nm23o, bo23o, mv23o, nm23d, bo23d, mv23d, d_fr, fz_fr, isFr_fr, free_fr, d_ow, fz_ow, isFr_ow, free_ow, d_od, fz_od, isFr_od, free_od, d_bo, fz_bo, isFr_bo, free_bo, d_bd, fz_bd, isFr_bd, free_bd, w_add_i, w_add_s, w_add_l, w_add_t, w_sub, w_mul_i, w_mul_s, w_mul_l, w_mul_t, w_mod, w_fdv, w_pow, w_le_i, w_gt_i, w_ge_i, w_le_s, w_gt_s, w_ge_s, w_lt_i, w_lt_s, w_eq, w_ne, w_is_b, w_isN_b, w_in_l, w_nin_l, w_ix_l, w_ix_t, w_ix_s, w_sl_l, w_sl_t, w_sl_s, w_len_l, w_len_t, w_len_s, w_list_l, w_list_t, w_tuple_l, w_tuple_t, w_str, w_int_i, w_int_b, w_int_s, w_max2, w_max_l, w_min2, w_min_l, w_all, w_any, w_sorted_l, w_sorted_t, w_split, w_join, w_in_t, w_nin_t, w_in_ts, w_nin_ts, e_draw, e_cok_int, e_cok_bl, e_cok_str, List.map_cons, List.map_nil, List.all_cons, List.all_nil, List.length_cons, List.length_nil, List.getElem?_cons_zero, List.getElem?_cons_succ, List.set_cons_zero, List.set_cons_succ, retD, Tg.put, puts, wipeE, true_and, and_true, and_self, Bool.and_true, Bool.true_and, exists_eq_left', exists_eq_left, R.fr.injEq, R.ow.injEq, Option.some.injEq, D.bl.injEq, D.int.injEq, D.str.injEq, D.lst.injEq, D.tup.injEq, decide_eq_true_eq, if_true, exists_eq', Bool.not_true, Bool.not_false, ite_true, ite_false, if_false, Bool.false_eq_true]
        exact ⟨.inl rfl, by rw [sizeLine_eq]; decide, hP⟩
      try simp only [e_dSeq, e_dNext, e_dSet, e_dRet, e_dDrop, e_dIfS, e_dTgS, e_dC, e_dBin, e_dTst, e_dChn, e_dAnd, e_dOr, e_dNot, e_dAndV, e_dOrV, e_dNotV, e_dIf, e_dNil, e_dCons, e_dLst, e_dTup, e_dCB, e_dCall, e_dYes, e_dApp, e_dAug, e_dAugM, e_dIsi, e_dIsi2, e_dSl, e_dNoP, e_dPart, e_dM1, e_dFor, e_dLC, e_dIt, e_dRng1, e_dZipM, e_dRngN, e_dRev, e_dPar0, w_maxT, e_dSrtSet, e_dItS, e_dPar2, e_dPar3, e_par2, e_par3, e_dCallD, e_dCallK, e_dRng2, e_dEnum, e_dZip, nm0f, nm0o, nm0d, bo0f, bo0o, bo0d, mv0f, mv0o, mv0d, nm1f, nm1o, nm1d, bo1f, bo1o, bo1d, mv1f, mv1o, mv1d, nm2f, nm2o, nm2d, bo2f, bo2o, bo2d, mv2f, mv2o, mv2d, nm3f, nm3o, nm3d, bo3f, bo3o, bo3d, mv3f, mv3o, mv3d, nm4f, nm4o, nm4d, bo4f, bo4o, bo4d, mv4f, mv4o, mv4d, nm5f, nm5o, nm5d, bo5f, bo5o, bo5d, mv5f, mv5o, mv5d, nm6f, nm6o, nm6d, bo6f, bo6o, bo6d, mv6f, mv6o, mv6d, nm7f, nm7o, nm7d, bo7f, bo7o, bo7d, mv7f, mv7o, mv7d, nm8f, nm8o, nm8d, bo8f, bo8o, bo8d, mv8f, mv8o, mv8d, nm9f, nm9o, nm9d, bo9f, bo9o, bo9d, mv9f, mv9o, mv9d, nm10f, nm10o, nm10d, bo10f, bo10o, bo10d, mv10f, mv10o, mv10d, nm11f, nm11o, nm11d, bo11f, bo11o, bo11d, mv11f, mv11o, mv11d, nm12f, nm12o, nm12d, bo12f, bo12o, bo12d, mv12f, mv12o, mv12d, nm13f, nm13o, nm13d, bo13f, bo13o, bo13d, mv13f, mv13o, mv13d, nm14f, nm14o, nm14d, bo14f, bo14o, bo14d, mv14f, mv14o, mv14d, nm15f, nm15o, nm15d, bo15f, bo15o, bo15d, mv15f, mv15o, mv15d, nm16f, bo16f, mv16f, nm16o, bo16o, mv16o, nm16d, bo16d, mv16d, nm17f, bo17f, mv17f, nm17o, bo17o, mv17o, nm17d, bo17d, mv17d, nm18f, bo18f, mv18f, nm18o, bo18o, mv18o, nm18d, bo18d, mv18d, nm19f, bo19f, mv19f, nm19o, bo19o, mv19o, nm19d, bo19d, mv19d, nm20f, bo20f, mv20f, nm20o, bo20o, mv20o, nm20d, bo20d, mv20d, nm21f, bo21f, mv21f, nm21o, bo21o, mv21o, nm21d, bo21d, mv21d, nm22f, bo22f, mv22f, nm22o, bo22o, mv22o, nm22d, bo22d, mv22d, nm23f, bo23f, mv23f, nm23o, bo23o, mv23o, nm23d, bo23d, mv23d, d_fr, fz_fr, isFr_fr, free_fr, d_ow, fz_ow, isFr_ow, free_ow, d_od, fz_od, isFr_od, free_od, d_bo, fz_bo, isFr_bo, free_bo, d_bd, fz_bd, isFr_bd, free_bd, w_add_i, w_add_s, w_add_l, w_add_t, w_sub, w_mul_i, w_mul_s, w_mul_l, w_mul_t, w_mod, w_fdv, w_pow, w_le_i, w_gt_i, w_ge_i, w_le_s, w_gt_s, w_ge_s, w_lt_i, w_lt_s, w_eq, w_ne, w_is_b, w_isN_b, w_in_l, w_nin_l, w_ix_l, w_ix_t, w_ix_s, w_sl_l, w_sl_t, w_sl_s, w_len_l, w_len_t, w_len_s, w_list_l, w_list_t, w_tuple_l, w_tuple_t, w_str, w_int_i, w_int_b, w_int_s, w_max2, w_max_l, w_min2, w_min_l, w_all, w_any, w_sorted_l, w_sorted_t, w_split, w_join, w_in_t, w_nin_t, w_in_ts, w_nin_ts, e_draw, e_cok_int, e_cok_bl, e_cok_str, List.map_cons, List.map_nil, List.all_cons, List.all_nil, List.length_cons, List.length_nil, List.getElem?_cons_zero, List.getElem?_cons_succ, List.set_cons_zero, List.set_cons_succ, retD, Tg.put, puts, wipeE, true_and, and_true, and_self, Bool.and_true, Bool.true_and, exists_eq_left', exists_eq_left, R.fr.injEq, R.ow.injEq, Option.some.injEq, D.bl.injEq, D.int.injEq, D.str.injEq, D.lst.injEq, D.tup.injEq, decide_eq_true_eq, if_true, exists_eq', Bool.not_true, Bool.not_false, ite_true, ite_false, if_false, Bool.false_eq_true]
      rw [sort_pairs]
      refine ⟨srt_pairs (nm_chs ok), ?_⟩
      refine comp_mapF nD rfl (fun y hy P hP => ?_) ?_
      · refine ⟨_, rfl, ?_⟩
        try simp only [e_dSeq, e_dNext, e_dSet, e_dRet, e_dDrop, e_dIfS, e_dTgS, e_dC, e_dBin, e_dTst, e_dChn, e_dAnd, e_dOr, e_dNot, e_dAndV, e_dOrV, e_dNotV, e_dIf, e_dNil, e_dCons, e_dLst, e_dTup, e_dCB, e_dCall, e_dYes, e_dApp, e_dAug, e_dAugM, e_dIsi, e_dIsi2, e_dSl, e_dNoP, e_dPart, e_dM1, e_dFor, e_dLC, e_dIt, e_dRng1, e_dZipM, e_dRngN, e_dRev, e_dPar0, w_maxT, e_dSrtSet, e_dItS, e_dPar2, e_dPar3, e_par2, e_par3, e_dCallD, e_dCallK, e_dRng2, e_dEnum, e_dZip, nm0f, nm0o, nm0d, bo0f, bo0o, bo0d, mv0f, mv0o, mv0d, nm1f, nm1o, nm1d, bo1f, bo1o, bo1d, mv1f, mv1o, mv1d, nm2f, nm2o, nm2d, bo2f, bo2o, bo2d, mv2f, mv2o, mv2d, nm3f, nm3o, nm3d, bo3f, bo3o, bo3d, mv3f, mv3o, mv3d, nm4f, nm4o, nm4d, bo4f, bo4o, bo4d, mv4f, mv4o, mv4d, nm5f, nm5o, nm5d, bo5f, bo5o, bo5d, mv5f, mv5o, mv5d, nm6f, nm6o, nm6d, bo6f, bo6o, bo6d, mv6f, mv6o, mv6d, nm7f, nm7o, nm7d, bo7f, bo7o, bo7d, mv7f, mv7o, mv7d, nm8f, nm8o, nm8d, bo8f, bo8o, bo8d, mv8f, mv8o, mv8d, nm9f, nm9o, nm9d, bo9f, bo9o, bo9d, mv9f, mv9o, mv9d, nm10f, nm10o, nm10d, bo10f, bo10o, bo10d, mv10f, mv10o, mv10d, nm11f, nm11o, nm11d, bo11f, bo11o, bo11d, mv11f, mv11o, mv11d, nm12f, nm12o, nm12d, bo12f, bo12o, bo12d, mv12f, mv12o, mv12d, nm13f, nm13o, nm13d, bo13f, bo13o, bo13d, mv13f, mv13o, mv13d, nm14f, nm14o, nm14d, bo14f, bo14o, bo14d, mv14f, mv14o, mv14d, nm15f, nm15o, nm15d, bo15f, bo15o, bo15d, mv15f, mv15o, mv15d, nm16f, bo16f, mv16f, nm16o, bo16o, mv16o, nm16d, bo16d, mv16d, nm17f, bo17f, mv17f, nm17o, bo17o, mv17o, nm17d, bo17d, mv17d, nm18f, bo18f, mv18f, nm18o, bo18o, mv18o, nm18d, bo18d, mv18d, nm19f, bo19f, mv19f, nm19o, bo19o, mv19o, nm19d, bo19d, mv19d, nm20f, bo20f, mv20f, nm20o, bo20o, mv20o, nm20d, bo20d, mv20d, nm21f, bo21f, mv21f, nm21o, bo21o, mv21o, nm21d, bo21d, mv21d, nm22f, bo22f, mv22f, nm22o, bo22o, mv22o, nm22d, bo22d, mv22d, nm23f, bo23f, mv23f, nm23o, bo23o, mv23o, nm23d, bo23d, mv23d, d_fr, fz_fr, isFr_fr, free_fr, d_ow, fz_ow, isFr_ow, free_ow, d_od, fz_od, isFr_od, free_od, d_bo, fz_bo, isFr_bo, free_bo, d_bd, fz_bd, isFr_bd, free_bd, w_add_i, w_add_s, w_add_l, w_add_t, w_sub, w_mul_i, w_mul_s, w_mul_l, w_mul_t, w_mod, w_fdv, w_pow, w_le_i, w_gt_i, w_ge_i, w_le_s, w_gt_s, w_ge_s, w_lt_i, w_lt_s, w_eq, w_ne, w_is_b, w_isN_b, w_in_l, w_nin_l, w_ix_l, w_ix_t, w_ix_s, w_sl_l, w_sl_t, w_sl_s, w_len_l, w_len_t, w_len_s, w_list_l, w_list_t, w_tuple_l, w_tuple_t, w_str, w_int_i, w_int_b, w_int_s, w_max2, w_max_l, w_min2, w_min_l, w_all, w_any, w_sorted_l, w_sorted_t, w_split, w_join, w_in_t, w_nin_t, w_in_ts, w_nin_ts, e_draw, e_cok_int, e_cok_bl, e_cok_str, List.map_cons, List.map_nil, List.all_cons, List.all_nil, List.length_cons, List.length_nil, List.getElem?_cons_zero, List.getElem?_cons_succ, List.set_cons_zero, List.set_cons_succ, retD, Tg.put, puts, wipeE, true_and, and_true, and_self, Bool.and_true, Bool.true_and, exists_eq_left', exists_eq_left, R.fr.injEq, R.ow.injEq, Option.some.injEq, D.bl.injEq, D.int.injEq, D.str.injEq, D.lst.injEq, D.tup.injEq, decide_eq_true_eq, if_true, exists_eq', Bool.not_true, Bool.not_false, ite_true, ite_false, if_false, Bool.false_eq_true]
        exact hP
      try simp only [e_dSeq, e_dNext, e_dSet, e_dRet, e_dDrop, e_dIfS, e_dTgS, e_dC, e_dBin, e_dTst, e_dChn, e_dAnd, e_dOr, e_dNot, e_dAndV, e_dOrV, e_dNotV, e_dIf, e_dNil, e_dCons, e_dLst, e_dTup, e_dCB, e_dCall, e_dYes, e_dApp, e_dAug, e_dAugM, e_dIsi, e_dIsi2, e_dSl, e_dNoP, e_dPart, e_dM1, e_dFor, e_dLC, e_dIt, e_dRng1, e_dZipM, e_dRngN, e_dRev, e_dPar0, w_maxT, e_dSrtSet, e_dItS, e_dPar2, e_dPar3, e_par2, e_par3, e_dCallD, e_dCallK, e_dRng2, e_dEnum, e_dZip, nm0f, nm0o, nm0d, bo0f, bo0o, bo0d, mv0f, mv0o, mv0d, nm1f, nm1o, nm1d, bo1f, bo1o, bo1d, mv1f, mv1o, mv1d, nm2f, nm2o, nm2d, bo2f, bo2o, bo2d, mv2f, mv2o, mv2d, nm3f, nm3o, nm3d, bo3f, bo3o, bo3d, mv3f, mv3o, mv3d, nm4f, nm4o, nm4d, bo4f, bo4o, bo4d, mv4f, mv4o, mv4d, nm5f, nm5o, nm5d, bo5f, bo5o, bo5d, mv5f, mv5o, mv5d, nm6f, nm6o, nm6d, bo6f, bo6o, bo6d, mv6f, mv6o, mv6d, nm7f, nm7o, nm7d, bo7f, bo7o, bo7d, mv7f, mv7o, mv7d, nm8f, nm8o, nm8d, bo8f, bo8o, bo8d, mv8f, mv8o, mv8d, nm9f, nm9o, nm9d, bo9f, bo9o, bo9d, mv9f, mv9o, mv9d, nm10f, nm10o, nm10d, bo10f, bo10o, bo10d, mv10f, mv10o, mv10d, nm11f, nm11o, nm11d, bo11f, bo11o, bo11d, mv11f, mv11o, mv11d, nm12f, nm12o, nm12d, bo12f, bo12o, bo12d, mv12f, mv12o, mv12d, nm13f, nm13o, nm13d, bo13f, bo13o, bo13d, mv13f, mv13o, mv13d, nm14f, nm14o, nm14d, bo14f, bo14o, bo14d, mv14f, mv14o, mv14d, nm15f, nm15o, nm15d, bo15f, bo15o, bo15d, mv15f, mv15o, mv15d, nm16f, bo16f, mv16f, nm16o, bo16o, mv16o, nm16d, bo16d, mv16d, nm17f, bo17f, mv17f, nm17o, bo17o, mv17o, nm17d, bo17d, mv17d, nm18f, bo18f, mv18f, nm18o, bo18o, mv18o, nm18d, bo18d, mv18d, nm19f, bo19f, mv19f, nm19o, bo19o, mv19o, nm19d, bo19d, mv19d, nm20f, bo20f, mv20f, nm20o, bo20o, mv20o, nm20d, bo20d, mv20d, nm21f, bo21f, mv21f, nm21o, bo21o, mv21o, nm21d, bo21d, mv21d, nm22f, bo22f, mv22f, nm22o, bo22o, mv22o, nm22d, bo22d, mv22d, nm23f, bo23f, mv23f, nm23o, bo23o, mv23o, nm23d, bo23d, mv23d, d_fr, fz_fr, isFr_fr, free_fr, d_ow, fz_ow, isFr_ow, free_ow, d_od, fz_od, isFr_od, free_od, d_bo, fz_bo, isFr_bo, free_bo, d_bd, fz_bd, isFr_bd, free_bd, w_add_i, w_add_s, w_add_l, w_add_t, w_sub, w_mul_i, w_mul_s, w_mul_l, w_mul_t, w_mod, w_fdv, w_pow, w_le_i, w_gt_i, w_ge_i, w_le_s, w_gt_s, w_ge_s, w_lt_i, w_lt_s, w_eq, w_ne, w_is_b, w_isN_b, w_in_l, w_nin_l, w_ix_l, w_ix_t, w_ix_s, w_sl_l, w_sl_t, w_sl_s, w_len_l, w_len_t, w_len_s, w_list_l, w_list_t, w_tuple_l, w_tuple_t, w_str, w_int_i, w_int_b, w_int_s, w_max2, w_max_l, w_min2, w_min_l, w_all, w_any, w_sorted_l, w_sorted_t, w_split, w_join, w_in_t, w_nin_t, w_in_ts, w_nin_ts, e_draw, e_cok_int, e_cok_bl, e_cok_str, List.map_cons, List.map_nil, List.all_cons, List.all_nil, List.length_cons, List.length_nil, List.getElem?_cons_zero, List.getElem?_cons_succ, List.set_cons_zero, List.set_cons_succ, retD, Tg.put, puts, wipeE, true_and, and_true, and_self, Bool.and_true, Bool.true_and, exists_eq_left', exists_eq_left, R.fr.injEq, R.ow.injEq, Option.some.injEq, D.bl.injEq, D.int.injEq, D.str.injEq, D.lst.injEq, D.tup.injEq, decide_eq_true_eq, if_true, exists_eq', Bool.not_true, Bool.not_false, ite_true, ite_false, if_false, Bool.false_eq_true]
      exact q _ rfl
    | false =>
      show (_ : TSd) (retD Q) [some (.fr (.lst (N.map nD))), none, none]
      try simp only [e_dSeq, e_dNext, e_dSet, e_dRet, e_dDrop, e_dIfS, e_dTgS, e_dC, e_dBin, e_dTst, e_dChn, e_dAnd, e_dOr, e_dNot, e_dAndV, e_dOrV, e_dNotV, e_dIf, e_dNil, e_dCons, e_dLst, e_dTup, e_dCB, e_dCall, e_dYes, e_dApp, e_dAug, e_dAugM, e_dIsi, e_dIsi2, e_dSl, e_dNoP, e_dPart, e_dM1, e_dFor, e_dLC, e_dIt, e_dRng1, e_dZipM, e_dRngN, e_dRev, e_dPar0, w_maxT, e_dSrtSet, e_dItS, e_dPar2, e_dPar3, e_par2, e_par3, e_dCallD, e_dCallK, e_dRng2, e_dEnum, e_dZip, nm0f, nm0o, nm0d, bo0f, bo0o, bo0d, mv0f, mv0o, mv0d, nm1f, nm1o, nm1d, bo1f, bo1o, bo1d, mv1f, mv1o, mv1d, nm2f, nm2o, nm2d, bo2f, bo2o, bo2d, mv2f, mv2o, mv2d, nm3f, nm3o, nm3d, bo3f, bo3o, bo3d, mv3f, mv3o, mv3d, nm4f, nm4o, nm4d, bo4f, bo4o, bo4d, mv4f, mv4o, mv4d, nm5f, nm5o, nm5d, bo5f, bo5o, bo5d, mv5f, mv5o, mv5d, nm6f, nm6o, nm6d, bo6f, bo6o, bo6d, mv6f, mv6o, mv6d, nm7f, nm7o, nm7d, bo7f, bo7o, bo7d, mv7f, mv7o, mv7d, nm8f, nm8o, nm8d, bo8f, bo8o, bo8d, mv8f, mv8o, mv8d, nm9f, nm9o, nm9d, bo9f, bo9o, bo9d, mv9f, mv9o, mv9d, nm10f, nm10o, nm10d, bo10f, bo10o, bo10d, mv10f, mv10o, mv10d, nm11f, nm11o, nm11d, bo11f, bo11o, bo11d, mv11f, mv11o, mv11d, nm12f, nm12o, nm12d, bo12f, bo12o, bo12d, mv12f, mv12o, mv12d, nm13f, nm13o, nm13d, bo13f, bo13o, bo13d, mv13f, mv13o, mv13d, nm14f, nm14o, nm14d, bo14f, bo14o, bo14d, mv14f, mv14o, mv14d, nm15f, nm15o, nm15d, bo15f, bo15o, bo15d, mv15f, mv15o, mv15d, nm16f, bo16f, mv16f, nm16o, bo16o, mv16o, nm16d, bo16d, mv16d, nm17f, bo17f, mv17f, nm17o, bo17o, mv17o, nm17d, bo17d, mv17d, nm18f, bo18f, mv18f, nm18o, bo18o, mv18o, nm18d, bo18d, mv18d, nm19f, bo19f, mv19f, nm19o, bo19o, mv19o, nm19d, bo19d, mv19d, nm20f, bo20f, mv20f, nm20o, bo20o, mv20o, nm20d, bo20d, mv20d, nm21f, bo21f, mv21f, nm21o, bo21o, mv21o, nm21d, bo21d, mv21d, nm22f, bo22f, mv22f, nm22o, bo22o, mv22o, nm22d, bo22d, mv22d, nm23f, bo23f, mv23f, nm23o, bo23o, mv23o, nm23d, bo23d, mv23d, d_fr, fz_fr, isFr_fr, free_fr, d_ow, fz_ow, isFr_ow, free_ow, d_od, fz_od, isFr_od, free_od, d_bo, fz_bo, isFr_bo, free_bo, d_bd, fz_bd, isFr_bd, free_bd, w_add_i, w_add_s, w_add_l, w_add_t, w_sub, w_mul_i, w_mul_s, w_mul_l, w_mul_t, w_mod, w_fdv, w_pow, w_le_i, w_gt_i, w_ge_i, w_le_s, w_gt_s, w_ge_s, w_lt_i, w_lt_s, w_eq, w_ne, w_is_b, w_isN_b, w_in_l, w_nin_l, w_ix_l, w_ix_t, w_ix_s, w_sl_l, w_sl_t, w_sl_s, w_len_l, w_len_t, w_len_s, w_list_l, w_list_t, w_tuple_l, w_tuple_t, w_str, w_int_i, w_int_b, w_int_s, w_max2, w_max_l, w_min2, w_min_l, w_all, w_any, w_sorted_l, w_sorted_t, w_split, w_join, w_in_t, w_nin_t, w_in_ts, w_nin_ts, e_draw, e_cok_int, e_cok_bl, e_cok_str, List.map_cons, List.map_nil, List.all_cons, List.all_nil, List.length_cons, List.length_nil, List.getElem?_cons_zero, List.getElem?_cons_succ, List.set_cons_zero, List.set_cons_succ, retD, Tg.put, puts, wipeE, true_and, and_true, and_self, Bool.and_true, Bool.true_and, exists_eq_left', exists_eq_left, R.fr.injEq, R.ow.injEq, Option.some.injEq, D.bl.injEq, D.int.injEq, D.str.injEq, D.lst.injEq, D.tup.injEq, decide_eq_true_eq, if_true, exists_eq', Bool.not_true, Bool.not_false, ite_true, ite_false, if_false, Bool.false_eq_true]
      refine comp_mapF pairN rfl (fun y hy P hP => ?_) ?_
      · refine ⟨_, rfl, ?_⟩
        try simp only [e_dSeq, e_dNext, e_dSet, e_dRet, e_dDrop, e_dIfS, e_dTgS, e_dC, e_dBin, e_dTst, e_dChn, e_dAnd, e_dOr, e_dNot, e_dAndV, e_dOrV, e_dNotV, e_dIf, e_dNil, e_dCons, e_dLst, e_dTup, e_dCB, e_dCall, e_dYes, e_dApp, e_dAug, e_dAugM, e_dIsi, e_dIsi2, e_dSl, e_dNoP, e_dPart, e_dM1, e_dFor, e_dLC, e_dIt, e_dRng1, e_dZipM, e_dRngN, e_dRev, e_dPar0, w_maxT, e_dSrtSet, e_dItS, e_dPar2, e_dPar3, e_par2, e_par3, e_dCallD, e_dCallK, e_dRng2, e_dEnum, e_dZip, nm0f, nm0o, nm0d, bo0f, bo0o, bo0d, mv0f, mv0o, mv0d, nm1f, nm1o, nm1d, bo1f, bo1o, bo1d, mv1f, mv1o, mv1d, nm2f, nm2o, nm2d, bo2f, bo2o, bo2d, mv2f, mv2o, mv2d, nm3f, nm3o, nm3d, bo3f, bo3o, bo3d, mv3f, mv3o, mv3d, nm4f, nm4o, nm4d, bo4f, bo4o, bo4d, mv4f, mv4o, mv4d, nm5f, nm5o, nm5d, bo5f, bo5o, bo5d, mv5f, mv5o, mv5d, nm6f, nm6o, nm6d, bo6f, bo6o, bo6d, mv6f, mv6o, mv6d, nm7f, nm7o, nm7d, bo7f, bo7o, bo7d, mv7f, mv7o, mv7d, nm8f, nm8o, nm8d, bo8f, bo8o, bo8d, mv8f, mv8o, mv8d, nm9f, nm9o, nm9d, bo9f, bo9o, bo9d, mv9f, mv9o, mv9d, nm10f, nm10o, nm10d, bo10f, bo10o, bo10d, mv10f, mv10o, mv10d, nm11f, nm11o, nm11d, bo11f, bo11o, bo11d, mv11f, mv11o, mv11d, nm12f, nm12o, nm12d, bo12f, bo12o, bo12d, mv12f, mv12o, mv12d, nm13f, nm13o, nm13d, bo13f, bo13o, bo13d, mv13f, mv13o, mv13d, nm14f, nm14o, nm14d, bo14f, bo14o, bo14d, mv14f, mv14o, mv14d, nm15f, nm15o, nm15d, bo15f, bo15o, bo15d, mv15f, mv15o, mv15d, nm16f, bo16f, mv16f, nm16o, bo16o, mv16o, nm16d, bo16d, mv16d, nm17f, bo17f, mv17f, nm17o, bo17o, mv17o, nm17d, bo17d, mv17d, nm18f, bo18f, mv18f, nm18o, bo18o, mv18o, nm18d, bo18d, mv18d, nm19f, bo19f, mv19f, nm19o, bo19o, mv19o, nm19d, bo19d, mv19d, nm20f, bo20f, mv20f, nm20o, bo20o, mv20o, nm20d, bo20d, mv20d, nm21f, bo21f, mv21f, nm21o, bo21o, mv21o, nm21d, bo21d, mv21d, nm22f, bo22f, mv22f, nm22o, bo22o, mv22o, nm22d, bo22d, mv22d, nm23f, bo23f, mv23f, nm23o, bo23o, mv23o, nm23d, bo23d, mv23d, d_fr, fz_fr, isFr_fr, free_fr, d_ow, fz_ow, isFr_ow, free_ow, d_od, fz_od, isFr_od, free_od, d_bo, fz_bo, isFr_bo, free_bo, d_bd, fz_bd, isFr_bd, free_bd, w_add_i, w_add_s, w_add_l, w_add_t, w_sub, w_mul_i, w_mul_s, w_mul_l, w_mul_t, w_mod, w_fdv, w_pow, w_le_i, w_gt_i, w_ge_i, w_le_s, w_gt_s, w_ge_s, w_lt_i, w_lt_s, w_eq, w_ne, w_is_b, w_isN_b, w_in_l, w_nin_l, w_ix_l, w_ix_t, w_ix_s, w_sl_l, w_sl_t, w_sl_s, w_len_l, w_len_t, w_len_s, w_list_l, w_list_t, w_tuple_l, w_tuple_t, w_str, w_int_i, w_int_b, w_int_s, w_max2, w_max_l, w_min2, w_min_l, w_all, w_any, w_sorted_l, w_sorted_t, w_split, w_join, w_in_t, w_nin_t, w_in_ts, w_nin_ts, e_draw, e_cok_int, e_cok_bl, e_cok_str, List.map_cons, List.map_nil, List.all_cons, List.all_nil, List.length_cons, List.length_nil, List.getElem?_cons_zero, List.getElem?_cons_succ, List.set_cons_zero, List.set_cons_succ, retD, Tg.put, puts, wipeE, true_and, and_true, and_self, Bool.and_true, Bool.true_and, exists_eq_left', exists_eq_left, R.fr.injEq, R.ow.injEq, Option.some.injEq, D.bl.injEq, D.int.injEq, D.str.injEq, D.lst.injEq, D.tup.injEq, decide_eq_true_eq, if_true, exists_eq', Bool.not_true, Bool.not_false, ite_true, ite_false, if_false, Bool.false_eq_true]
        refine ⟨y, rfl, ok.2 y hy, ?_⟩
        rintro r rfl
        try simp only [e_dSeq, e_dNext, e_dSet, e_dRet, e_dDrop, e_dIfS, e_dTgS, e_dC, e_dBin, e_dTst, e_dChn, e_dAnd, e_dOr, e_dNot, e_dAndV, e_dOrV, e_dNotV, e_dIf, e_dNil, e_dCons, e_dLst, e_dTup, e_dCB, e_dCall, e_dYes, e_dApp, e_dAug, e_dAugM, e_dIsi, e_dIsi2, e_dSl, e_dNoP, e_dPart, e_dM1, e_dFor, e_dLC, e_dIt, e_dRng1, e_dZipM, e_dRngN, e_dRev, e_dPar0, w_maxT, e_dSrtSet, e_dItS, e_dPar2, e_dPar3, e_par2, e_par3, e_dCallD, e_dCallK, e_dRng2, e_dEnum, e_dZip, nm0f, nm0o, nm0d, bo0f, bo0o, bo0d, mv0f, mv0o, mv0d, nm1f, nm1o, nm1d, bo1f, bo1o, bo1d, mv1f, mv1o, mv1d, nm2f, nm2o, nm2d, bo2f, bo2o, bo2d, mv2f, mv2o, mv2d, nm3f, nm3o, nm3d, bo3f, bo3o, bo3d, mv3f, mv3o, mv3d, nm4f, nm4o, nm4d, bo4f, bo4o, bo4d, mv4f, mv4o, mv4d, nm5f, nm5o, nm5d, bo5f, bo5o, bo5d, mv5f, mv5o, mv5d, nm6f, nm6o, nm6d, bo6f, bo6o, bo6d, mv6f, mv6o, mv6d, nm7f, nm7o, nm7d, bo7f, bo7o, bo7d, mv7f, mv7o, mv7d, nm8f, nm8o, nm8d, bo8f, bo8o, bo8d, mv8f, mv8o, mv8d, nm9f, nm9o, nm9d, bo9f, bo9o, bo9d, mv9f, mv9o, mv9d, nm10f, nm10o, nm10d, bo10f, bo10o, bo10d, mv10f, mv10o, mv10d, nm11f, nm11o, nm11d, bo11f, bo11o, bo11d, mv11f, mv11o, mv11d, nm12f, nm12o, nm12d, bo12f, bo12o, bo12d, mv12f, mv12o, mv12d, nm13f, nm13o, nm13d, bo13f, bo13o, bo13d, mv13f, mv13o, mv13d, nm14f, nm14o, nm14d, bo14f, bo14o, bo14d, mv14f, mv14o, mv14d, nm15f, nm15o, nm15d, bo15f, bo15o, bo15d, mv15f, mv15o, mv15d, nm16f, bo16f, mv16f, nm16o, bo16o, mv16o, nm16d, bo16d, mv16d, nm17f, bo17f, mv17f, nm17o, bo17o, mv17o, nm17d, bo17d, mv17d, nm18f, bo18f, mv18f, nm18o, bo18o, mv18o, nm18d, bo18d, mv18d, nm19f, bo19f, mv19f, nm19o, bo19o, mv19o, nm19d, bo19d, mv19d, nm20f, bo20f, mv20f, nm20o, bo20o, mv20o, nm20d, bo20d, mv20d, nm21f, bo21f, mv21f, nm21o, bo21o, mv21o, nm21d, bo21d, mv21d, nm22f, bo22f, mv22f, nm22o, bo22o, mv22o, nm22d, bo22d, mv22d, nm23f, bo23f, mv23f, nm23o, bo23o, mv23o, nm23d, bo23d, mv23d, d_fr, fz_fr, isFr_fr, free_fr, d_ow, fz_ow, isFr_ow, free_ow, d_od, fz_od, isFr_od, free_od, d_bo, fz_bo, isFr_bo, free_bo, d_bd, fz_bd, isFr_bd, free_bd, w_add_i, w_add_s, w_add_l, w_add_t, w_sub, w_mul_i, w_mul_s, w_mul_l, w_mul_t, w_mod, w_fdv, w_pow, w_le_i, w_gt_i, w_ge_i, w_le_s, w_gt_s, w_ge_s, w_lt_i, w_lt_s, w_eq, w_ne, w_is_b, w_isN_b, w_in_l, w_nin_l, w_ix_l, w_ix_t, w_ix_s, w_sl_l, w_sl_t, w_sl_s, w_len_l, w_len_t, w_len_s, w_list_l, w_list_t, w_tuple_l, w_tuple_t, w_str, w_int_i, w_int_b, w_int_s, w_max2, w_max_l, w_min2, w_min_l, w_all, w_any, w_sorted_l, w_sorted_t, w_split, w_join, w_in_t, w_nin_t, w_in_ts, w_nin_ts, e_draw, e_cok_int, e_cok_bl, e_cok_str, List.map_cons, List.map_nil, List.all_cons, List.all_nil, List.length_cons, List.length_nil, List.getElem?_cons_zero, List.getElem?_cons_succ, List.set_cons_zero, List.set_cons_succ, retD, Tg.put, puts, wipeE, true_and, and_true, and_self, Bool.and_true, Bool.true_and, exists_eq_left', exists_eq_left, R.fr.injEq, R.ow.injEq, Option.some.injEq, D.bl.injEq, D.int.injEq, D.str.injEq, D.lst.injEq, D.tup.injEq, decide_eq_true_eq, if_true, exists_eq', Bool.not_true, Bool.not_false, ite_true, ite_false, if_false, Bool.false_eq_true]
        exact ⟨.inl rfl, by rw [sizeLine_eq]; decide, hP⟩
      try simp only [e_dSeq, e_dNext, e_dSet, e_dRet, e_dDrop, e_dIfS, e_dTgS, e_dC, e_dBin, e_dTst, e_dChn, e_dAnd, e_dOr, e_dNot, e_dAndV, e_dOrV, e_dNotV, e_dIf, e_dNil, e_dCons, e_dLst, e_dTup, e_dCB, e_dCall, e_dYes, e_dApp, e_dAug, e_dAugM, e_dIsi, e_dIsi2, e_dSl, e_dNoP, e_dPart, e_dM1, e_dFor, e_dLC, e_dIt, e_dRng1, e_dZipM, e_dRngN, e_dRev, e_dPar0, w_maxT, e_dSrtSet, e_dItS, e_dPar2, e_dPar3, e_par2, e_par3, e_dCallD, e_dCallK, e_dRng2, e_dEnum, e_dZip, nm0f, nm0o, nm0d, bo0f, bo0o, bo0d, mv0f, mv0o, mv0d, nm1f, nm1o, nm1d, bo1f, bo1o, bo1d, mv1f, mv1o, mv1d, nm2f, nm2o, nm2d, bo2f, bo2o, bo2d, mv2f, mv2o, mv2d, nm3f, nm3o, nm3d, bo3f, bo3o, bo3d, mv3f, mv3o, mv3d, nm4f, nm4o, nm4d, bo4f, bo4o, bo4d, mv4f, mv4o, mv4d, nm5f, nm5o, nm5d, bo5f, bo5o, bo5d, mv5f, mv5o, mv5d, nm6f, nm6o, nm6d, bo6f, bo6o, bo6d, mv6f, mv6o, mv6d, nm7f, nm7o, nm7d, bo7f, bo7o, bo7d, mv7f, mv7o, mv7d, nm8f, nm8o, nm8d, bo8f, bo8o, bo8d, mv8f, mv8o, mv8d, nm9f, nm9o, nm9d, bo9f, bo9o, bo9d, mv9f, mv9o, mv9d, nm10f, nm10o, nm10d, bo10f, bo10o, bo10d, mv10f, mv10o, mv10d, nm11f, nm11o, nm11d, bo11f, bo11o, bo11d, mv11f, mv11o, mv11d, nm12f, nm12o, nm12d, bo12f, bo12o, bo12d, mv12f, mv12o, mv12d, nm13f, nm13o, nm13d, bo13f, bo13o, bo13d, mv13f, mv13o, mv13d, nm14f, nm14o, nm14d, bo14f, bo14o, bo14d, mv14f, mv14o, mv14d, nm15f, nm15o, nm15d, bo15f, bo15o, bo15d, mv15f, mv15o, mv15d, nm16f, bo16f, mv16f, nm16o, bo16o, mv16o, nm16d, bo16d, mv16d, nm17f, bo17f, mv17f, nm17o, bo17o, mv17o, nm17d, bo17d, mv17d, nm18f, bo18f, mv18f, nm18o, bo18o, mv18o, nm18d, bo18d, mv18d, nm19f, bo19f, mv19f, nm19o, bo19o, mv19o, nm19d, bo19d, mv19d, nm20f, bo20f, mv20f, nm20o, bo20o, mv20o, nm20d, bo20d, mv20d, nm21f, bo21f, mv21f, nm21o, bo21o, mv21o, nm21d, bo21d, mv21d, nm22f, bo22f, mv22f, nm22o, bo22o, mv22o, nm22d, bo22d, mv22d, nm23f, bo23f, mv23f, nm23o, bo23o, mv23o, nm23d, bo23d, mv23d, d_fr, fz_fr, isFr_fr, free_fr, d_ow, fz_ow, isFr_ow, free_ow, d_od, fz_od, isFr_od, free_od, d_bo, fz_bo, isFr_bo, free_bo, d_bd, fz_bd, isFr_bd, free_bd, w_add_i, w_add_s, w_add_l, w_add_t, w_sub, w_mul_i, w_mul_s, w_mul_l, w_mul_t, w_mod, w_fdv, w_pow, w_le_i, w_gt_i, w_ge_i, w_le_s, w_gt_s, w_ge_s, w_lt_i, w_lt_s, w_eq, w_ne, w_is_b, w_isN_b, w_in_l, w_nin_l, w_ix_l, w_ix_t, w_ix_s, w_sl_l, w_sl_t, w_sl_s, w_len_l, w_len_t, w_len_s, w_list_l, w_list_t, w_tuple_l, w_tuple_t, w_str, w_int_i, w_int_b, w_int_s, w_max2, w_max_l, w_min2, w_min_l, w_all, w_any, w_sorted_l, w_sorted_t, w_split, w_join, w_in_t, w_nin_t, w_in_ts, w_nin_ts, e_draw, e_cok_int, e_cok_bl, e_cok_str, List.map_cons, List.map_nil, List.all_cons, List.all_nil, List.length_cons, List.length_nil, List.getElem?_cons_zero, List.getElem?_cons_succ, List.set_cons_zero, List.set_cons_succ, retD, Tg.put, puts, wipeE, true_and, and_true, and_self, Bool.and_true, Bool.true_and, exists_eq_left', exists_eq_left, R.fr.injEq, R.ow.injEq, Option.some.injEq, D.bl.injEq, D.int.injEq, D.str.injEq, D.lst.injEq, D.tup.injEq, decide_eq_true_eq, if_true, exists_eq', Bool.not_true, Bool.not_false, ite_true, ite_false, if_false, Bool.false_eq_true]
      rw [sort_pairs]
      refine ⟨srt_pairs (nm_chs ok), ?_⟩
      refine comp_mapF nD rfl (fun y hy P hP => ?_) ?_
      · refine ⟨_, rfl, ?_⟩
        try simp only [e_dSeq, e_dNext, e_dSet, e_dRet, e_dDrop, e_dIfS, e_dTgS, e_dC, e_dBin, e_dTst, e_dChn, e_dAnd, e_dOr, e_dNot, e_dAndV, e_dOrV, e_dNotV, e_dIf, e_dNil, e_dCons, e_dLst, e_dTup, e_dCB, e_dCall, e_dYes, e_dApp, e_dAug, e_dAugM, e_dIsi, e_dIsi2, e_dSl, e_dNoP, e_dPart, e_dM1, e_dFor, e_dLC, e_dIt, e_dRng1, e_dZipM, e_dRngN, e_dRev, e_dPar0, w_maxT, e_dSrtSet, e_dItS, e_dPar2, e_dPar3, e_par2, e_par3, e_dCallD, e_dCallK, e_dRng2, e_dEnum, e_dZip, nm0f, nm0o, nm0d, bo0f, bo0o, bo0d, mv0f, mv0o, mv0d, nm1f, nm1o, nm1d, bo1f, bo1o, bo1d, mv1f, mv1o, mv1d, nm2f, nm2o, nm2d, bo2f, bo2o, bo2d, mv2f, mv2o, mv2d, nm3f, nm3o, nm3d, bo3f, bo3o, bo3d, mv3f, mv3o, mv3d, nm4f, nm4o, nm4d, bo4f, bo4o, bo4d, mv4f, mv4o, mv4d, nm5f, nm5o, nm5d, bo5f, bo5o, bo5d, mv5f, mv5o, mv5d, nm6f, nm6o, nm6d, bo6f, bo6o, bo6d, mv6f, mv6o, mv6d, nm7f, nm7o, nm7d, bo7f, bo7o, bo7d, mv7f, mv7o, mv7d, nm8f, nm8o, nm8d, bo8f, bo8o, bo8d, mv8f, mv8o, mv8d, nm9f, nm9o, nm9d, bo9f, bo9o, bo9d, mv9f, mv9o, mv9d, nm10f, nm10o, nm10d, bo10f, bo10o, bo10d, mv10f, mv10o, mv10d, nm11f, nm11o, nm11d, bo11f, bo11o, bo11d, mv11f, mv11o, mv11d, nm12f, nm12o, nm12d, bo12f, bo12o, bo12d, mv12f, mv12o, mv12d, nm13f, nm13o, nm13d, bo13f, bo13o, bo13d, mv13f, mv13o, mv13d, nm14f, nm14o, nm14d, bo14f, bo14o, bo14d, mv14f, mv14o, mv14d, nm15f, nm15o, nm15d, bo15f, bo15o, bo15d, mv15f, mv15o, mv15d, nm16f, bo16f, mv16f, nm16o, bo16o, mv16o, nm16d, bo16d, mv16d, nm17f, bo17f, mv17f, nm17o, bo17o, mv17o, nm17d, bo17d, mv17d, nm18f, bo18f, mv18f, nm18o, bo18o, mv18o, nm18d, bo18d, mv18d, nm19f, bo19f, mv19f, nm19o, bo19o, mv19o, nm19d, bo19d, mv19d, nm20f, bo20f, mv20f, nm20o, bo20o, mv20o, nm20d, bo20d, mv20d, nm21f, bo21f, mv21f, nm21o, bo21o, mv21o, nm21d, bo21d, mv21d, nm22f, bo22f, mv22f, nm22o, bo22o, mv22o, nm22d, bo22d, mv22d, nm23f, bo23f, mv23f, nm23o, bo23o, mv23o, nm23d, bo23d, mv23d, d_fr, fz_fr, isFr_fr, free_fr, d_ow, fz_ow, isFr_ow, free_ow, d_od, fz_od, isFr_od, free_od, d_bo, fz_bo, isFr_bo, free_bo, d_bd, fz_bd, isFr_bd, free_bd, w_add_i, w_add_s, w_add_l, w_add_t, w_sub, w_mul_i, w_mul_s, w_mul_l, w_mul_t, w_mod, w_fdv, w_pow, w_le_i, w_gt_i, w_ge_i, w_le_s, w_gt_s, w_ge_s, w_lt_i, w_lt_s, w_eq, w_ne, w_is_b, w_isN_b, w_in_l, w_nin_l, w_ix_l, w_ix_t, w_ix_s, w_sl_l, w_sl_t, w_sl_s, w_len_l, w_len_t, w_len_s, w_list_l, w_list_t, w_tuple_l, w_tuple_t, w_str, w_int_i, w_int_b, w_int_s, w_max2, w_max_l, w_min2, w_min_l, w_all, w_any, w_sorted_l, w_sorted_t, w_split, w_join, w_in_t, w_nin_t, w_in_ts, w_nin_ts, e_draw, e_cok_int, e_cok_bl, e_cok_str, List.map_cons, List.map_nil, List.all_cons, List.all_nil, List.length_cons, List.length_nil, List.getElem?_cons_zero, List.getElem?_cons_succ, List.set_cons_zero, List.set_cons_succ, retD, Tg.put, puts, wipeE, true_and, and_true, and_self, Bool.and_true, Bool.true_and, exists_eq_left', exists_eq_left, R.fr.injEq, R.ow.injEq, Option.some.injEq, D.bl.injEq, D.int.injEq, D.str.injEq, D.lst.injEq, D.tup.injEq, decide_eq_true_eq, if_true, exists_eq', Bool.not_true, Bool.not_false, ite_true, ite_false, if_false, Bool.false_eq_true]
        exact hP
      try simp only [e_dSeq, e_dNext, e_dSet, e_dRet, e_dDrop, e_dIfS, e_dTgS, e_dC, e_dBin, e_dTst, e_dChn, e_dAnd, e_dOr, e_dNot, e_dAndV, e_dOrV, e_dNotV, e_dIf, e_dNil, e_dCons, e_dLst, e_dTup, e_dCB, e_dCall, e_dYes, e_dApp, e_dAug, e_dAugM, e_dIsi, e_dIsi2, e_dSl, e_dNoP, e_dPart, e_dM1, e_dFor, e_dLC, e_dIt, e_dRng1, e_dZipM, e_dRngN, e_dRev, e_dPar0, w_maxT, e_dSrtSet, e_dItS, e_dPar2, e_dPar3, e_par2, e_par3, e_dCallD, e_dCallK, e_dRng2, e_dEnum, e_dZip, nm0f, nm0o, nm0d, bo0f, bo0o, bo0d, mv0f, mv0o, mv0d, nm1f, nm1o, nm1d, bo1f, bo1o, bo1d, mv1f, mv1o, mv1d, nm2f, nm2o, nm2d, bo2f, bo2o, bo2d, mv2f, mv2o, mv2d, nm3f, nm3o, nm3d, bo3f, bo3o, bo3d, mv3f, mv3o, mv3d, nm4f, nm4o, nm4d, bo4f, bo4o, bo4d, mv4f, mv4o, mv4d, nm5f, nm5o, nm5d, bo5f, bo5o, bo5d, mv5f, mv5o, mv5d, nm6f, nm6o, nm6d, bo6f, bo6o, bo6d, mv6f, mv6o, mv6d, nm7f, nm7o, nm7d, bo7f, bo7o, bo7d, mv7f, mv7o, mv7d, nm8f, nm8o, nm8d, bo8f, bo8o, bo8d, mv8f, mv8o, mv8d, nm9f, nm9o, nm9d, bo9f, bo9o, bo9d, mv9f, mv9o, mv9d, nm10f, nm10o, nm10d, bo10f, bo10o, bo10d, mv10f, mv10o, mv10d, nm11f, nm11o, nm11d, bo11f, bo11o, bo11d, mv11f, mv11o, mv11d, nm12f, nm12o, nm12d, bo12f, bo12o, bo12d, mv12f, mv12o, mv12d, nm13f, nm13o, nm13d, bo13f, bo13o, bo13d, mv13f, mv13o, mv13d, nm14f, nm14o, nm14d, bo14f, bo14o, bo14d, mv14f, mv14o, mv14d, nm15f, nm15o, nm15d, bo15f, bo15o, bo15d, mv15f, mv15o, mv15d, nm16f, bo16f, mv16f, nm16o, bo16o, mv16o, nm16d, bo16d, mv16d, nm17f, bo17f, mv17f, nm17o, bo17o, mv17o, nm17d, bo17d, mv17d, nm18f, bo18f, mv18f, nm18o, bo18o, mv18o, nm18d, bo18d, mv18d, nm19f, bo19f, mv19f, nm19o, bo19o, mv19o, nm19d, bo19d, mv19d, nm20f, bo20f, mv20f, nm20o, bo20o, mv20o, nm20d, bo20d, mv20d, nm21f, bo21f, mv21f, nm21o, bo21o, mv21o, nm21d, bo21d, mv21d, nm22f, bo22f, mv22f, nm22o, bo22o, mv22o, nm22d, bo22d, mv22d, nm23f, bo23f, mv23f, nm23o, bo23o, mv23o, nm23d, bo23d, mv23d, d_fr, fz_fr, isFr_fr, free_fr, d_ow, fz_ow, isFr_ow, free_ow, d_od, fz_od, isFr_od, free_od, d_bo, fz_bo, isFr_bo, free_bo, d_bd, fz_bd, isFr_bd, free_bd, w_add_i, w_add_s, w_add_l, w_add_t, w_sub, w_mul_i, w_mul_s, w_mul_l, w_mul_t, w_mod, w_fdv, w_pow, w_le_i, w_gt_i, w_ge_i, w_le_s, w_gt_s, w_ge_s, w_lt_i, w_lt_s, w_eq, w_ne, w_is_b, w_isN_b, w_in_l, w_nin_l, w_ix_l, w_ix_t, w_ix_s, w_sl_l, w_sl_t, w_sl_s, w_len_l, w_len_t, w_len_s, w_list_l, w_list_t, w_tuple_l, w_tuple_t, w_str, w_int_i, w_int_b, w_int_s, w_max2, w_max_l, w_min2, w_min_l, w_all, w_any, w_sorted_l, w_sorted_t, w_split, w_join, w_in_t, w_nin_t, w_in_ts, w_nin_ts, e_draw, e_cok_int, e_cok_bl, e_cok_str, List.map_cons, List.map_nil, List.all_cons, List.all_nil, List.length_cons, List.length_nil, List.getElem?_cons_zero, List.getElem?_cons_succ, List.set_cons_zero, List.set_cons_succ, retD, Tg.put, puts, wipeE, true_and, and_true, and_self, Bool.and_true, Bool.true_and, exists_eq_left', exists_eq_left, R.fr.injEq, R.ow.injEq, Option.some.injEq, D.bl.injEq, D.int.injEq, D.str.injEq, D.lst.injEq, D.tup.injEq, decide_eq_true_eq, if_true, exists_eq', Bool.not_true, Bool.not_false, ite_true, ite_false, if_false, Bool.false_eq_true]
      exact q _ rfl
theorem cal_by_text {f : Addr} {fd : FuncData} {k : Nat} (F : Fun K "by_text" "by_text" s_by_text f fd) (b : Binds K fd ["names"] []) (m : mg "by_text" = some (.ref f)) (kp : PySem.W.keepIn K (.ref f) = true) (B : Bl mg) : Cal P w K mg base (k + 1) "by_text" ["names"] f fd sp_by_text := by
  refine ⟨fn_dl F sc_by_text (fun ds Q h => ?len) fun cdv A outer s H E hr => ?body, ?mono, m, kp, b⟩
  case len =>
    obtain ⟨x, rfl, -⟩ := h; rfl
  case mono =>
    exact SP_mono
  case body =>
    have hu64 := hr.units; have hu100 : (A.deeper (envOfC "by_text" (defScope s_by_text) s.heap.objs.size f cdv)).units + 100 < cLine := by have := hr.un; omega
    have hu65 : (A.deeper (envOfC "by_text" (defScope s_by_text) s.heap.objs.size f cdv)).units + 65 < cLine := by omega
    have hu1 : (A.deeper (envOfC "by_text" (defScope s_by_text) s.heap.objs.size f cdv)).units + 1 < cLine := by omega
    refine ⟨_, (qss_one (qs_ret (qe_callB (cd_sorted hu100) (by rfl) B.b_sorted bt_sorted (qa_cons (qe_bo (i := 0)) qa_nil)))), fun ds Q h => ?_⟩
    obtain ⟨⟨t, N⟩, rfl, ok, q⟩ := h
    dsimp only at ok q
    cases t with
    | true =>
      show (_ : TSd) (retD Q) [some (.fr (.tup (N.map nD)))]
      try simp only [e_dSeq, e_dNext, e_dSet, e_dRet, e_dDrop, e_dIfS, e_dTgS, e_dC, e_dBin, e_dTst, e_dChn, e_dAnd, e_dOr, e_dNot, e_dAndV, e_dOrV, e_dNotV, e_dIf, e_dNil, e_dCons, e_dLst, e_dTup, e_dCB, e_dCall, e_dYes, e_dApp, e_dAug, e_dAugM, e_dIsi, e_dIsi2, e_dSl, e_dNoP, e_dPart, e_dM1, e_dFor, e_dLC, e_dIt, e_dRng1, e_dZipM, e_dRngN, e_dRev, e_dPar0, w_maxT, e_dSrtSet, e_dItS, e_dPar2, e_dPar3, e_par2, e_par3, e_dCallD, e_dCallK, e_dRng2, e_dEnum, e_dZip, nm0f, nm0o, nm0d, bo0f, bo0o, bo0d, mv0f, mv0o, mv0d, nm1f, nm1o, nm1d, bo1f, bo1o, bo1d, mv1f, mv1o, mv1d, nm2f, nm2o, nm2d, bo2f, bo2o, bo2d, mv2f, mv2o, mv2d, nm3f, nm3o, nm3d, bo3f, bo3o, bo3d, mv3f, mv3o, mv3d, nm4f, nm4o, nm4d, bo4f, bo4o, bo4d, mv4f, mv4o, mv4d, nm5f, nm5o, nm5d, bo5f, bo5o, bo5d, mv5f, mv5o, mv5d, nm6f, nm6o, nm6d, bo6f, bo6o, bo6d, mv6f, mv6o, mv6d, nm7f, nm7o, nm7d, bo7f, bo7o, bo7d, mv7f, mv7o, mv7d, nm8f, nm8o, nm8d, bo8f, bo8o, bo8d, mv8f, mv8o, mv8d, nm9f, nm9o, nm9d, bo9f, bo9o, bo9d, mv9f, mv9o, mv9d, nm10f, nm10o, nm10d, bo10f, bo10o, bo10d, mv10f, mv10o, mv10d, nm11f, nm11o, nm11d, bo11f, bo11o, bo11d, mv11f, mv11o, mv11d, nm12f, nm12o, nm12d, bo12f, bo12o, bo12d, mv12f, mv12o, mv12d, nm13f, nm13o, nm13d, bo13f, bo13o, bo13d, mv13f, mv13o, mv13d, nm14f, nm14o, nm14d, bo14f, bo14o, bo14d, mv14f, mv14o, mv14d, nm15f, nm15o, nm15d, bo15f, bo15o, bo15d, mv15f, mv15o, mv15d, nm16f, bo16f, mv16f, nm16o, bo16o, mv16o, nm16d, bo16d, mv16d, nm17f, bo17f, mv17f, nm17o, bo17o, mv17o, nm17d, bo17d, mv17d, nm18f, bo18f, mv18f, nm18o, bo18o, mv18o, nm18d, bo18d, mv18d, nm19f, bo19f, mv19f, nm19o, bo19o, mv19o, nm19d, bo19d, mv19d, nm20f, bo20f, mv20f, nm20o, bo20o, mv20o, nm20d, bo20d, mv20d, nm21f, bo21f, mv21f, nm21o, bo21o, mv21o, nm21d, bo21d, mv21d, nm22f, bo22f, mv22f, nm22o, bo22o, mv22o, nm22d, bo22d, mv22d, nm23f, bo23f, mv23f, nm23o, bo23o, mv23o, nm23d, bo23d, mv23d, d_fr, fz_fr, isFr_fr, free_fr, d_ow, fz_ow, isFr_ow, free_ow, d_od, fz_od, isFr_od, free_od, d_bo, fz_bo, isFr_bo, free_bo, d_bd, fz_bd, isFr_bd, free_bd, w_add_i, w_add_s, w_add_l, w_add_t, w_sub, w_mul_i, w_mul_s, w_mul_l, w_mul_t, w_mod, w_fdv, w_pow, w_le_i, w_gt_i, w_ge_i, w_le_s, w_gt_s, w_ge_s, w_lt_i, w_lt_s, w_eq, w_ne, w_is_b, w_isN_b, w_in_l, w_nin_l, w_ix_l, w_ix_t, w_ix_s, w_sl_l, w_sl_t, w_sl_s, w_len_l, w_len_t, w_len_s, w_list_l, w_list_t, w_tuple_l, w_tuple_t, w_str, w_int_i, w_int_b, w_int_s, w_max2, w_max_l, w_min2, w_min_l, w_all, w_any, w_sorted_l, w_sorted_t, w_split, w_join, w_in_t, w_nin_t, w_in_ts, w_nin_ts, e_draw, e_cok_int, e_cok_bl, e_cok_str, List.map_cons, List.map_nil, List.all_cons, List.all_nil, List.length_cons, List.length_nil, List.getElem?_cons_zero, List.getElem?_cons_succ, List.set_cons_zero, List.set_cons_succ, retD, Tg.put, puts, wipeE, true_and, and_true, and_self, Bool.and_true, Bool.true_and, exists_eq_left', exists_eq_left, R.fr.injEq, R.ow.injEq, Option.some.injEq, D.bl.injEq, D.int.injEq, D.str.injEq, D.lst.injEq, D.tup.injEq, decide_eq_true_eq, if_true, exists_eq', Bool.not_true, Bool.not_false, ite_true, ite_false, if_false, Bool.false_eq_true]
      rw [nD_map, sort_strs]
      refine ⟨srt_strs fun l hl => ?_, q _ rfl⟩
      obtain ⟨x, hx, rfl⟩ := List.mem_map.mp hl
      exact nm_chs ok x hx
    | false =>
      show (_ : TSd) (retD Q) [some (.fr (.lst (N.map nD)))]
      try simp only [e_dSeq, e_dNext, e_dSet, e_dRet, e_dDrop, e_dIfS, e_dTgS, e_dC, e_dBin, e_dTst, e_dChn, e_dAnd, e_dOr, e_dNot, e_dAndV, e_dOrV, e_dNotV, e_dIf, e_dNil, e_dCons, e_dLst, e_dTup, e_dCB, e_dCall, e_dYes, e_dApp, e_dAug, e_dAugM, e_dIsi, e_dIsi2, e_dSl, e_dNoP, e_dPart, e_dM1, e_dFor, e_dLC, e_dIt, e_dRng1, e_dZipM, e_dRngN, e_dRev, e_dPar0, w_maxT, e_dSrtSet, e_dItS, e_dPar2, e_dPar3, e_par2, e_par3, e_dCallD, e_dCallK, e_dRng2, e_dEnum, e_dZip, nm0f, nm0o, nm0d, bo0f, bo0o, bo0d, mv0f, mv0o, mv0d, nm1f, nm1o, nm1d, bo1f, bo1o, bo1d, mv1f, mv1o, mv1d, nm2f, nm2o, nm2d, bo2f, bo2o, bo2d, mv2f, mv2o, mv2d, nm3f, nm3o, nm3d, bo3f, bo3o, bo3d, mv3f, mv3o, mv3d, nm4f, nm4o, nm4d, bo4f, bo4o, bo4d, mv4f, mv4o, mv4d, nm5f, nm5o, nm5d, bo5f, bo5o, bo5d, mv5f, mv5o, mv5d, nm6f, nm6o, nm6d, bo6f, bo6o, bo6d, mv6f, mv6o, mv6d, nm7f, nm7o, nm7d, bo7f, bo7o, bo7d, mv7f, mv7o, mv7d, nm8f, nm8o, nm8d, bo8f, bo8o, bo8d, mv8f, mv8o, mv8d, nm9f, nm9o, nm9d, bo9f, bo9o, bo9d, mv9f, mv9o, mv9d, nm10f, nm10o, nm10d, bo10f, bo10o, bo10d, mv10f, mv10o, mv10d, nm11f, nm11o, nm11d, bo11f, bo11o, bo11d, mv11f, mv11o, mv11d, nm12f, nm12o, nm12d, bo12f, bo12o, bo12d, mv12f, mv12o, mv12d, nm13f, nm13o, nm13d, bo13f, bo13o, bo13d, mv13f, mv13o, mv13d, nm14f, nm14o, nm14d, bo14f, bo14o, bo14d, mv14f, mv14o, mv14d, nm15f, nm15o, nm15d, bo15f, bo15o, bo15d, mv15f, mv15o, mv15d, nm16f, bo16f, mv16f, nm16o, bo16o, mv16o, nm16d, bo16d, mv16d, nm17f, bo17f, mv17f, nm17o, bo17o, mv17o, nm17d, bo17d, mv17d, nm18f, bo18f, mv18f, nm18o, bo18o, mv18o, nm18d, bo18d, mv18d, nm19f, bo19f, mv19f, nm19o, bo19o, mv19o, nm19d, bo19d, mv19d, nm20f, bo20f, mv20f, nm20o, bo20o, mv20o, nm20d, bo20d, mv20d, nm21f, bo21f, mv21f, nm21o, bo21o, mv21o, nm21d, bo21d, mv21d, nm22f, bo22f, mv22f, nm22o, bo22o, mv22o, nm22d, bo22d, mv22d, nm23f, bo23f, mv23f, nm23o, bo23o, mv23o, nm23d, bo23d, mv23d, d_fr, fz_fr, isFr_fr, free_fr, d_ow, fz_ow, isFr_ow, free_ow, d_od, fz_od, isFr_od, free_od, d_bo, fz_bo, isFr_bo, free_bo, d_bd, fz_bd, isFr_bd, free_bd, w_add_i, w_add_s, w_add_l, w_add_t, w_sub, w_mul_i, w_mul_s, w_mul_l, w_mul_t, w_mod, w_fdv, w_pow, w_le_i, w_gt_i, w_ge_i, w_le_s, w_gt_s, w_ge_s, w_lt_i, w_lt_s, w_eq, w_ne, w_is_b, w_isN_b, w_in_l, w_nin_l, w_ix_l, w_ix_t, w_ix_s, w_sl_l, w_sl_t, w_sl_s, w_len_l, w_len_t, w_len_s, w_list_l, w_list_t, w_tuple_l, w_tuple_t, w_str, w_int_i, w_int_b, w_int_s, w_max2, w_max_l, w_min2, w_min_l, w_all, w_any, w_sorted_l, w_sorted_t, w_split, w_join, w_in_t, w_nin_t, w_in_ts, w_nin_ts, e_draw, e_cok_int, e_cok_bl, e_cok_str, List.map_cons, List.map_nil, List.all_cons, List.all_nil, List.length_cons, List.length_nil, List.getElem?_cons_zero, List.getElem?_cons_succ, List.set_cons_zero, List.set_cons_succ, retD, Tg.put, puts, wipeE, true_and, and_true, and_self, Bool.and_true, Bool.true_and, exists_eq_left', exists_eq_left, R.fr.injEq, R.ow.injEq, Option.some.injEq, D.bl.injEq, D.int.injEq, D.str.injEq, D.lst.injEq, D.tup.injEq, decide_eq_true_eq, if_true, exists_eq', Bool.not_true, Bool.not_false, ite_true, ite_false, if_false, Bool.false_eq_true]
      rw [nD_map, sort_strs]
      refine ⟨srt_strs fun l hl => ?_, q _ rfl⟩
      obtain ⟨x, hx, rfl⟩ := List.mem_map.mp hl
      exact nm_chs ok x hx
theorem cal_agree {f : Addr} {fd : FuncData} {f_by_number : Addr} {fd_by_number : FuncData} {f_by_text : Addr} {fd_by_text : FuncData} {k : Nat} (F : Fun K "agree" "agree" s_agree f fd) (b : Binds K fd ["names"] []) (m : mg "agree" = some (.ref f)) (kp : PySem.W.keepIn K (.ref f) = true) (B : Bl mg) (C_by_number : Cal P w K mg base k "by_number" ["names"] f_by_number fd_by_number sp_by_number) (C_by_text : Cal P w K mg base k "by_text" ["names"] f_by_text fd_by_text sp_by_text) : Cal P w K mg base (k + 1) "agree" ["names"] f fd sp_agree := by
  refine ⟨fn_dl F sc_agree (fun ds Q h => ?len) fun cdv A outer s H E hr => ?body, ?mono, m, kp, b⟩
  case len =>
    obtain ⟨x, rfl, -⟩ := h; rfl
  case mono =>
    exact SP_mono
  case body =>
    have hu64 := hr.units; have hu100 : (A.deeper (envOfC "agree" (defScope s_agree) s.heap.objs.size f cdv)).units + 100 < cLine := by have := hr.un; omega
    have hu65 : (A.deeper (envOfC "agree" (defScope s_agree) s.heap.objs.size f cdv)).units + 65 < cLine := by omega
    have hu1 : (A.deeper (envOfC "agree" (defScope s_agree) s.heap.objs.size f cdv)).units + 1 < cLine := by omega
    refine ⟨_, (qss_one (qs_ret (qe_cmp (opd_eq hu64) (qe_callC C_by_number hr (by rfl) (qa_cons (qe_nm (i := 0)) qa_nil)) (qe_callC C_by_text hr (by rfl) (qa_cons (qe_nm (i := 0)) qa_nil)) (by rfl)))), fun ds Q h => ?_⟩
    obtain ⟨⟨t, N⟩, rfl, ok, q⟩ := h
    dsimp only at ok q
    show (_ : TSd) (retD Q) [some (.fr (vD t (N.map nD)))]
    try simp only [e_dSeq, e_dNext, e_dSet, e_dRet, e_dDrop, e_dIfS, e_dTgS, e_dC, e_dBin, e_dTst, e_dChn, e_dAnd, e_dOr, e_dNot, e_dAndV, e_dOrV, e_dNotV, e_dIf, e_dNil, e_dCons, e_dLst, e_dTup, e_dCB, e_dCall, e_dYes, e_dApp, e_dAug, e_dAugM, e_dIsi, e_dIsi2, e_dSl, e_dNoP, e_dPart, e_dM1, e_dFor, e_dLC, e_dIt, e_dRng1, e_dZipM, e_dRngN, e_dRev, e_dPar0, w_maxT, e_dSrtSet, e_dItS, e_dPar2, e_dPar3, e_par2, e_par3, e_dCallD, e_dCallK, e_dRng2, e_dEnum, e_dZip, nm0f, nm0o, nm0d, bo0f, bo0o, bo0d, mv0f, mv0o, mv0d, nm1f, nm1o, nm1d, bo1f, bo1o, bo1d, mv1f, mv1o, mv1d, nm2f, nm2o, nm2d, bo2f, bo2o, bo2d, mv2f, mv2o, mv2d, nm3f, nm3o, nm3d, bo3f, bo3o, bo3d, mv3f, mv3o, mv3d, nm4f, nm4o, nm4d, bo4f, bo4o, bo4d, mv4f, mv4o, mv4d, nm5f, nm5o, nm5d, bo5f, bo5o, bo5d, mv5f, mv5o, mv5d, nm6f, nm6o, nm6d, bo6f, bo6o, bo6d, mv6f, mv6o, mv6d, nm7f, nm7o, nm7d, bo7f, bo7o, bo7d, mv7f, mv7o, mv7d, nm8f, nm8o, nm8d, bo8f, bo8o, bo8d, mv8f, mv8o, mv8d, nm9f, nm9o, nm9d, bo9f, bo9o, bo9d, mv9f, mv9o, mv9d, nm10f, nm10o, nm10d, bo10f, bo10o, bo10d, mv10f, mv10o, mv10d, nm11f, nm11o, nm11d, bo11f, bo11o, bo11d, mv11f, mv11o, mv11d, nm12f, nm12o, nm12d, bo12f, bo12o, bo12d, mv12f, mv12o, mv12d, nm13f, nm13o, nm13d, bo13f, bo13o, bo13d, mv13f, mv13o, mv13d, nm14f, nm14o, nm14d, bo14f, bo14o, bo14d, mv14f, mv14o, mv14d, nm15f, nm15o, nm15d, bo15f, bo15o, bo15d, mv15f, mv15o, mv15d, nm16f, bo16f, mv16f, nm16o, bo16o, mv16o, nm16d, bo16d, mv16d, nm17f, bo17f, mv17f, nm17o, bo17o, mv17o, nm17d, bo17d, mv17d, nm18f, bo18f, mv18f, nm18o, bo18o, mv18o, nm18d, bo18d, mv18d, nm19f, bo19f, mv19f, nm19o, bo19o, mv19o, nm19d, bo19d, mv19d, nm20f, bo20f, mv20f, nm20o, bo20o, mv20o, nm20d, bo20d, mv20d, nm21f, bo21f, mv21f, nm21o, bo21o, mv21o, nm21d, bo21d, mv21d, nm22f, bo22f, mv22f, nm22o, bo22o, mv22o, nm22d, bo22d, mv22d, nm23f, bo23f, mv23f, nm23o, bo23o, mv23o, nm23d, bo23d, mv23d, d_fr, fz_fr, isFr_fr, free_fr, d_ow, fz_ow, isFr_ow, free_ow, d_od, fz_od, isFr_od, free_od, d_bo, fz_bo, isFr_bo, free_bo, d_bd, fz_bd, isFr_bd, free_bd, w_add_i, w_add_s, w_add_l, w_add_t, w_sub, w_mul_i, w_mul_s, w_mul_l, w_mul_t, w_mod, w_fdv, w_pow, w_le_i, w_gt_i, w_ge_i, w_le_s, w_gt_s, w_ge_s, w_lt_i, w_lt_s, w_eq, w_ne, w_is_b, w_isN_b, w_in_l, w_nin_l, w_ix_l, w_ix_t, w_ix_s, w_sl_l, w_sl_t, w_sl_s, w_len_l, w_len_t, w_len_s, w_list_l, w_list_t, w_tuple_l, w_tuple_t, w_str, w_int_i, w_int_b, w_int_s, w_max2, w_max_l, w_min2, w_min_l, w_all, w_any, w_sorted_l, w_sorted_t, w_split, w_join, w_in_t, w_nin_t, w_in_ts, w_nin_ts, e_draw, e_cok_int, e_cok_bl, e_cok_str, List.map_cons, List.map_nil, List.all_cons, List.all_nil, List.length_cons, List.length_nil, List.getElem?_cons_zero, List.getElem?_cons_succ, List.set_cons_zero, List.set_cons_succ, retD, Tg.put, puts, wipeE, true_and, and_true, and_self, Bool.and_true, Bool.true_and, exists_eq_left', exists_eq_left, R.fr.injEq, R.ow.injEq, Option.some.injEq, D.bl.injEq, D.int.injEq, D.str.injEq, D.lst.injEq, D.tup.injEq, decide_eq_true_eq, if_true, exists_eq', Bool.not_true, Bool.not_false, ite_true, ite_false, if_false, Bool.false_eq_true]
    refine ⟨(t, N), rfl, ok, ?_⟩
    rintro r rfl
    try simp only [e_dSeq, e_dNext, e_dSet, e_dRet, e_dDrop, e_dIfS, e_dTgS, e_dC, e_dBin, e_dTst, e_dChn, e_dAnd, e_dOr, e_dNot, e_dAndV, e_dOrV, e_dNotV, e_dIf, e_dNil, e_dCons, e_dLst, e_dTup, e_dCB, e_dCall, e_dYes, e_dApp, e_dAug, e_dAugM, e_dIsi, e_dIsi2, e_dSl, e_dNoP, e_dPart, e_dM1, e_dFor, e_dLC, e_dIt, e_dRng1, e_dZipM, e_dRngN, e_dRev, e_dPar0, w_maxT, e_dSrtSet, e_dItS, e_dPar2, e_dPar3, e_par2, e_par3, e_dCallD, e_dCallK, e_dRng2, e_dEnum, e_dZip, nm0f, nm0o, nm0d, bo0f, bo0o, bo0d, mv0f, mv0o, mv0d, nm1f, nm1o, nm1d, bo1f, bo1o, bo1d, mv1f, mv1o, mv1d, nm2f, nm2o, nm2d, bo2f, bo2o, bo2d, mv2f, mv2o, mv2d, nm3f, nm3o, nm3d, bo3f, bo3o, bo3d, mv3f, mv3o, mv3d, nm4f, nm4o, nm4d, bo4f, bo4o, bo4d, mv4f, mv4o, mv4d, nm5f, nm5o, nm5d, bo5f, bo5o, bo5d, mv5f, mv5o, mv5d, nm6f, nm6o, nm6d, bo6f, bo6o, bo6d, mv6f, mv6o, mv6d, nm7f, nm7o, nm7d, bo7f, bo7o, bo7d, mv7f, mv7o, mv7d, nm8f, nm8o, nm8d, bo8f, bo8o, bo8d, mv8f, mv8o, mv8d, nm9f, nm9o, nm9d, bo9f, bo9o, bo9d, mv9f, mv9o, mv9d, nm10f, nm10o, nm10d, bo10f, bo10o, bo10d, mv10f, mv10o, mv10d, nm11f, nm11o, nm11d, bo11f, bo11o, bo11d, mv11f, mv11o, mv11d, nm12f, nm12o, nm12d, bo12f, bo12o, bo12d, mv12f, mv12o, mv12d, nm13f, nm13o, nm13d, bo13f, bo13o, bo13d, mv13f, mv13o, mv13d, nm14f, nm14o, nm14d, bo14f, bo14o, bo14d, mv14f, mv14o, mv14d, nm15f, nm15o, nm15d, bo15f, bo15o, bo15d, mv15f, mv15o, mv15d, nm16f, bo16f, mv16f, nm16o, bo16o, mv16o, nm16d, bo16d, mv16d, nm17f, bo17f, mv17f, nm17o, bo17o, mv17o, nm17d, bo17d, mv17d, nm18f, bo18f, mv18f, nm18o, bo18o, mv18o, nm18d, bo18d, mv18d, nm19f, bo19f, mv19f, nm19o, bo19o, mv19o, nm19d, bo19d, mv19d, nm20f, bo20f, mv20f, nm20o, bo20o, mv20o, nm20d, bo20d, mv20d, nm21f, bo21f, mv21f, nm21o, bo21o, mv21o, nm21d, bo21d, mv21d, nm22f, bo22f, mv22f, nm22o, bo22o, mv22o, nm22d, bo22d, mv22d, nm23f, bo23f, mv23f, nm23o, bo23o, mv23o, nm23d, bo23d, mv23d, d_fr, fz_fr, isFr_fr, free_fr, d_ow, fz_ow, isFr_ow, free_ow, d_od, fz_od, isFr_od, free_od, d_bo, fz_bo, isFr_bo, free_bo, d_bd, fz_bd, isFr_bd, free_bd, w_add_i, w_add_s, w_add_l, w_add_t, w_sub, w_mul_i, w_mul_s, w_mul_l, w_mul_t, w_mod, w_fdv, w_pow, w_le_i, w_gt_i, w_ge_i, w_le_s, w_gt_s, w_ge_s, w_lt_i, w_lt_s, w_eq, w_ne, w_is_b, w_isN_b, w_in_l, w_nin_l, w_ix_l, w_ix_t, w_ix_s, w_sl_l, w_sl_t, w_sl_s, w_len_l, w_len_t, w_len_s, w_list_l, w_list_t, w_tuple_l, w_tuple_t, w_str, w_int_i, w_int_b, w_int_s, w_max2, w_max_l, w_min2, w_min_l, w_all, w_any, w_sorted_l, w_sorted_t, w_split, w_join, w_in_t, w_nin_t, w_in_ts, w_nin_ts, e_draw, e_cok_int, e_cok_bl, e_cok_str, List.map_cons, List.map_nil, List.all_cons, List.all_nil, List.length_cons, List.length_nil, List.getElem?_cons_zero, List.getElem?_cons_succ, List.set_cons_zero, List.set_cons_succ, retD, Tg.put, puts, wipeE, true_and, and_true, and_self, Bool.and_true, Bool.true_and, exists_eq_left', exists_eq_left, R.fr.injEq, R.ow.injEq, Option.some.injEq, D.bl.injEq, D.int.injEq, D.str.injEq, D.lst.injEq, D.tup.injEq, decide_eq_true_eq, if_true, exists_eq', Bool.not_true, Bool.not_false, ite_true, ite_false, if_false, Bool.false_eq_true]
    refine ⟨.inl rfl, (t, N), rfl, ok, ?_⟩
    rintro r rfl
    try simp only [e_dSeq, e_dNext, e_dSet, e_dRet, e_dDrop, e_dIfS, e_dTgS, e_dC, e_dBin, e_dTst, e_dChn, e_dAnd, e_dOr, e_dNot, e_dAndV, e_dOrV, e_dNotV, e_dIf, e_dNil, e_dCons, e_dLst, e_dTup, e_dCB, e_dCall, e_dYes, e_dApp, e_dAug, e_dAugM, e_dIsi, e_dIsi2, e_dSl, e_dNoP, e_dPart, e_dM1, e_dFor, e_dLC, e_dIt, e_dRng1, e_dZipM, e_dRngN, e_dRev, e_dPar0, w_maxT, e_dSrtSet, e_dItS, e_dPar2, e_dPar3, e_par2, e_par3, e_dCallD, e_dCallK, e_dRng2, e_dEnum, e_dZip, nm0f, nm0o, nm0d, bo0f, bo0o, bo0d, mv0f, mv0o, mv0d, nm1f, nm1o, nm1d, bo1f, bo1o, bo1d, mv1f, mv1o, mv1d, nm2f, nm2o, nm2d, bo2f, bo2o, bo2d, mv2f, mv2o, mv2d, nm3f, nm3o, nm3d, bo3f, bo3o, bo3d, mv3f, mv3o, mv3d, nm4f, nm4o, nm4d, bo4f, bo4o, bo4d, mv4f, mv4o, mv4d, nm5f, nm5o, nm5d, bo5f, bo5o, bo5d, mv5f, mv5o, mv5d, nm6f, nm6o, nm6d, bo6f, bo6o, bo6d, mv6f, mv6o, mv6d, nm7f, nm7o, nm7d, bo7f, bo7o, bo7d, mv7f, mv7o, mv7d, nm8f, nm8o, nm8d, bo8f, bo8o, bo8d, mv8f, mv8o, mv8d, nm9f, nm9o, nm9d, bo9f, bo9o, bo9d, mv9f, mv9o, mv9d, nm10f, nm10o, nm10d, bo10f, bo10o, bo10d, mv10f, mv10o, mv10d, nm11f, nm11o, nm11d, bo11f, bo11o, bo11d, mv11f, mv11o, mv11d, nm12f, nm12o, nm12d, bo12f, bo12o, bo12d, mv12f, mv12o, mv12d, nm13f, nm13o, nm13d, bo13f, bo13o, bo13d, mv13f, mv13o, mv13d, nm14f, nm14o, nm14d, bo14f, bo14o, bo14d, mv14f, mv14o, mv14d, nm15f, nm15o, nm15d, bo15f, bo15o, bo15d, mv15f, mv15o, mv15d, nm16f, bo16f, mv16f, nm16o, bo16o, mv16o, nm16d, bo16d, mv16d, nm17f, bo17f, mv17f, nm17o, bo17o, mv17o, nm17d, bo17d, mv17d, nm18f, bo18f, mv18f, nm18o, bo18o, mv18o, nm18d, bo18d, mv18d, nm19f, bo19f, mv19f, nm19o, bo19o, mv19o, nm19d, bo19d, mv19d, nm20f, bo20f, mv20f, nm20o, bo20o, mv20o, nm20d, bo20d, mv20d, nm21f, bo21f, mv21f, nm21o, bo21o, mv21o, nm21d, bo21d, mv21d, nm22f, bo22f, mv22f, nm22o, bo22o, mv22o, nm22d, bo22d, mv22d, nm23f, bo23f, mv23f, nm23o, bo23o, mv23o, nm23d, bo23d, mv23d, d_fr, fz_fr, isFr_fr, free_fr, d_ow, fz_ow, isFr_ow, free_ow, d_od, fz_od, isFr_od, free_od, d_bo, fz_bo, isFr_bo, free_bo, d_bd, fz_bd, isFr_bd, free_bd, w_add_i, w_add_s, w_add_l, w_add_t, w_sub, w_mul_i, w_mul_s, w_mul_l, w_mul_t, w_mod, w_fdv, w_pow, w_le_i, w_gt_i, w_ge_i, w_le_s, w_gt_s, w_ge_s, w_lt_i, w_lt_s, w_eq, w_ne, w_is_b, w_isN_b, w_in_l, w_nin_l, w_ix_l, w_ix_t, w_ix_s, w_sl_l, w_sl_t, w_sl_s, w_len_l, w_len_t, w_len_s, w_list_l, w_list_t, w_tuple_l, w_tuple_t, w_str, w_int_i, w_int_b, w_int_s, w_max2, w_max_l, w_min2, w_min_l, w_all, w_any, w_sorted_l, w_sorted_t, w_split, w_join, w_in_t, w_nin_t, w_in_ts, w_nin_ts, e_draw, e_cok_int, e_cok_bl, e_cok_str, List.map_cons, List.map_nil, List.all_cons, List.all_nil, List.length_cons, List.length_nil, List.getElem?_cons_zero, List.getElem?_cons_succ, List.set_cons_zero, List.set_cons_succ, retD, Tg.put, puts, wipeE, true_and, and_true, and_self, Bool.and_true, Bool.true_and, exists_eq_left', exists_eq_left, R.fr.injEq, R.ow.injEq, Option.some.injEq, D.bl.injEq, D.int.injEq, D.str.injEq, D.lst.injEq, D.tup.injEq, decide_eq_true_eq, if_true, exists_eq', Bool.not_true, Bool.not_false, ite_true, ite_false, if_false, Bool.false_eq_true]
    rw [nD_map (srtN N)]
    have s1 : ∀ l ∈ (srtN N).map nm, chs l := fun l hl => by
      obtain ⟨x, hx, rfl⟩ := List.mem_map.mp hl
      exact nm_chs ok x ((srtN_perm N).mem_iff.mp hx)
    have s2 : ∀ l ∈ ssort (N.map nm), chs l := fun l hl => by
      obtain ⟨x, hx, rfl⟩ := List.mem_map.mp ((ssort_perm _).mem_iff.mp hl)
      exact nm_chs ok x hx
    refine ⟨.inl rfl, shp_strs s1, shp_strs s2, ?_⟩
    refine q _ ?_
    show R.fr (.bl _) = R.fr (.bl _)
    rw [eqv_strs]
theorem cal_is_rising {f : Addr} {fd : FuncData} {k : Nat} (F : Fun K "is_rising" "is_rising" s_is_rising f fd) (b : Binds K fd ["texts"] []) (m : mg "is_rising" = some (.ref f)) (kp : PySem.W.keepIn K (.ref f) = true) (B : Bl mg) : Cal P w K mg base (k + 1) "is_rising" ["texts"] f fd sp_is_rising := by
  refine ⟨fn_dl F sc_is_rising (fun ds Q h => ?len) fun cdv A outer s H E hr => ?body, ?mono, m, kp, b⟩
  case len =>
    obtain ⟨x, rfl, -⟩ := h; rfl
  case mono =>
    exact SP_mono
  case body =>
    have hu64 := hr.units; have hu100 : (A.deeper (envOfC "is_rising" (defScope s_is_rising) s.heap.objs.size f cdv)).units + 100 < cLine := by have := hr.un; omega
    have hu65 : (A.deeper (envOfC "is_rising" (defScope s_is_rising) s.heap.objs.size f cdv)).units + 65 < cLine := by omega
    have hu1 : (A.deeper (envOfC "is_rising" (defScope s_is_rising) s.heap.objs.size f cdv)).units + 1 < cLine := by omega
    refine ⟨_, (qss_one (qs_ret (qe_callB (cd_all rfl) (by rfl) B.b_all bt_all (qa_cons (qe_lc [("one", 1), ("other", 2)] rfl sc_is_rising.nd (qi_zip (by rfl) B.b_zip (qa_cons (qe_nm (i := 0)) (qa_cons (qe_sl (qe_bo (i := 0)) (qo_some qe_int) qo_none) qa_nil))) (blkOk_by (by rfl)) (fun s H C cl fp => (qg_tp (is := [1, 2]) rfl (pgs_cons (pgn (i := 1) sc_is_rising.nd) (pgs_cons (pgn (i := 2) sc_is_rising.nd) pgs_nil)))) (fun s H C cl fp => qts_nil) (fun s H C cl fp => (qe_cmp (opd_lt hu64) (qe_bo (i := 1)) (qe_bo (i := 2)) (by rfl)))) qa_nil)))), fun ds Q h => ?_⟩
    obtain ⟨ls, rfl, -, q⟩ := h
    show (_ : TSd) (retD Q) [some (.fr (.lst (ls.map .str))), none, none]
    try simp only [e_dSeq, e_dNext, e_dSet, e_dRet, e_dDrop, e_dIfS, e_dTgS, e_dC, e_dBin, e_dTst, e_dChn, e_dAnd, e_dOr, e_dNot, e_dAndV, e_dOrV, e_dNotV, e_dIf, e_dNil, e_dCons, e_dLst, e_dTup, e_dCB, e_dCall, e_dYes, e_dApp, e_dAug, e_dAugM, e_dIsi, e_dIsi2, e_dSl, e_dNoP, e_dPart, e_dM1, e_dFor, e_dLC, e_dIt, e_dRng1, e_dZipM, e_dRngN, e_dRev, e_dPar0, w_maxT, e_dSrtSet, e_dItS, e_dPar2, e_dPar3, e_par2, e_par3, e_dCallD, e_dCallK, e_dRng2, e_dEnum, e_dZip, nm0f, nm0o, nm0d, bo0f, bo0o, bo0d, mv0f, mv0o, mv0d, nm1f, nm1o, nm1d, bo1f, bo1o, bo1d, mv1f, mv1o, mv1d, nm2f, nm2o, nm2d, bo2f, bo2o, bo2d, mv2f, mv2o, mv2d, nm3f, nm3o, nm3d, bo3f, bo3o, bo3d, mv3f, mv3o, mv3d, nm4f, nm4o, nm4d, bo4f, bo4o, bo4d, mv4f, mv4o, mv4d, nm5f, nm5o, nm5d, bo5f, bo5o, bo5d, mv5f, mv5o, mv5d, nm6f, nm6o, nm6d, bo6f, bo6o, bo6d, mv6f, mv6o, mv6d, nm7f, nm7o, nm7d, bo7f, bo7o, bo7d, mv7f, mv7o, mv7d, nm8f, nm8o, nm8d, bo8f, bo8o, bo8d, mv8f, mv8o, mv8d, nm9f, nm9o, nm9d, bo9f, bo9o, bo9d, mv9f, mv9o, mv9d, nm10f, nm10o, nm10d, bo10f, bo10o, bo10d, mv10f, mv10o, mv10d, nm11f, nm11o, nm11d, bo11f, bo11o, bo11d, mv11f, mv11o, mv11d, nm12f, nm12o, nm12d, bo12f, bo12o, bo12d, mv12f, mv12o, mv12d, nm13f, nm13o, nm13d, bo13f, bo13o, bo13d, mv13f, mv13o, mv13d, nm14f, nm14o, nm14d, bo14f, bo14o, bo14d, mv14f, mv14o, mv14d, nm15f, nm15o, nm15d, bo15f, bo15o, bo15d, mv15f, mv15o, mv15d, nm16f, bo16f, mv16f, nm16o, bo16o, mv16o, nm16d, bo16d, mv16d, nm17f, bo17f, mv17f, nm17o, bo17o, mv17o, nm17d, bo17d, mv17d, nm18f, bo18f, mv18f, nm18o, bo18o, mv18o, nm18d, bo18d, mv18d, nm19f, bo19f, mv19f, nm19o, bo19o, mv19o, nm19d, bo19d, mv19d, nm20f, bo20f, mv20f, nm20o, bo20o, mv20o, nm20d, bo20d, mv20d, nm21f, bo21f, mv21f, nm21o, bo21o, mv21o, nm21d, bo21d, mv21d, nm22f, bo22f, mv22f, nm22o, bo22o, mv22o, nm22d, bo22d, mv22d, nm23f, bo23f, mv23f, nm23o, bo23o, mv23o, nm23d, bo23d, mv23d, d_fr, fz_fr, isFr_fr, free_fr, d_ow, fz_ow, isFr_ow, free_ow, d_od, fz_od, isFr_od, free_od, d_bo, fz_bo, isFr_bo, free_bo, d_bd, fz_bd, isFr_bd, free_bd, w_add_i, w_add_s, w_add_l, w_add_t, w_sub, w_mul_i, w_mul_s, w_mul_l, w_mul_t, w_mod, w_fdv, w_pow, w_le_i, w_gt_i, w_ge_i, w_le_s, w_gt_s, w_ge_s, w_lt_i, w_lt_s, w_eq, w_ne, w_is_b, w_isN_b, w_in_l, w_nin_l, w_ix_l, w_ix_t, w_ix_s, w_sl_l, w_sl_t, w_sl_s, w_len_l, w_len_t, w_len_s, w_list_l, w_list_t, w_tuple_l, w_tuple_t, w_str, w_int_i, w_int_b, w_int_s, w_max2, w_max_l, w_min2, w_min_l, w_all, w_any, w_sorted_l, w_sorted_t, w_split, w_join, w_in_t, w_nin_t, w_in_ts, w_nin_ts, e_draw, e_cok_int, e_cok_bl, e_cok_str, List.map_cons, List.map_nil, List.all_cons, List.all_nil, List.length_cons, List.length_nil, List.getElem?_cons_zero, List.getElem?_cons_succ, List.set_cons_zero, List.set_cons_succ, retD, Tg.put, puts, wipeE, true_and, and_true, and_self, Bool.and_true, Bool.true_and, exists_eq_left', exists_eq_left, R.fr.injEq, R.ow.injEq, Option.some.injEq, D.bl.injEq, D.int.injEq, D.str.injEq, D.lst.injEq, D.tup.injEq, decide_eq_true_eq, if_true, exists_eq', Bool.not_true, Bool.not_false, ite_true, ite_false, if_false, Bool.false_eq_true]
    obtain ⟨bs, e1, e2⟩ := zip_rising ls
    rw [cut_map, show (1 : Int) = ((1 : Nat) : Int) from rfl, cut_from, e1]
    refine comp_mapF (fun p => .bl (decide (p.1 < p.2))) rfl (fun p hp P hP => ?_) ?_
    · refine ⟨_, rfl, ?_⟩
      try simp only [e_dSeq, e_dNext, e_dSet, e_dRet, e_dDrop, e_dIfS, e_dTgS, e_dC, e_dBin, e_dTst, e_dChn, e_dAnd, e_dOr, e_dNot, e_dAndV, e_dOrV, e_dNotV, e_dIf, e_dNil, e_dCons, e_dLst, e_dTup, e_dCB, e_dCall, e_dYes, e_dApp, e_dAug, e_dAugM, e_dIsi, e_dIsi2, e_dSl, e_dNoP, e_dPart, e_dM1, e_dFor, e_dLC, e_dIt, e_dRng1, e_dZipM, e_dRngN, e_dRev, e_dPar0, w_maxT, e_dSrtSet, e_dItS, e_dPar2, e_dPar3, e_par2, e_par3, e_dCallD, e_dCallK, e_dRng2, e_dEnum, e_dZip, nm0f, nm0o, nm0d, bo0f, bo0o, bo0d, mv0f, mv0o, mv0d, nm1f, nm1o, nm1d, bo1f, bo1o, bo1d, mv1f, mv1o, mv1d, nm2f, nm2o, nm2d, bo2f, bo2o, bo2d, mv2f, mv2o, mv2d, nm3f, nm3o, nm3d, bo3f, bo3o, bo3d, mv3f, mv3o, mv3d, nm4f, nm4o, nm4d, bo4f, bo4o, bo4d, mv4f, mv4o, mv4d, nm5f, nm5o, nm5d, bo5f, bo5o, bo5d, mv5f, mv5o, mv5d, nm6f, nm6o, nm6d, bo6f, bo6o, bo6d, mv6f, mv6o, mv6d, nm7f, nm7o, nm7d, bo7f, bo7o, bo7d, mv7f, mv7o, mv7d, nm8f, nm8o, nm8d, bo8f, bo8o, bo8d, mv8f, mv8o, mv8d, nm9f, nm9o, nm9d, bo9f, bo9o, bo9d, mv9f, mv9o, mv9d, nm10f, nm10o, nm10d, bo10f, bo10o, bo10d, mv10f, mv10o, mv10d, nm11f, nm11o, nm11d, bo11f, bo11o, bo11d, mv11f, mv11o, mv11d, nm12f, nm12o, nm12d, bo12f, bo12o, bo12d, mv12f, mv12o, mv12d, nm13f, nm13o, nm13d, bo13f, bo13o, bo13d, mv13f, mv13o, mv13d, nm14f, nm14o, nm14d, bo14f, bo14o, bo14d, mv14f, mv14o, mv14d, nm15f, nm15o, nm15d, bo15f, bo15o, bo15d, mv15f, mv15o, mv15d, nm16f, bo16f, mv16f, nm16o, bo16o, mv16o, nm16d, bo16d, mv16d, nm17f, bo17f, mv17f, nm17o, bo17o, mv17o, nm17d, bo17d, mv17d, nm18f, bo18f, mv18f, nm18o, bo18o, mv18o, nm18d, bo18d, mv18d, nm19f, bo19f, mv19f, nm19o, bo19o, mv19o, nm19d, bo19d, mv19d, nm20f, bo20f, mv20f, nm20o, bo20o, mv20o, nm20d, bo20d, mv20d, nm21f, bo21f, mv21f, nm21o, bo21o, mv21o, nm21d, bo21d, mv21d, nm22f, bo22f, mv22f, nm22o, bo22o, mv22o, nm22d, bo22d, mv22d, nm23f, bo23f, mv23f, nm23o, bo23o, mv23o, nm23d, bo23d, mv23d, d_fr, fz_fr, isFr_fr, free_fr, d_ow, fz_ow, isFr_ow, free_ow, d_od, fz_od, isFr_od, free_od, d_bo, fz_bo, isFr_bo, free_bo, d_bd, fz_bd, isFr_bd, free_bd, w_add_i, w_add_s, w_add_l, w_add_t, w_sub, w_mul_i, w_mul_s, w_mul_l, w_mul_t, w_mod, w_fdv, w_pow, w_le_i, w_gt_i, w_ge_i, w_le_s, w_gt_s, w_ge_s, w_lt_i, w_lt_s, w_eq, w_ne, w_is_b, w_isN_b, w_in_l, w_nin_l, w_ix_l, w_ix_t, w_ix_s, w_sl_l, w_sl_t, w_sl_s, w_len_l, w_len_t, w_len_s, w_list_l, w_list_t, w_tuple_l, w_tuple_t, w_str, w_int_i, w_int_b, w_int_s, w_max2, w_max_l, w_min2, w_min_l, w_all, w_any, w_sorted_l, w_sorted_t, w_split, w_join, w_in_t, w_nin_t, w_in_ts, w_nin_ts, e_draw, e_cok_int, e_cok_bl, e_cok_str, List.map_cons, List.map_nil, List.all_cons, List.all_nil, List.length_cons, List.length_nil, List.getElem?_cons_zero, List.getElem?_cons_succ, List.set_cons_zero, List.set_cons_succ, retD, Tg.put, puts, wipeE, true_and, and_true, and_self, Bool.and_true, Bool.true_and, exists_eq_left', exists_eq_left, R.fr.injEq, R.ow.injEq, Option.some.injEq, D.bl.injEq, D.int.injEq, D.str.injEq, D.lst.injEq, D.tup.injEq, decide_eq_true_eq, if_true, exists_eq', Bool.not_true, Bool.not_false, ite_true, ite_false, if_false, Bool.false_eq_true]
      exact hP
    · try simp only [e_dSeq, e_dNext, e_dSet, e_dRet, e_dDrop, e_dIfS, e_dTgS, e_dC, e_dBin, e_dTst, e_dChn, e_dAnd, e_dOr, e_dNot, e_dAndV, e_dOrV, e_dNotV, e_dIf, e_dNil, e_dCons, e_dLst, e_dTup, e_dCB, e_dCall, e_dYes, e_dApp, e_dAug, e_dAugM, e_dIsi, e_dIsi2, e_dSl, e_dNoP, e_dPart, e_dM1, e_dFor, e_dLC, e_dIt, e_dRng1, e_dZipM, e_dRngN, e_dRev, e_dPar0, w_maxT, e_dSrtSet, e_dItS, e_dPar2, e_dPar3, e_par2, e_par3, e_dCallD, e_dCallK, e_dRng2, e_dEnum, e_dZip, nm0f, nm0o, nm0d, bo0f, bo0o, bo0d, mv0f, mv0o, mv0d, nm1f, nm1o, nm1d, bo1f, bo1o, bo1d, mv1f, mv1o, mv1d, nm2f, nm2o, nm2d, bo2f, bo2o, bo2d, mv2f, mv2o, mv2d, nm3f, nm3o, nm3d, bo3f, bo3o, bo3d, mv3f, mv3o, mv3d, nm4f, nm4o, nm4d, bo4f, bo4o, bo4d, mv4f, mv4o, mv4d, nm5f, nm5o, nm5d, bo5f, bo5o, bo5d, mv5f, mv5o, mv5d, nm6f, nm6o, nm6d, bo6f, bo6o, bo6d, mv6f, mv6o, mv6d, nm7f, nm7o, nm7d, bo7f, bo7o, bo7d, mv7f, mv7o, mv7d, nm8f, nm8o, nm8d, bo8f, bo8o, bo8d, mv8f, mv8o, mv8d, nm9f, nm9o, nm9d, bo9f, bo9o, bo9d, mv9f, mv9o, mv9d, nm10f, nm10o, nm10d, bo10f, bo10o, bo10d, mv10f, mv10o, mv10d, nm11f, nm11o, nm11d, bo11f, bo11o, bo11d, mv11f, mv11o, mv11d, nm12f, nm12o, nm12d, bo12f, bo12o, bo12d, mv12f, mv12o, mv12d, nm13f, nm13o, nm13d, bo13f, bo13o, bo13d, mv13f, mv13o, mv13d, nm14f, nm14o, nm14d, bo14f, bo14o, bo14d, mv14f, mv14o, mv14d, nm15f, nm15o, nm15d, bo15f, bo15o, bo15d, mv15f, mv15o, mv15d, nm16f, bo16f, mv16f, nm16o, bo16o, mv16o, nm16d, bo16d, mv16d, nm17f, bo17f, mv17f, nm17o, bo17o, mv17o, nm17d, bo17d, mv17d, nm18f, bo18f, mv18f, nm18o, bo18o, mv18o, nm18d, bo18d, mv18d, nm19f, bo19f, mv19f, nm19o, bo19o, mv19o, nm19d, bo19d, mv19d, nm20f, bo20f, mv20f, nm20o, bo20o, mv20o, nm20d, bo20d, mv20d, nm21f, bo21f, mv21f, nm21o, bo21o, mv21o, nm21d, bo21d, mv21d, nm22f, bo22f, mv22f, nm22o, bo22o, mv22o, nm22d, bo22d, mv22d, nm23f, bo23f, mv23f, nm23o, bo23o, mv23o, nm23d, bo23d, mv23d, d_fr, fz_fr, isFr_fr, free_fr, d_ow, fz_ow, isFr_ow, free_ow, d_od, fz_od, isFr_od, free_od, d_bo, fz_bo, isFr_bo, free_bo, d_bd, fz_bd, isFr_bd, free_bd, w_add_i, w_add_s, w_add_l, w_add_t, w_sub, w_mul_i, w_mul_s, w_mul_l, w_mul_t, w_mod, w_fdv, w_pow, w_le_i, w_gt_i, w_ge_i, w_le_s, w_gt_s, w_ge_s, w_lt_i, w_lt_s, w_eq, w_ne, w_is_b, w_isN_b, w_in_l, w_nin_l, w_ix_l, w_ix_t, w_ix_s, w_sl_l, w_sl_t, w_sl_s, w_len_l, w_len_t, w_len_s, w_list_l, w_list_t, w_tuple_l, w_tuple_t, w_str, w_int_i, w_int_b, w_int_s, w_max2, w_max_l, w_min2, w_min_l, w_all, w_any, w_sorted_l, w_sorted_t, w_split, w_join, w_in_t, w_nin_t, w_in_ts, w_nin_ts, e_draw, e_cok_int, e_cok_bl, e_cok_str, List.map_cons, List.map_nil, List.all_cons, List.all_nil, List.length_cons, List.length_nil, List.getElem?_cons_zero, List.getElem?_cons_succ, List.set_cons_zero, List.set_cons_succ, retD, Tg.put, puts, wipeE, true_and, and_true, and_self, Bool.and_true, Bool.true_and, exists_eq_left', exists_eq_left, R.fr.injEq, R.ow.injEq, Option.some.injEq, D.bl.injEq, D.int.injEq, D.str.injEq, D.lst.injEq, D.tup.injEq, decide_eq_true_eq, if_true, exists_eq', Bool.not_true, Bool.not_false, ite_true, ite_false, if_false, Bool.false_eq_true]
      refine ⟨bs.map fun p => decide (p.1 < p.2), by simp, ?_⟩
      rw [e2]
      exact q _ rfl
theorem cal_is_agreeing {f : Addr} {fd : FuncData} {f_is_rising : Addr} {fd_is_rising : FuncData} {k : Nat} (F : Fun K "is_agreeing" "is_agreeing" s_is_agreeing f fd) (b : Binds K fd ["values"] []) (m : mg "is_agreeing" = some (.ref f)) (kp : PySem.W.keepIn K (.ref f) = true) (B : Bl mg) (C_is_rising : Cal P w K mg base k "is_rising" ["texts"] f_is_rising fd_is_rising sp_is_rising) : Cal P w K mg base (k + 1) "is_agreeing" ["values"] f fd sp_is_agreeing := by
  refine ⟨fn_dl F sc_is_agreeing (fun ds Q h => ?len) fun cdv A outer s H E hr => ?body, ?mono, m, kp, b⟩
  case len =>
    obtain ⟨x, rfl, -⟩ := h; rfl
  case mono =>
    exact SP_mono
  case body =>
    have hu64 := hr.units; have hu100 : (A.deeper (envOfC "is_agreeing" (defScope s_is_agreeing) s.heap.objs.size f cdv)).units + 100 < cLine := by have := hr.un; omega
    have hu65 : (A.deeper (envOfC "is_agreeing" (defScope s_is_agreeing) s.heap.objs.size f cdv)).units + 65 < cLine := by omega
    have hu1 : (A.deeper (envOfC "is_agreeing" (defScope s_is_agreeing) s.heap.objs.size f cdv)).units + 1 < cLine := by omega
    refine ⟨_, (qss_one (qs_ret (qe_callC C_is_rising hr (by rfl) (qa_cons (qe_lc [("value", 1)] rfl sc_is_agreeing.nd (qi_seq (qe_callB (cd_sorted hu100) (by rfl) B.b_sorted bt_sorted (qa_cons (qe_bo (i := 0)) qa_nil))) (blkOk_by (by rfl)) (fun s H C cl fp => (qg_nm (i := 1) sc_is_agreeing.nd)) (fun s H C cl fp => qts_nil) (fun s H C cl fp => (qe_callTy cd_str (by rfl) B.b_str bt_str (qa_cons (qe_bo (i := 1)) qa_nil)))) qa_nil)))), fun ds Q h => ?_⟩
    obtain ⟨vs, rfl, hn, q⟩ := h
    show (_ : TSd) (retD Q) [some (.fr (.tup (vs.map .int))), none]
    try simp only [e_dSeq, e_dNext, e_dSet, e_dRet, e_dDrop, e_dIfS, e_dTgS, e_dC, e_dBin, e_dTst, e_dChn, e_dAnd, e_dOr, e_dNot, e_dAndV, e_dOrV, e_dNotV, e_dIf, e_dNil, e_dCons, e_dLst, e_dTup, e_dCB, e_dCall, e_dYes, e_dApp, e_dAug, e_dAugM, e_dIsi, e_dIsi2, e_dSl, e_dNoP, e_dPart, e_dM1, e_dFor, e_dLC, e_dIt, e_dRng1, e_dZipM, e_dRngN, e_dRev, e_dPar0, w_maxT, e_dSrtSet, e_dItS, e_dPar2, e_dPar3, e_par2, e_par3, e_dCallD, e_dCallK, e_dRng2, e_dEnum, e_dZip, nm0f, nm0o, nm0d, bo0f, bo0o, bo0d, mv0f, mv0o, mv0d, nm1f, nm1o, nm1d, bo1f, bo1o, bo1d, mv1f, mv1o, mv1d, nm2f, nm2o, nm2d, bo2f, bo2o, bo2d, mv2f, mv2o, mv2d, nm3f, nm3o, nm3d, bo3f, bo3o, bo3d, mv3f, mv3o, mv3d, nm4f, nm4o, nm4d, bo4f, bo4o, bo4d, mv4f, mv4o, mv4d, nm5f, nm5o, nm5d, bo5f, bo5o, bo5d, mv5f, mv5o, mv5d, nm6f, nm6o, nm6d, bo6f, bo6o, bo6d, mv6f, mv6o, mv6d, nm7f, nm7o, nm7d, bo7f, bo7o, bo7d, mv7f, mv7o, mv7d, nm8f, nm8o, nm8d, bo8f, bo8o, bo8d, mv8f, mv8o, mv8d, nm9f, nm9o, nm9d, bo9f, bo9o, bo9d, mv9f, mv9o, mv9d, nm10f, nm10o, nm10d, bo10f, bo10o, bo10d, mv10f, mv10o, mv10d, nm11f, nm11o, nm11d, bo11f, bo11o, bo11d, mv11f, mv11o, mv11d, nm12f, nm12o, nm12d, bo12f, bo12o, bo12d, mv12f, mv12o, mv12d, nm13f, nm13o, nm13d, bo13f, bo13o, bo13d, mv13f, mv13o, mv13d, nm14f, nm14o, nm14d, bo14f, bo14o, bo14d, mv14f, mv14o, mv14d, nm15f, nm15o, nm15d, bo15f, bo15o, bo15d, mv15f, mv15o, mv15d, nm16f, bo16f, mv16f, nm16o, bo16o, mv16o, nm16d, bo16d, mv16d, nm17f, bo17f, mv17f, nm17o, bo17o, mv17o, nm17d, bo17d, mv17d, nm18f, bo18f, mv18f, nm18o, bo18o, mv18o, nm18d, bo18d, mv18d, nm19f, bo19f, mv19f, nm19o, bo19o, mv19o, nm19d, bo19d, mv19d, nm20f, bo20f, mv20f, nm20o, bo20o, mv20o, nm20d, bo20d, mv20d, nm21f, bo21f, mv21f, nm21o, bo21o, mv21o, nm21d, bo21d, mv21d, nm22f, bo22f, mv22f, nm22o, bo22o, mv22o, nm22d, bo22d, mv22d, nm23f, bo23f, mv23f, nm23o, bo23o, mv23o, nm23d, bo23d, mv23d, d_fr, fz_fr, isFr_fr, free_fr, d_ow, fz_ow, isFr_ow, free_ow, d_od, fz_od, isFr_od, free_od, d_bo, fz_bo, isFr_bo, free_bo, d_bd, fz_bd, isFr_bd, free_bd, w_add_i, w_add_s, w_add_l, w_add_t, w_sub, w_mul_i, w_mul_s, w_mul_l, w_mul_t, w_mod, w_fdv, w_pow, w_le_i, w_gt_i, w_ge_i, w_le_s, w_gt_s, w_ge_s, w_lt_i, w_lt_s, w_eq, w_ne, w_is_b, w_isN_b, w_in_l, w_nin_l, w_ix_l, w_ix_t, w_ix_s, w_sl_l, w_sl_t, w_sl_s, w_len_l, w_len_t, w_len_s, w_list_l, w_list_t, w_tuple_l, w_tuple_t, w_str, w_int_i, w_int_b, w_int_s, w_max2, w_max_l, w_min2, w_min_l, w_all, w_any, w_sorted_l, w_sorted_t, w_split, w_join, w_in_t, w_nin_t, w_in_ts, w_nin_ts, e_draw, e_cok_int, e_cok_bl, e_cok_str, List.map_cons, List.map_nil, List.all_cons, List.all_nil, List.length_cons, List.length_nil, List.getElem?_cons_zero, List.getElem?_cons_succ, List.set_cons_zero, List.set_cons_succ, retD, Tg.put, puts, wipeE, true_and, and_true, and_self, Bool.and_true, Bool.true_and, exists_eq_left', exists_eq_left, R.fr.injEq, R.ow.injEq, Option.some.injEq, D.bl.injEq, D.int.injEq, D.str.injEq, D.lst.injEq, D.tup.injEq, decide_eq_true_eq, if_true, exists_eq', Bool.not_true, Bool.not_false, ite_true, ite_false, if_false, Bool.false_eq_true]
    rw [sort_ints]
    refine ⟨srt_ints _, ?_⟩
    refine comp_mapF (fun n => .str (istr n)) rfl (fun n hm P hP => ?_) ?_
    · refine ⟨_, rfl, ?_⟩
      try simp only [e_dSeq, e_dNext, e_dSet, e_dRet, e_dDrop, e_dIfS, e_dTgS, e_dC, e_dBin, e_dTst, e_dChn, e_dAnd, e_dOr, e_dNot, e_dAndV, e_dOrV, e_dNotV, e_dIf, e_dNil, e_dCons, e_dLst, e_dTup, e_dCB, e_dCall, e_dYes, e_dApp, e_dAug, e_dAugM, e_dIsi, e_dIsi2, e_dSl, e_dNoP, e_dPart, e_dM1, e_dFor, e_dLC, e_dIt, e_dRng1, e_dZipM, e_dRngN, e_dRev, e_dPar0, w_maxT, e_dSrtSet, e_dItS, e_dPar2, e_dPar3, e_par2, e_par3, e_dCallD, e_dCallK, e_dRng2, e_dEnum, e_dZip, nm0f, nm0o, nm0d, bo0f, bo0o, bo0d, mv0f, mv0o, mv0d, nm1f, nm1o, nm1d, bo1f, bo1o, bo1d, mv1f, mv1o, mv1d, nm2f, nm2o, nm2d, bo2f, bo2o, bo2d, mv2f, mv2o, mv2d, nm3f, nm3o, nm3d, bo3f, bo3o, bo3d, mv3f, mv3o, mv3d, nm4f, nm4o, nm4d, bo4f, bo4o, bo4d, mv4f, mv4o, mv4d, nm5f, nm5o, nm5d, bo5f, bo5o, bo5d, mv5f, mv5o, mv5d, nm6f, nm6o, nm6d, bo6f, bo6o, bo6d, mv6f, mv6o, mv6d, nm7f, nm7o, nm7d, bo7f, bo7o, bo7d, mv7f, mv7o, mv7d, nm8f, nm8o, nm8d, bo8f, bo8o, bo8d, mv8f, mv8o, mv8d, nm9f, nm9o, nm9d, bo9f, bo9o, bo9d, mv9f, mv9o, mv9d, nm10f, nm10o, nm10d, bo10f, bo10o, bo10d, mv10f, mv10o, mv10d, nm11f, nm11o, nm11d, bo11f, bo11o, bo11d, mv11f, mv11o, mv11d, nm12f, nm12o, nm12d, bo12f, bo12o, bo12d, mv12f, mv12o, mv12d, nm13f, nm13o, nm13d, bo13f, bo13o, bo13d, mv13f, mv13o, mv13d, nm14f, nm14o, nm14d, bo14f, bo14o, bo14d, mv14f, mv14o, mv14d, nm15f, nm15o, nm15d, bo15f, bo15o, bo15d, mv15f, mv15o, mv15d, nm16f, bo16f, mv16f, nm16o, bo16o, mv16o, nm16d, bo16d, mv16d, nm17f, bo17f, mv17f, nm17o, bo17o, mv17o, nm17d, bo17d, mv17d, nm18f, bo18f, mv18f, nm18o, bo18o, mv18o, nm18d, bo18d, mv18d, nm19f, bo19f, mv19f, nm19o, bo19o, mv19o, nm19d, bo19d, mv19d, nm20f, bo20f, mv20f, nm20o, bo20o, mv20o, nm20d, bo20d, mv20d, nm21f, bo21f, mv21f, nm21o, bo21o, mv21o, nm21d, bo21d, mv21d, nm22f, bo22f, mv22f, nm22o, bo22o, mv22o, nm22d, bo22d, mv22d, nm23f, bo23f, mv23f, nm23o, bo23o, mv23o, nm23d, bo23d, mv23d, d_fr, fz_fr, isFr_fr, free_fr, d_ow, fz_ow, isFr_ow, free_ow, d_od, fz_od, isFr_od, free_od, d_bo, fz_bo, isFr_bo, free_bo, d_bd, fz_bd, isFr_bd, free_bd, w_add_i, w_add_s, w_add_l, w_add_t, w_sub, w_mul_i, w_mul_s, w_mul_l, w_mul_t, w_mod, w_fdv, w_pow, w_le_i, w_gt_i, w_ge_i, w_le_s, w_gt_s, w_ge_s, w_lt_i, w_lt_s, w_eq, w_ne, w_is_b, w_isN_b, w_in_l, w_nin_l, w_ix_l, w_ix_t, w_ix_s, w_sl_l, w_sl_t, w_sl_s, w_len_l, w_len_t, w_len_s, w_list_l, w_list_t, w_tuple_l, w_tuple_t, w_str, w_int_i, w_int_b, w_int_s, w_max2, w_max_l, w_min2, w_min_l, w_all, w_any, w_sorted_l, w_sorted_t, w_split, w_join, w_in_t, w_nin_t, w_in_ts, w_nin_ts, e_draw, e_cok_int, e_cok_bl, e_cok_str, List.map_cons, List.map_nil, List.all_cons, List.all_nil, List.length_cons, List.length_nil, List.getElem?_cons_zero, List.getElem?_cons_succ, List.set_cons_zero, List.set_cons_succ, retD, Tg.put, puts, wipeE, true_and, and_true, and_self, Bool.and_true, Bool.true_and, exists_eq_left', exists_eq_left, R.fr.injEq, R.ow.injEq, Option.some.injEq, D.bl.injEq, D.int.injEq, D.str.injEq, D.lst.injEq, D.tup.injEq, decide_eq_true_eq, if_true, exists_eq', Bool.not_true, Bool.not_false, ite_true, ite_false, if_false, Bool.false_eq_true]
      exact ⟨log_small (hn n ((isort_perm vs).mem_iff.mp hm)), hP⟩
    try simp only [e_dSeq, e_dNext, e_dSet, e_dRet, e_dDrop, e_dIfS, e_dTgS, e_dC, e_dBin, e_dTst, e_dChn, e_dAnd, e_dOr, e_dNot, e_dAndV, e_dOrV, e_dNotV, e_dIf, e_dNil, e_dCons, e_dLst, e_dTup, e_dCB, e_dCall, e_dYes, e_dApp, e_dAug, e_dAugM, e_dIsi, e_dIsi2, e_dSl, e_dNoP, e_dPart, e_dM1, e_dFor, e_dLC, e_dIt, e_dRng1, e_dZipM, e_dRngN, e_dRev, e_dPar0, w_maxT, e_dSrtSet, e_dItS, e_dPar2, e_dPar3, e_par2, e_par3, e_dCallD, e_dCallK, e_dRng2, e_dEnum, e_dZip, nm0f, nm0o, nm0d, bo0f, bo0o, bo0d, mv0f, mv0o, mv0d, nm1f, nm1o, nm1d, bo1f, bo1o, bo1d, mv1f, mv1o, mv1d, nm2f, nm2o, nm2d, bo2f, bo2o, bo2d, mv2f, mv2o, mv2d, nm3f, nm3o, nm3d, bo3f, bo3o, bo3d, mv3f, mv3o, mv3d, nm4f, nm4o, nm4d, bo4f, bo4o, bo4d, mv4f, mv4o, mv4d, nm5f, nm5o, nm5d, bo5f, bo5o, bo5d, mv5f, mv5o, mv5d, nm6f, nm6o, nm6d, bo6f, bo6o, bo6d, mv6f, mv6o, mv6d, nm7f, nm7o, nm7d, bo7f, bo7o, bo7d, mv7f, mv7o, mv7d, nm8f, nm8o, nm8d, bo8f, bo8o, bo8d, mv8f, mv8o, mv8d, nm9f, nm9o, nm9d, bo9f, bo9o, bo9d, mv9f, mv9o, mv9d, nm10f, nm10o, nm10d, bo10f, bo10o, bo10d, mv10f, mv10o, mv10d, nm11f, nm11o, nm11d, bo11f, bo11o, bo11d, mv11f, mv11o, mv11d, nm12f, nm12o, nm12d, bo12f, bo12o, bo12d, mv12f, mv12o, mv12d, nm13f, nm13o, nm13d, bo13f, bo13o, bo13d, mv13f, mv13o, mv13d, nm14f, nm14o, nm14d, bo14f, bo14o, bo14d, mv14f, mv14o, mv14d, nm15f, nm15o, nm15d, bo15f, bo15o, bo15d, mv15f, mv15o, mv15d, nm16f, bo16f, mv16f, nm16o, bo16o, mv16o, nm16d, bo16d, mv16d, nm17f, bo17f, mv17f, nm17o, bo17o, mv17o, nm17d, bo17d, mv17d, nm18f, bo18f, mv18f, nm18o, bo18o, mv18o, nm18d, bo18d, mv18d, nm19f, bo19f, mv19f, nm19o, bo19o, mv19o, nm19d, bo19d, mv19d, nm20f, bo20f, mv20f, nm20o, bo20o, mv20o, nm20d, bo20d, mv20d, nm21f, bo21f, mv21f, nm21o, bo21o, mv21o, nm21d, bo21d, mv21d, nm22f, bo22f, mv22f, nm22o, bo22o, mv22o, nm22d, bo22d, mv22d, nm23f, bo23f, mv23f, nm23o, bo23o, mv23o, nm23d, bo23d, mv23d, d_fr, fz_fr, isFr_fr, free_fr, d_ow, fz_ow, isFr_ow, free_ow, d_od, fz_od, isFr_od, free_od, d_bo, fz_bo, isFr_bo, free_bo, d_bd, fz_bd, isFr_bd, free_bd, w_add_i, w_add_s, w_add_l, w_add_t, w_sub, w_mul_i, w_mul_s, w_mul_l, w_mul_t, w_mod, w_fdv, w_pow, w_le_i, w_gt_i, w_ge_i, w_le_s, w_gt_s, w_ge_s, w_lt_i, w_lt_s, w_eq, w_ne, w_is_b, w_isN_b, w_in_l, w_nin_l, w_ix_l, w_ix_t, w_ix_s, w_sl_l, w_sl_t, w_sl_s, w_len_l, w_len_t, w_len_s, w_list_l, w_list_t, w_tuple_l, w_tuple_t, w_str, w_int_i, w_int_b, w_int_s, w_max2, w_max_l, w_min2, w_min_l, w_all, w_any, w_sorted_l, w_sorted_t, w_split, w_join, w_in_t, w_nin_t, w_in_ts, w_nin_ts, e_draw, e_cok_int, e_cok_bl, e_cok_str, List.map_cons, List.map_nil, List.all_cons, List.all_nil, List.length_cons, List.length_nil, List.getElem?_cons_zero, List.getElem?_cons_succ, List.set_cons_zero, List.set_cons_succ, retD, Tg.put, puts, wipeE, true_and, and_true, and_self, Bool.and_true, Bool.true_and, exists_eq_left', exists_eq_left, R.fr.injEq, R.ow.injEq, Option.some.injEq, D.bl.injEq, D.int.injEq, D.str.injEq, D.lst.injEq, D.tup.injEq, decide_eq_true_eq, if_true, exists_eq', Bool.not_true, Bool.not_false, ite_true, ite_false, if_false, Bool.false_eq_true]
    refine ⟨(isort vs).map istr, ?_, trivial, ?_⟩
    · show [D.lst _] = [D.lst (((isort vs).map istr).map D.str)]
      rw [List.map_map]; rfl
    rintro r rfl
    try simp only [e_dSeq, e_dNext, e_dSet, e_dRet, e_dDrop, e_dIfS, e_dTgS, e_dC, e_dBin, e_dTst, e_dChn, e_dAnd, e_dOr, e_dNot, e_dAndV, e_dOrV, e_dNotV, e_dIf, e_dNil, e_dCons, e_dLst, e_dTup, e_dCB, e_dCall, e_dYes, e_dApp, e_dAug, e_dAugM, e_dIsi, e_dIsi2, e_dSl, e_dNoP, e_dPart, e_dM1, e_dFor, e_dLC, e_dIt, e_dRng1, e_dZipM, e_dRngN, e_dRev, e_dPar0, w_maxT, e_dSrtSet, e_dItS, e_dPar2, e_dPar3, e_par2, e_par3, e_dCallD, e_dCallK, e_dRng2, e_dEnum, e_dZip, nm0f, nm0o, nm0d, bo0f, bo0o, bo0d, mv0f, mv0o, mv0d, nm1f, nm1o, nm1d, bo1f, bo1o, bo1d, mv1f, mv1o, mv1d, nm2f, nm2o, nm2d, bo2f, bo2o, bo2d, mv2f, mv2o, mv2d, nm3f, nm3o, nm3d, bo3f, bo3o, bo3d, mv3f, mv3o, mv3d, nm4f, nm4o, nm4d, bo4f, bo4o, bo4d, mv4f, mv4o, mv4d, nm5f, nm5o, nm5d, bo5f, bo5o, bo5d, mv5f, mv5o, mv5d, nm6f, nm6o, nm6d, bo6f, bo6o, bo6d, mv6f, mv6o, mv6d, nm7f, nm7o, nm7d, bo7f, bo7o, bo7d, mv7f, mv7o, mv7d, nm8f, nm8o, nm8d, bo8f, bo8o, bo8d, mv8f, mv8o, mv8d, nm9f, nm9o, nm9d, bo9f, bo9o, bo9d, mv9f, mv9o, mv9d, nm10f, nm10o, nm10d, bo10f, bo10o, bo10d, mv10f, mv10o, mv10d, nm11f, nm11o, nm11d, bo11f, bo11o, bo11d, mv11f, mv11o, mv11d, nm12f, nm12o, nm12d, bo12f, bo12o, bo12d, mv12f, mv12o, mv12d, nm13f, nm13o, nm13d, bo13f, bo13o, bo13d, mv13f, mv13o, mv13d, nm14f, nm14o, nm14d, bo14f, bo14o, bo14d, mv14f, mv14o, mv14d, nm15f, nm15o, nm15d, bo15f, bo15o, bo15d, mv15f, mv15o, mv15d, nm16f, bo16f, mv16f, nm16o, bo16o, mv16o, nm16d, bo16d, mv16d, nm17f, bo17f, mv17f, nm17o, bo17o, mv17o, nm17d, bo17d, mv17d, nm18f, bo18f, mv18f, nm18o, bo18o, mv18o, nm18d, bo18d, mv18d, nm19f, bo19f, mv19f, nm19o, bo19o, mv19o, nm19d, bo19d, mv19d, nm20f, bo20f, mv20f, nm20o, bo20o, mv20o, nm20d, bo20d, mv20d, nm21f, bo21f, mv21f, nm21o, bo21o, mv21o, nm21d, bo21d, mv21d, nm22f, bo22f, mv22f, nm22o, bo22o, mv22o, nm22d, bo22d, mv22d, nm23f, bo23f, mv23f, nm23o, bo23o, mv23o, nm23d, bo23d, mv23d, d_fr, fz_fr, isFr_fr, free_fr, d_ow, fz_ow, isFr_ow, free_ow, d_od, fz_od, isFr_od, free_od, d_bo, fz_bo, isFr_bo, free_bo, d_bd, fz_bd, isFr_bd, free_bd, w_add_i, w_add_s, w_add_l, w_add_t, w_sub, w_mul_i, w_mul_s, w_mul_l, w_mul_t, w_mod, w_fdv, w_pow, w_le_i, w_gt_i, w_ge_i, w_le_s, w_gt_s, w_ge_s, w_lt_i, w_lt_s, w_eq, w_ne, w_is_b, w_isN_b, w_in_l, w_nin_l, w_ix_l, w_ix_t, w_ix_s, w_sl_l, w_sl_t, w_sl_s, w_len_l, w_len_t, w_len_s, w_list_l, w_list_t, w_tuple_l, w_tuple_t, w_str, w_int_i, w_int_b, w_int_s, w_max2, w_max_l, w_min2, w_min_l, w_all, w_any, w_sorted_l, w_sorted_t, w_split, w_join, w_in_t, w_nin_t, w_in_ts, w_nin_ts, e_draw, e_cok_int, e_cok_bl, e_cok_str, List.map_cons, List.map_nil, List.all_cons, List.all_nil, List.length_cons, List.length_nil, List.getElem?_cons_zero, List.getElem?_cons_succ, List.set_cons_zero, List.set_cons_succ, retD, Tg.put, puts, wipeE, true_and, and_true, and_self, Bool.and_true, Bool.true_and, exists_eq_left', exists_eq_left, R.fr.injEq, R.ow.injEq, Option.some.injEq, D.bl.injEq, D.int.injEq, D.str.injEq, D.lst.injEq, D.tup.injEq, decide_eq_true_eq, if_true, exists_eq', Bool.not_true, Bool.not_false, ite_true, ite_false, if_false, Bool.false_eq_true]
    exact q _ rfl
theorem cal_threshold {f : Addr} {fd : FuncData} {k : Nat} (F : Fun K "threshold" "threshold" s_threshold f fd) (b : Binds K fd ["values"] []) (m : mg "threshold" = some (.ref f)) (kp : PySem.W.keepIn K (.ref f) = true) (B : Bl mg) : Cal P w K mg base (k + 1) "threshold" ["values"] f fd sp_threshold := by
  refine ⟨fn_dl F sc_threshold (fun ds Q h => ?len) fun cdv A outer s H E hr => ?body, ?mono, m, kp, b⟩
  case len =>
    obtain ⟨x, rfl, -⟩ := h; rfl
  case mono =>
    exact SP_mono
  case body =>
    have hu64 := hr.units; have hu100 : (A.deeper (envOfC "threshold" (defScope s_threshold) s.heap.objs.size f cdv)).units + 100 < cLine := by have := hr.un; omega
    have hu65 : (A.deeper (envOfC "threshold" (defScope s_threshold) s.heap.objs.size f cdv)).units + 65 < cLine := by omega
    have hu1 : (A.deeper (envOfC "threshold" (defScope s_threshold) s.heap.objs.size f cdv)).units + 1 < cLine := by omega
    refine ⟨_, (qss_cons (qs_set (i := 1) sc_threshold.nd (qe_callB (cd_sorted hu100) (by rfl) B.b_sorted bt_sorted (qa_cons (qe_bo (i := 0)) qa_nil)))
    (qss_cons (qs_set (i := 2) sc_threshold.nd (qe_bin opd_sub (qe_callB cd_len (by rfl) B.b_len bt_len (qa_cons (qe_bo (i := 1)) qa_nil)) qe_int))
    (qss_cons (qs_while PassesOwn.never (qw_and (qt_cmp opd_gt (qe_bo (i := 2)) qe_int (by rfl)) (qw_and1 (qt_cmp (opd_lt hu64) (qe_callTy cd_str (by rfl) B.b_str bt_str (qa_cons (qe_ix hu1 (qe_bo (i := 1)) (qe_bin opd_sub (qe_bo (i := 2)) qe_int)) qa_nil)) (qe_callTy cd_str (by rfl) B.b_str bt_str (qa_cons (qe_ix hu1 (qe_bo (i := 1)) (qe_nm (i := 2))) qa_nil)) (by rfl)))).qt
    (qss_one (qs_aug (i := 2) ip_sub sc_threshold.nd qe_int)))
    (qss_one (qs_ret (qe_ix hu1 (qe_bo (i := 1)) (qe_nm (i := 2)))))))), fun ds Q h => ?_⟩
    obtain ⟨vs, rfl, ⟨ne, hl, hn⟩, q⟩ := h
    show (_ : TSd) (retD Q) [some (.fr (.tup (vs.map .int))), none, none]
    try simp only [e_dSeq, e_dNext, e_dSet, e_dRet, e_dDrop, e_dIfS, e_dTgS, e_dC, e_dBin, e_dTst, e_dChn, e_dAnd, e_dOr, e_dNot, e_dAndV, e_dOrV, e_dNotV, e_dIf, e_dNil, e_dCons, e_dLst, e_dTup, e_dCB, e_dCall, e_dYes, e_dApp, e_dAug, e_dAugM, e_dIsi, e_dIsi2, e_dSl, e_dNoP, e_dPart, e_dM1, e_dFor, e_dLC, e_dIt, e_dRng1, e_dZipM, e_dRngN, e_dRev, e_dPar0, w_maxT, e_dSrtSet, e_dItS, e_dPar2, e_dPar3, e_par2, e_par3, e_dCallD, e_dCallK, e_dRng2, e_dEnum, e_dZip, nm0f, nm0o, nm0d, bo0f, bo0o, bo0d, mv0f, mv0o, mv0d, nm1f, nm1o, nm1d, bo1f, bo1o, bo1d, mv1f, mv1o, mv1d, nm2f, nm2o, nm2d, bo2f, bo2o, bo2d, mv2f, mv2o, mv2d, nm3f, nm3o, nm3d, bo3f, bo3o, bo3d, mv3f, mv3o, mv3d, nm4f, nm4o, nm4d, bo4f, bo4o, bo4d, mv4f, mv4o, mv4d, nm5f, nm5o, nm5d, bo5f, bo5o, bo5d, mv5f, mv5o, mv5d, nm6f, nm6o, nm6d, bo6f, bo6o, bo6d, mv6f, mv6o, mv6d, nm7f, nm7o, nm7d, bo7f, bo7o, bo7d, mv7f, mv7o, mv7d, nm8f, nm8o, nm8d, bo8f, bo8o, bo8d, mv8f, mv8o, mv8d, nm9f, nm9o, nm9d, bo9f, bo9o, bo9d, mv9f, mv9o, mv9d, nm10f, nm10o, nm10d, bo10f, bo10o, bo10d, mv10f, mv10o, mv10d, nm11f, nm11o, nm11d, bo11f, bo11o, bo11d, mv11f, mv11o, mv11d, nm12f, nm12o, nm12d, bo12f, bo12o, bo12d, mv12f, mv12o, mv12d, nm13f, nm13o, nm13d, bo13f, bo13o, bo13d, mv13f, mv13o, mv13d, nm14f, nm14o, nm14d, bo14f, bo14o, bo14d, mv14f, mv14o, mv14d, nm15f, nm15o, nm15d, bo15f, bo15o, bo15d, mv15f, mv15o, mv15d, nm16f, bo16f, mv16f, nm16o, bo16o, mv16o, nm16d, bo16d, mv16d, nm17f, bo17f, mv17f, nm17o, bo17o, mv17o, nm17d, bo17d, mv17d, nm18f, bo18f, mv18f, nm18o, bo18o, mv18o, nm18d, bo18d, mv18d, nm19f, bo19f, mv19f, nm19o, bo19o, mv19o, nm19d, bo19d, mv19d, nm20f, bo20f, mv20f, nm20o, bo20o, mv20o, nm20d, bo20d, mv20d, nm21f, bo21f, mv21f, nm21o, bo21o, mv21o, nm21d, bo21d, mv21d, nm22f, bo22f, mv22f, nm22o, bo22o, mv22o, nm22d, bo22d, mv22d, nm23f, bo23f, mv23f, nm23o, bo23o, mv23o, nm23d, bo23d, mv23d, d_fr, fz_fr, isFr_fr, free_fr, d_ow, fz_ow, isFr_ow, free_ow, d_od, fz_od, isFr_od, free_od, d_bo, fz_bo, isFr_bo, free_bo, d_bd, fz_bd, isFr_bd, free_bd, w_add_i, w_add_s, w_add_l, w_add_t, w_sub, w_mul_i, w_mul_s, w_mul_l, w_mul_t, w_mod, w_fdv, w_pow, w_le_i, w_gt_i, w_ge_i, w_le_s, w_gt_s, w_ge_s, w_lt_i, w_lt_s, w_eq, w_ne, w_is_b, w_isN_b, w_in_l, w_nin_l, w_ix_l, w_ix_t, w_ix_s, w_sl_l, w_sl_t, w_sl_s, w_len_l, w_len_t, w_len_s, w_list_l, w_list_t, w_tuple_l, w_tuple_t, w_str, w_int_i, w_int_b, w_int_s, w_max2, w_max_l, w_min2, w_min_l, w_all, w_any, w_sorted_l, w_sorted_t, w_split, w_join, w_in_t, w_nin_t, w_in_ts, w_nin_ts, e_draw, e_cok_int, e_cok_bl, e_cok_str, List.map_cons, List.map_nil, List.all_cons, List.all_nil, List.length_cons, List.length_nil, List.getElem?_cons_zero, List.getElem?_cons_succ, List.set_cons_zero, List.set_cons_succ, retD, Tg.put, puts, wipeE, true_and, and_true, and_self, Bool.and_true, Bool.true_and, exists_eq_left', exists_eq_left, R.fr.injEq, R.ow.injEq, Option.some.injEq, D.bl.injEq, D.int.injEq, D.str.injEq, D.lst.injEq, D.tup.injEq, decide_eq_true_eq, if_true, exists_eq', Bool.not_true, Bool.not_false, ite_true, ite_false, if_false, Bool.false_eq_true]
    rw [sort_ints]
    refine ⟨srt_ints _, ?_⟩
    have el : (vs.mergeSort fun a b => decide (a ≤ b)) = isort vs := rfl
    rw [el]
    have hil : (isort vs).length = vs.length := (isort_perm vs).length_eq
    have hpos : 0 < vs.length := List.length_pos_iff.mpr ne
    have num : ∀ n ∈ isort vs, Num n := fun n h => hn n ((isort_perm vs).mem_iff.mp h)
    have get : ∀ k (hk : k < (isort vs).length), atI ((isort vs).map D.int) (k : Int) = some (.int (isort vs)[k]) := fun k hk => atI_nat (by rw [List.getElem?_map, List.getElem?_eq_getElem hk]; rfl)
    refine ⟨fun ε => ∃ k, k < (isort vs).length ∧ RS ((isort vs).drop k) ∧ ε = [some (.fr (.tup (vs.map .int))), some (.ow ((isort vs).map .int)), some (.fr (.int (k : Int)))],
      fun ε => match ε with | [_, _, some (.fr (.int l))] => l.toNat | _ => 0, ⟨(isort vs).length - 1, by omega, ?_, ?_⟩, ?_⟩
    · rw [List.drop_eq_getElem_cons (by omega), List.drop_of_length_le (by omega)]
      exact List.pairwise_singleton _ _
    · rw [List.length_map, show (((isort vs).length - 1 : Nat) : Int) = ((isort vs).length : Int) - 1 by omega]
    rintro ε ⟨k, hk, hs, rfl⟩
    try simp only [e_dSeq, e_dNext, e_dSet, e_dRet, e_dDrop, e_dIfS, e_dTgS, e_dC, e_dBin, e_dTst, e_dChn, e_dAnd, e_dOr, e_dNot, e_dAndV, e_dOrV, e_dNotV, e_dIf, e_dNil, e_dCons, e_dLst, e_dTup, e_dCB, e_dCall, e_dYes, e_dApp, e_dAug, e_dAugM, e_dIsi, e_dIsi2, e_dSl, e_dNoP, e_dPart, e_dM1, e_dFor, e_dLC, e_dIt, e_dRng1, e_dZipM, e_dRngN, e_dRev, e_dPar0, w_maxT, e_dSrtSet, e_dItS, e_dPar2, e_dPar3, e_par2, e_par3, e_dCallD, e_dCallK, e_dRng2, e_dEnum, e_dZip, nm0f, nm0o, nm0d, bo0f, bo0o, bo0d, mv0f, mv0o, mv0d, nm1f, nm1o, nm1d, bo1f, bo1o, bo1d, mv1f, mv1o, mv1d, nm2f, nm2o, nm2d, bo2f, bo2o, bo2d, mv2f, mv2o, mv2d, nm3f, nm3o, nm3d, bo3f, bo3o, bo3d, mv3f, mv3o, mv3d, nm4f, nm4o, nm4d, bo4f, bo4o, bo4d, mv4f, mv4o, mv4d, nm5f, nm5o, nm5d, bo5f, bo5o, bo5d, mv5f, mv5o, mv5d, nm6f, nm6o, nm6d, bo6f, bo6o, bo6d, mv6f, mv6o, mv6d, nm7f, nm7o, nm7d, bo7f, bo7o, bo7d, mv7f, mv7o, mv7d, nm8f, nm8o, nm8d, bo8f, bo8o, bo8d, mv8f, mv8o, mv8d, nm9f, nm9o, nm9d, bo9f, bo9o, bo9d, mv9f, mv9o, mv9d, nm10f, nm10o, nm10d, bo10f, bo10o, bo10d, mv10f, mv10o, mv10d, nm11f, nm11o, nm11d, bo11f, bo11o, bo11d, mv11f, mv11o, mv11d, nm12f, nm12o, nm12d, bo12f, bo12o, bo12d, mv12f, mv12o, mv12d, nm13f, nm13o, nm13d, bo13f, bo13o, bo13d, mv13f, mv13o, mv13d, nm14f, nm14o, nm14d, bo14f, bo14o, bo14d, mv14f, mv14o, mv14d, nm15f, nm15o, nm15d, bo15f, bo15o, bo15d, mv15f, mv15o, mv15d, nm16f, bo16f, mv16f, nm16o, bo16o, mv16o, nm16d, bo16d, mv16d, nm17f, bo17f, mv17f, nm17o, bo17o, mv17o, nm17d, bo17d, mv17d, nm18f, bo18f, mv18f, nm18o, bo18o, mv18o, nm18d, bo18d, mv18d, nm19f, bo19f, mv19f, nm19o, bo19o, mv19o, nm19d, bo19d, mv19d, nm20f, bo20f, mv20f, nm20o, bo20o, mv20o, nm20d, bo20d, mv20d, nm21f, bo21f, mv21f, nm21o, bo21o, mv21o, nm21d, bo21d, mv21d, nm22f, bo22f, mv22f, nm22o, bo22o, mv22o, nm22d, bo22d, mv22d, nm23f, bo23f, mv23f, nm23o, bo23o, mv23o, nm23d, bo23d, mv23d, d_fr, fz_fr, isFr_fr, free_fr, d_ow, fz_ow, isFr_ow, free_ow, d_od, fz_od, isFr_od, free_od, d_bo, fz_bo, isFr_bo, free_bo, d_bd, fz_bd, isFr_bd, free_bd, w_add_i, w_add_s, w_add_l, w_add_t, w_sub, w_mul_i, w_mul_s, w_mul_l, w_mul_t, w_mod, w_fdv, w_pow, w_le_i, w_gt_i, w_ge_i, w_le_s, w_gt_s, w_ge_s, w_lt_i, w_lt_s, w_eq, w_ne, w_is_b, w_isN_b, w_in_l, w_nin_l, w_ix_l, w_ix_t, w_ix_s, w_sl_l, w_sl_t, w_sl_s, w_len_l, w_len_t, w_len_s, w_list_l, w_list_t, w_tuple_l, w_tuple_t, w_str, w_int_i, w_int_b, w_int_s, w_max2, w_max_l, w_min2, w_min_l, w_all, w_any, w_sorted_l, w_sorted_t, w_split, w_join, w_in_t, w_nin_t, w_in_ts, w_nin_ts, e_draw, e_cok_int, e_cok_bl, e_cok_str, List.map_cons, List.map_nil, List.all_cons, List.all_nil, List.length_cons, List.length_nil, List.getElem?_cons_zero, List.getElem?_cons_succ, List.set_cons_zero, List.set_cons_succ, retD, Tg.put, puts, wipeE, true_and, and_true, and_self, Bool.and_true, Bool.true_and, exists_eq_left', exists_eq_left, R.fr.injEq, R.ow.injEq, Option.some.injEq, D.bl.injEq, D.int.injEq, D.str.injEq, D.lst.injEq, D.tup.injEq, decide_eq_true_eq, if_true, exists_eq', Bool.not_true, Bool.not_false, ite_true, ite_false, if_false, Bool.false_eq_true]
    have stop : (k = 0 ∨ ∃ h : 0 < k, ¬ istr (isort vs)[k - 1] < istr (isort vs)[k]) → ∃ d, atI ((isort vs).map D.int) (k : Int) = some d ∧ Q (.fr d) := fun hst => by
      refine ⟨_, get k hk, q _ ⟨k, _, rfl, ⟨hk, hs, ?_⟩, List.getElem?_eq_getElem hk⟩⟩
      rcases hst with h | ⟨_, h⟩
      · exact .inl h
      · exact .inr h
    refine ite_k (fun hc => ?_) fun hc => ?_
    · have hc : 0 < k := by omega
      have g1 := get (k - 1) (by omega)
      rw [show ((k - 1 : Nat) : Int) = (k : Int) - 1 by omega] at g1
      refine ⟨_, g1, ?_⟩
      try simp only [e_dSeq, e_dNext, e_dSet, e_dRet, e_dDrop, e_dIfS, e_dTgS, e_dC, e_dBin, e_dTst, e_dChn, e_dAnd, e_dOr, e_dNot, e_dAndV, e_dOrV, e_dNotV, e_dIf, e_dNil, e_dCons, e_dLst, e_dTup, e_dCB, e_dCall, e_dYes, e_dApp, e_dAug, e_dAugM, e_dIsi, e_dIsi2, e_dSl, e_dNoP, e_dPart, e_dM1, e_dFor, e_dLC, e_dIt, e_dRng1, e_dZipM, e_dRngN, e_dRev, e_dPar0, w_maxT, e_dSrtSet, e_dItS, e_dPar2, e_dPar3, e_par2, e_par3, e_dCallD, e_dCallK, e_dRng2, e_dEnum, e_dZip, nm0f, nm0o, nm0d, bo0f, bo0o, bo0d, mv0f, mv0o, mv0d, nm1f, nm1o, nm1d, bo1f, bo1o, bo1d, mv1f, mv1o, mv1d, nm2f, nm2o, nm2d, bo2f, bo2o, bo2d, mv2f, mv2o, mv2d, nm3f, nm3o, nm3d, bo3f, bo3o, bo3d, mv3f, mv3o, mv3d, nm4f, nm4o, nm4d, bo4f, bo4o, bo4d, mv4f, mv4o, mv4d, nm5f, nm5o, nm5d, bo5f, bo5o, bo5d, mv5f, mv5o, mv5d, nm6f, nm6o, nm6d, bo6f, bo6o, bo6d, mv6f, mv6o, mv6d, nm7f, nm7o, nm7d, bo7f, bo7o, bo7d, mv7f, mv7o, mv7d, nm8f, nm8o, nm8d, bo8f, bo8o, bo8d, mv8f, mv8o, mv8d, nm9f, nm9o, nm9d, bo9f, bo9o, bo9d, mv9f, mv9o, mv9d, nm10f, nm10o, nm10d, bo10f, bo10o, bo10d, mv10f, mv10o, mv10d, nm11f, nm11o, nm11d, bo11f, bo11o, bo11d, mv11f, mv11o, mv11d, nm12f, nm12o, nm12d, bo12f, bo12o, bo12d, mv12f, mv12o, mv12d, nm13f, nm13o, nm13d, bo13f, bo13o, bo13d, mv13f, mv13o, mv13d, nm14f, nm14o, nm14d, bo14f, bo14o, bo14d, mv14f, mv14o, mv14d, nm15f, nm15o, nm15d, bo15f, bo15o, bo15d, mv15f, mv15o, mv15d, nm16f, bo16f, mv16f, nm16o, bo16o, mv16o, nm16d, bo16d, mv16d, nm17f, bo17f, mv17f, nm17o, bo17o, mv17o, nm17d, bo17d, mv17d, nm18f, bo18f, mv18f, nm18o, bo18o, mv18o, nm18d, bo18d, mv18d, nm19f, bo19f, mv19f, nm19o, bo19o, mv19o, nm19d, bo19d, mv19d, nm20f, bo20f, mv20f, nm20o, bo20o, mv20o, nm20d, bo20d, mv20d, nm21f, bo21f, mv21f, nm21o, bo21o, mv21o, nm21d, bo21d, mv21d, nm22f, bo22f, mv22f, nm22o, bo22o, mv22o, nm22d, bo22d, mv22d, nm23f, bo23f, mv23f, nm23o, bo23o, mv23o, nm23d, bo23d, mv23d, d_fr, fz_fr, isFr_fr, free_fr, d_ow, fz_ow, isFr_ow, free_ow, d_od, fz_od, isFr_od, free_od, d_bo, fz_bo, isFr_bo, free_bo, d_bd, fz_bd, isFr_bd, free_bd, w_add_i, w_add_s, w_add_l, w_add_t, w_sub, w_mul_i, w_mul_s, w_mul_l, w_mul_t, w_mod, w_fdv, w_pow, w_le_i, w_gt_i, w_ge_i, w_le_s, w_gt_s, w_ge_s, w_lt_i, w_lt_s, w_eq, w_ne, w_is_b, w_isN_b, w_in_l, w_nin_l, w_ix_l, w_ix_t, w_ix_s, w_sl_l, w_sl_t, w_sl_s, w_len_l, w_len_t, w_len_s, w_list_l, w_list_t, w_tuple_l, w_tuple_t, w_str, w_int_i, w_int_b, w_int_s, w_max2, w_max_l, w_min2, w_min_l, w_all, w_any, w_sorted_l, w_sorted_t, w_split, w_join, w_in_t, w_nin_t, w_in_ts, w_nin_ts, e_draw, e_cok_int, e_cok_bl, e_cok_str, List.map_cons, List.map_nil, List.all_cons, List.all_nil, List.length_cons, List.length_nil, List.getElem?_cons_zero, List.getElem?_cons_succ, List.set_cons_zero, List.set_cons_succ, retD, Tg.put, puts, wipeE, true_and, and_true, and_self, Bool.and_true, Bool.true_and, exists_eq_left', exists_eq_left, R.fr.injEq, R.ow.injEq, Option.some.injEq, D.bl.injEq, D.int.injEq, D.str.injEq, D.lst.injEq, D.tup.injEq, decide_eq_true_eq, if_true, exists_eq', Bool.not_true, Bool.not_false, ite_true, ite_false, if_false, Bool.false_eq_true]
      refine ⟨log_small (num _ (List.getElem_mem _)), _, get k hk, ?_⟩
      try simp only [e_dSeq, e_dNext, e_dSet, e_dRet, e_dDrop, e_dIfS, e_dTgS, e_dC, e_dBin, e_dTst, e_dChn, e_dAnd, e_dOr, e_dNot, e_dAndV, e_dOrV, e_dNotV, e_dIf, e_dNil, e_dCons, e_dLst, e_dTup, e_dCB, e_dCall, e_dYes, e_dApp, e_dAug, e_dAugM, e_dIsi, e_dIsi2, e_dSl, e_dNoP, e_dPart, e_dM1, e_dFor, e_dLC, e_dIt, e_dRng1, e_dZipM, e_dRngN, e_dRev, e_dPar0, w_maxT, e_dSrtSet, e_dItS, e_dPar2, e_dPar3, e_par2, e_par3, e_dCallD, e_dCallK, e_dRng2, e_dEnum, e_dZip, nm0f, nm0o, nm0d, bo0f, bo0o, bo0d, mv0f, mv0o, mv0d, nm1f, nm1o, nm1d, bo1f, bo1o, bo1d, mv1f, mv1o, mv1d, nm2f, nm2o, nm2d, bo2f, bo2o, bo2d, mv2f, mv2o, mv2d, nm3f, nm3o, nm3d, bo3f, bo3o, bo3d, mv3f, mv3o, mv3d, nm4f, nm4o, nm4d, bo4f, bo4o, bo4d, mv4f, mv4o, mv4d, nm5f, nm5o, nm5d, bo5f, bo5o, bo5d, mv5f, mv5o, mv5d, nm6f, nm6o, nm6d, bo6f, bo6o, bo6d, mv6f, mv6o, mv6d, nm7f, nm7o, nm7d, bo7f, bo7o, bo7d, mv7f, mv7o, mv7d, nm8f, nm8o, nm8d, bo8f, bo8o, bo8d, mv8f, mv8o, mv8d, nm9f, nm9o, nm9d, bo9f, bo9o, bo9d, mv9f, mv9o, mv9d, nm10f, nm10o, nm10d, bo10f, bo10o, bo10d, mv10f, mv10o, mv10d, nm11f, nm11o, nm11d, bo11f, bo11o, bo11d, mv11f, mv11o, mv11d, nm12f, nm12o, nm12d, bo12f, bo12o, bo12d, mv12f, mv12o, mv12d, nm13f, nm13o, nm13d, bo13f, bo13o, bo13d, mv13f, mv13o, mv13d, nm14f, nm14o, nm14d, bo14f, bo14o, bo14d, mv14f, mv14o, mv14d, nm15f, nm15o, nm15d, bo15f, bo15o, bo15d, mv15f, mv15o, mv15d, nm16f, bo16f, mv16f, nm16o, bo16o, mv16o, nm16d, bo16d, mv16d, nm17f, bo17f, mv17f, nm17o, bo17o, mv17o, nm17d, bo17d, mv17d, nm18f, bo18f, mv18f, nm18o, bo18o, mv18o, nm18d, bo18d, mv18d, nm19f, bo19f, mv19f, nm19o, bo19o, mv19o, nm19d, bo19d, mv19d, nm20f, bo20f, mv20f, nm20o, bo20o, mv20o, nm20d, bo20d, mv20d, nm21f, bo21f, mv21f, nm21o, bo21o, mv21o, nm21d, bo21d, mv21d, nm22f, bo22f, mv22f, nm22o, bo22o, mv22o, nm22d, bo22d, mv22d, nm23f, bo23f, mv23f, nm23o, bo23o, mv23o, nm23d, bo23d, mv23d, d_fr, fz_fr, isFr_fr, free_fr, d_ow, fz_ow, isFr_ow, free_ow, d_od, fz_od, isFr_od, free_od, d_bo, fz_bo, isFr_bo, free_bo, d_bd, fz_bd, isFr_bd, free_bd, w_add_i, w_add_s, w_add_l, w_add_t, w_sub, w_mul_i, w_mul_s, w_mul_l, w_mul_t, w_mod, w_fdv, w_pow, w_le_i, w_gt_i, w_ge_i, w_le_s, w_gt_s, w_ge_s, w_lt_i, w_lt_s, w_eq, w_ne, w_is_b, w_isN_b, w_in_l, w_nin_l, w_ix_l, w_ix_t, w_ix_s, w_sl_l, w_sl_t, w_sl_s, w_len_l, w_len_t, w_len_s, w_list_l, w_list_t, w_tuple_l, w_tuple_t, w_str, w_int_i, w_int_b, w_int_s, w_max2, w_max_l, w_min2, w_min_l, w_all, w_any, w_sorted_l, w_sorted_t, w_split, w_join, w_in_t, w_nin_t, w_in_ts, w_nin_ts, e_draw, e_cok_int, e_cok_bl, e_cok_str, List.map_cons, List.map_nil, List.all_cons, List.all_nil, List.length_cons, List.length_nil, List.getElem?_cons_zero, List.getElem?_cons_succ, List.set_cons_zero, List.set_cons_succ, retD, Tg.put, puts, wipeE, true_and, and_true, and_self, Bool.and_true, Bool.true_and, exists_eq_left', exists_eq_left, R.fr.injEq, R.ow.injEq, Option.some.injEq, D.bl.injEq, D.int.injEq, D.str.injEq, D.lst.injEq, D.tup.injEq, decide_eq_true_eq, if_true, exists_eq', Bool.not_true, Bool.not_false, ite_true, ite_false, if_false, Bool.false_eq_true]
      refine ⟨log_small (num _ (List.getElem_mem _)), ?_⟩
      refine ite_k (fun h2 => ?_) fun h2 => ?_
      · obtain ⟨m, rfl⟩ : ∃ m, k = m + 1 := ⟨k - 1, by omega⟩
        refine ⟨⟨m, by omega, rs_step hk hs h2, ?_⟩, by omega⟩
        rw [show ((m + 1 : Nat) : Int) - 1 = (m : Int) by omega]
      · exact stop (.inr ⟨hc, h2⟩)
    · exact stop (.inl (by omega))
theorem cal__law_like {f : Addr} {fd : FuncData} {f__law_like : Addr} {fd__law_like : FuncData} {k n : Nat} (F : Fun K "_law_like" "_law_like" s__law_like f fd) (b : Binds K fd ["one", "two"] []) (m : mg "_law_like" = some (.ref f)) (kp : PySem.W.keepIn K (.ref f) = true) (B : Bl mg) (C__law_like : Cal P w K mg base k "_law_like" ["one", "two"] f__law_like fd__law_like (sp__law_like n)) : Cal P w K mg base (k + 1) "_law_like" ["one", "two"] f fd (sp__law_like (n + 1)) := by
  refine ⟨fn_dl F sc__law_like (fun ds Q h => ?len) fun cdv A outer s H E hr => ?body, ?mono, m, kp, b⟩
  case len =>
    obtain ⟨x, rfl, -⟩ := h; rfl
  case mono =>
    exact SP_mono
  case body =>
    have hu64 := hr.units; have hu100 : (A.deeper (envOfC "_law_like" (defScope s__law_like) s.heap.objs.size f cdv)).units + 100 < cLine := by have := hr.un; omega
    have hu65 : (A.deeper (envOfC "_law_like" (defScope s__law_like) s.heap.objs.size f cdv)).units + 65 < cLine := by omega
    have hu1 : (A.deeper (envOfC "_law_like" (defScope s__law_like) s.heap.objs.size f cdv)).units + 1 < cLine := by omega
    refine ⟨_, (qss_cons (qs_if (qt_bool (qe_isi2 (.inr (.inr (.inr (.inl rfl)))) (.inr (.inr (.inr (.inr rfl)))) (by rfl) B.b_isinstance (by rfl) B.b_list bt_list (by rfl) B.b_tuple bt_tuple (qe_bo (i := 0))))
    (qss_cons (qs_if (qw_or (qt_cmp (opd_ne hu64) (qe_isi (.inr (.inr (.inr (.inl rfl)))) (by rfl) B.b_isinstance (by rfl) B.b_list bt_list (qe_bo (i := 0))) (qe_isi (.inr (.inr (.inr (.inl rfl)))) (by rfl) B.b_isinstance (by rfl) B.b_list bt_list (qe_bo (i := 1))) (by rfl)) (qw_or1 (qt_cmp (opd_ne hu64) (qe_isi (.inr (.inr (.inr (.inr rfl)))) (by rfl) B.b_isinstance (by rfl) B.b_tuple bt_tuple (qe_bo (i := 0))) (qe_isi (.inr (.inr (.inr (.inr rfl)))) (by rfl) B.b_isinstance (by rfl) B.b_tuple bt_tuple (qe_bo (i := 1))) (by rfl)))).qt
    (qss_one (qs_ret qe_bl))
    qss_nil)
    (qss_cons (qs_if (qt_cmp (opd_ne hu64) (qe_callB cd_len (by rfl) B.b_len bt_len (qa_cons (qe_bo (i := 0)) qa_nil)) (qe_callB cd_len (by rfl) B.b_len bt_len (qa_cons (qe_bo (i := 1)) qa_nil)) (by rfl))
    (qss_one (qs_ret qe_bl))
    qss_nil)
    (qss_one (qs_ret (qe_cmp (opd_eq hu64) (qe_lc [("k", 2)] rfl sc__law_like.nd (qi_rng1 (by rfl) B.b_range (qa_cons (qe_callB cd_len (by rfl) B.b_len bt_len (qa_cons (qe_bo (i := 0)) qa_nil)) qa_nil)) (blkOk_by (by rfl)) (fun s H C cl fp => (qg_nm (i := 2) sc__law_like.nd)) (fun s H C cl fp => (qts_one (qt_not (qt_bool (qe_callC C__law_like hr (by rfl) (qa_cons (qe_ix hu1 (qe_bo (i := 0)) (qe_nm (i := 2))) (qa_cons (qe_ix hu1 (qe_bo (i := 1)) (qe_nm (i := 2))) qa_nil))))))) (fun s H C cl fp => (qe_nm (i := 2)))) (qe_lst qa_nil) (by rfl))))))
    qss_nil)
    (qss_cons (qs_if (qt_bool (qe_isi2 (.inr (.inr (.inr (.inl rfl)))) (.inr (.inr (.inr (.inr rfl)))) (by rfl) B.b_isinstance (by rfl) B.b_list bt_list (by rfl) B.b_tuple bt_tuple (qe_bo (i := 1))))
    (qss_one (qs_ret qe_bl))
    qss_nil)
    (qss_one (qs_ret (qe_and (qe_cmp (opd_eq hu64) (qe_isi (.inr (.inl rfl)) (by rfl) B.b_isinstance (by rfl) B.b_bool bt_bool (qe_bo (i := 0))) (qe_isi (.inr (.inl rfl)) (by rfl) B.b_isinstance (by rfl) B.b_bool bt_bool (qe_bo (i := 1))) (by rfl)) (qe_one (qe_cmp (opd_eq hu64) (qe_bo (i := 0)) (qe_bo (i := 1)) (by rfl)))))))), fun ds Q h => ?_⟩
    obtain ⟨⟨x, y⟩, rfl, ⟨hx, hy⟩, q⟩ := h
    have shpf : ∀ {d : D} {n : Nat}, plain n d = true → d.flat = true → d.shp := by
      intro d n h f
      cases n with
      | zero => simp [plain] at h
      | succ n =>
        cases d with
        | int i => exact shp_int i
        | bl i => exact shp_bl i
        | non => exact lay_non.shp
        | str l => exact shp_str (by simpa [plain, chs] using h)
        | lst _ => simp [D.flat] at f
        | tup _ => simp [D.flat] at f
        | dct _ => simp [D.flat] at f
        | tape => simp [D.flat] at f
    cases x <;> cases y <;> first | (simp [plain] at hx; done) | (simp [plain] at hy; done) | skip
    all_goals try
      show (_ : TSd) (retD Q) [some (.fr _), some (.fr _), none]
      try simp only [e_dSeq, e_dNext, e_dSet, e_dRet, e_dDrop, e_dIfS, e_dTgS, e_dC, e_dBin, e_dTst, e_dChn, e_dAnd, e_dOr, e_dNot, e_dAndV, e_dOrV, e_dNotV, e_dIf, e_dNil, e_dCons, e_dLst, e_dTup, e_dCB, e_dCall, e_dYes, e_dApp, e_dAug, e_dAugM, e_dIsi, e_dIsi2, e_dSl, e_dNoP, e_dPart, e_dM1, e_dFor, e_dLC, e_dIt, e_dRng1, e_dZipM, e_dRngN, e_dRev, e_dPar0, w_maxT, e_dSrtSet, e_dItS, e_dPar2, e_dPar3, e_par2, e_par3, e_dCallD, e_dCallK, e_dRng2, e_dEnum, e_dZip, nm0f, nm0o, nm0d, bo0f, bo0o, bo0d, mv0f, mv0o, mv0d, nm1f, nm1o, nm1d, bo1f, bo1o, bo1d, mv1f, mv1o, mv1d, nm2f, nm2o, nm2d, bo2f, bo2o, bo2d, mv2f, mv2o, mv2d, nm3f, nm3o, nm3d, bo3f, bo3o, bo3d, mv3f, mv3o, mv3d, nm4f, nm4o, nm4d, bo4f, bo4o, bo4d, mv4f, mv4o, mv4d, nm5f, nm5o, nm5d, bo5f, bo5o, bo5d, mv5f, mv5o, mv5d, nm6f, nm6o, nm6d, bo6f, bo6o, bo6d, mv6f, mv6o, mv6d, nm7f, nm7o, nm7d, bo7f, bo7o, bo7d, mv7f, mv7o, mv7d, nm8f, nm8o, nm8d, bo8f, bo8o, bo8d, mv8f, mv8o, mv8d, nm9f, nm9o, nm9d, bo9f, bo9o, bo9d, mv9f, mv9o, mv9d, nm10f, nm10o, nm10d, bo10f, bo10o, bo10d, mv10f, mv10o, mv10d, nm11f, nm11o, nm11d, bo11f, bo11o, bo11d, mv11f, mv11o, mv11d, nm12f, nm12o, nm12d, bo12f, bo12o, bo12d, mv12f, mv12o, mv12d, nm13f, nm13o, nm13d, bo13f, bo13o, bo13d, mv13f, mv13o, mv13d, nm14f, nm14o, nm14d, bo14f, bo14o, bo14d, mv14f, mv14o, mv14d, nm15f, nm15o, nm15d, bo15f, bo15o, bo15d, mv15f, mv15o, mv15d, nm16f, bo16f, mv16f, nm16o, bo16o, mv16o, nm16d, bo16d, mv16d, nm17f, bo17f, mv17f, nm17o, bo17o, mv17o, nm17d, bo17d, mv17d, nm18f, bo18f, mv18f, nm18o, bo18o, mv18o, nm18d, bo18d, mv18d, nm19f, bo19f, mv19f, nm19o, bo19o, mv19o, nm19d, bo19d, mv19d, nm20f, bo20f, mv20f, nm20o, bo20o, mv20o, nm20d, bo20d, mv20d, nm21f, bo21f, mv21f, nm21o, bo21o, mv21o, nm21d, bo21d, mv21d, nm22f, bo22f, mv22f, nm22o, bo22o, mv22o, nm22d, bo22d, mv22d, nm23f, bo23f, mv23f, nm23o, bo23o, mv23o, nm23d, bo23d, mv23d, d_fr, fz_fr, isFr_fr, free_fr, d_ow, fz_ow, isFr_ow, free_ow, d_od, fz_od, isFr_od, free_od, d_bo, fz_bo, isFr_bo, free_bo, d_bd, fz_bd, isFr_bd, free_bd, w_add_i, w_add_s, w_add_l, w_add_t, w_sub, w_mul_i, w_mul_s, w_mul_l, w_mul_t, w_mod, w_fdv, w_pow, w_le_i, w_gt_i, w_ge_i, w_le_s, w_gt_s, w_ge_s, w_lt_i, w_lt_s, w_eq, w_ne, w_is_b, w_isN_b, w_in_l, w_nin_l, w_ix_l, w_ix_t, w_ix_s, w_sl_l, w_sl_t, w_sl_s, w_len_l, w_len_t, w_len_s, w_list_l, w_list_t, w_tuple_l, w_tuple_t, w_str, w_int_i, w_int_b, w_int_s, w_max2, w_max_l, w_min2, w_min_l, w_all, w_any, w_sorted_l, w_sorted_t, w_split, w_join, w_in_t, w_nin_t, w_in_ts, w_nin_ts, e_draw, e_cok_int, e_cok_bl, e_cok_str, List.map_cons, List.map_nil, List.all_cons, List.all_nil, List.length_cons, List.length_nil, List.getElem?_cons_zero, List.getElem?_cons_succ, List.set_cons_zero, List.set_cons_succ, retD, Tg.put, puts, wipeE, true_and, and_true, and_self, Bool.and_true, Bool.true_and, exists_eq_left', exists_eq_left, R.fr.injEq, R.ow.injEq, Option.some.injEq, D.bl.injEq, D.int.injEq, D.str.injEq, D.lst.injEq, D.tup.injEq, decide_eq_true_eq, if_true, exists_eq', Bool.not_true, Bool.not_false, ite_true, ite_false, if_false, Bool.false_eq_true]
      simp [D.tyn, tyOk, eqv_bl, shp_bl]
      first
        | exact q _ ⟨false, rfl, by simp⟩
        | (refine q _ ⟨_, rfl, ?_⟩; simp; done)
        | (refine ⟨shpf hx rfl, q _ ⟨_, rfl, ?_⟩⟩; simp [D.eqv, D.py, PyData.eqv]; done)
        | (refine ⟨shpf hx rfl, shpf hy rfl, q _ ⟨_, rfl, ?_⟩⟩; simp [eqv_int, eqv_str, eqv_bl]; done)
        | (refine ⟨shpf hx rfl, shpf hy rfl, q _ ⟨_, rfl, ?_⟩⟩; simp [D.eqv, D.py, PyData.eqv]; done)
    case lst.lst xs ys =>
      show (_ : TSd) (retD Q) [some (.fr (.lst xs)), some (.fr (.lst ys)), none]
      try simp only [e_dSeq, e_dNext, e_dSet, e_dRet, e_dDrop, e_dIfS, e_dTgS, e_dC, e_dBin, e_dTst, e_dChn, e_dAnd, e_dOr, e_dNot, e_dAndV, e_dOrV, e_dNotV, e_dIf, e_dNil, e_dCons, e_dLst, e_dTup, e_dCB, e_dCall, e_dYes, e_dApp, e_dAug, e_dAugM, e_dIsi, e_dIsi2, e_dSl, e_dNoP, e_dPart, e_dM1, e_dFor, e_dLC, e_dIt, e_dRng1, e_dZipM, e_dRngN, e_dRev, e_dPar0, w_maxT, e_dSrtSet, e_dItS, e_dPar2, e_dPar3, e_par2, e_par3, e_dCallD, e_dCallK, e_dRng2, e_dEnum, e_dZip, nm0f, nm0o, nm0d, bo0f, bo0o, bo0d, mv0f, mv0o, mv0d, nm1f, nm1o, nm1d, bo1f, bo1o, bo1d, mv1f, mv1o, mv1d, nm2f, nm2o, nm2d, bo2f, bo2o, bo2d, mv2f, mv2o, mv2d, nm3f, nm3o, nm3d, bo3f, bo3o, bo3d, mv3f, mv3o, mv3d, nm4f, nm4o, nm4d, bo4f, bo4o, bo4d, mv4f, mv4o, mv4d, nm5f, nm5o, nm5d, bo5f, bo5o, bo5d, mv5f, mv5o, mv5d, nm6f, nm6o, nm6d, bo6f, bo6o, bo6d, mv6f, mv6o, mv6d, nm7f, nm7o, nm7d, bo7f, bo7o, bo7d, mv7f, mv7o, mv7d, nm8f, nm8o, nm8d, bo8f, bo8o, bo8d, mv8f, mv8o, mv8d, nm9f, nm9o, nm9d, bo9f, bo9o, bo9d, mv9f, mv9o, mv9d, nm10f, nm10o, nm10d, bo10f, bo10o, bo10d, mv10f, mv10o, mv10d, nm11f, nm11o, nm11d, bo11f, bo11o, bo11d, mv11f, mv11o, mv11d, nm12f, nm12o, nm12d, bo12f, bo12o, bo12d, mv12f, mv12o, mv12d, nm13f, nm13o, nm13d, bo13f, bo13o, bo13d, mv13f, mv13o, mv13d, nm14f, nm14o, nm14d, bo14f, bo14o, bo14d, mv14f, mv14o, mv14d, nm15f, nm15o, nm15d, bo15f, bo15o, bo15d, mv15f, mv15o, mv15d, nm16f, bo16f, mv16f, nm16o, bo16o, mv16o, nm16d, bo16d, mv16d, nm17f, bo17f, mv17f, nm17o, bo17o, mv17o, nm17d, bo17d, mv17d, nm18f, bo18f, mv18f, nm18o, bo18o, mv18o, nm18d, bo18d, mv18d, nm19f, bo19f, mv19f, nm19o, bo19o, mv19o, nm19d, bo19d, mv19d, nm20f, bo20f, mv20f, nm20o, bo20o, mv20o, nm20d, bo20d, mv20d, nm21f, bo21f, mv21f, nm21o, bo21o, mv21o, nm21d, bo21d, mv21d, nm22f, bo22f, mv22f, nm22o, bo22o, mv22o, nm22d, bo22d, mv22d, nm23f, bo23f, mv23f, nm23o, bo23o, mv23o, nm23d, bo23d, mv23d, d_fr, fz_fr, isFr_fr, free_fr, d_ow, fz_ow, isFr_ow, free_ow, d_od, fz_od, isFr_od, free_od, d_bo, fz_bo, isFr_bo, free_bo, d_bd, fz_bd, isFr_bd, free_bd, w_add_i, w_add_s, w_add_l, w_add_t, w_sub, w_mul_i, w_mul_s, w_mul_l, w_mul_t, w_mod, w_fdv, w_pow, w_le_i, w_gt_i, w_ge_i, w_le_s, w_gt_s, w_ge_s, w_lt_i, w_lt_s, w_eq, w_ne, w_is_b, w_isN_b, w_in_l, w_nin_l, w_ix_l, w_ix_t, w_ix_s, w_sl_l, w_sl_t, w_sl_s, w_len_l, w_len_t, w_len_s, w_list_l, w_list_t, w_tuple_l, w_tuple_t, w_str, w_int_i, w_int_b, w_int_s, w_max2, w_max_l, w_min2, w_min_l, w_all, w_any, w_sorted_l, w_sorted_t, w_split, w_join, w_in_t, w_nin_t, w_in_ts, w_nin_ts, e_draw, e_cok_int, e_cok_bl, e_cok_str, List.map_cons, List.map_nil, List.all_cons, List.all_nil, List.length_cons, List.length_nil, List.getElem?_cons_zero, List.getElem?_cons_succ, List.set_cons_zero, List.set_cons_succ, retD, Tg.put, puts, wipeE, true_and, and_true, and_self, Bool.and_true, Bool.true_and, exists_eq_left', exists_eq_left, R.fr.injEq, R.ow.injEq, Option.some.injEq, D.bl.injEq, D.int.injEq, D.str.injEq, D.lst.injEq, D.tup.injEq, decide_eq_true_eq, if_true, exists_eq', Bool.not_true, Bool.not_false, ite_true, ite_false, if_false, Bool.false_eq_true]
      simp only [D.tyn, tyOk, String.reduceEq, String.reduceBEq, Bool.and_false, Bool.false_and, Bool.or_false, Bool.or_true, Bool.true_or, Bool.false_or, Bool.or_self, Bool.and_self, if_true, if_false, Bool.false_eq_true, eqv_bl, decide_true, decide_false, Bool.not_true, Bool.not_false, eqv_int, Bool.not_eq_eq_eq_not, decide_eq_false_iff_not]
      try simp only [e_dSeq, e_dNext, e_dSet, e_dRet, e_dDrop, e_dIfS, e_dTgS, e_dC, e_dBin, e_dTst, e_dChn, e_dAnd, e_dOr, e_dNot, e_dAndV, e_dOrV, e_dNotV, e_dIf, e_dNil, e_dCons, e_dLst, e_dTup, e_dCB, e_dCall, e_dYes, e_dApp, e_dAug, e_dAugM, e_dIsi, e_dIsi2, e_dSl, e_dNoP, e_dPart, e_dM1, e_dFor, e_dLC, e_dIt, e_dRng1, e_dZipM, e_dRngN, e_dRev, e_dPar0, w_maxT, e_dSrtSet, e_dItS, e_dPar2, e_dPar3, e_par2, e_par3, e_dCallD, e_dCallK, e_dRng2, e_dEnum, e_dZip, nm0f, nm0o, nm0d, bo0f, bo0o, bo0d, mv0f, mv0o, mv0d, nm1f, nm1o, nm1d, bo1f, bo1o, bo1d, mv1f, mv1o, mv1d, nm2f, nm2o, nm2d, bo2f, bo2o, bo2d, mv2f, mv2o, mv2d, nm3f, nm3o, nm3d, bo3f, bo3o, bo3d, mv3f, mv3o, mv3d, nm4f, nm4o, nm4d, bo4f, bo4o, bo4d, mv4f, mv4o, mv4d, nm5f, nm5o, nm5d, bo5f, bo5o, bo5d, mv5f, mv5o, mv5d, nm6f, nm6o, nm6d, bo6f, bo6o, bo6d, mv6f, mv6o, mv6d, nm7f, nm7o, nm7d, bo7f, bo7o, bo7d, mv7f, mv7o, mv7d, nm8f, nm8o, nm8d, bo8f, bo8o, bo8d, mv8f, mv8o, mv8d, nm9f, nm9o, nm9d, bo9f, bo9o, bo9d, mv9f, mv9o, mv9d, nm10f, nm10o, nm10d, bo10f, bo10o, bo10d, mv10f, mv10o, mv10d, nm11f, nm11o, nm11d, bo11f, bo11o, bo11d, mv11f, mv11o, mv11d, nm12f, nm12o, nm12d, bo12f, bo12o, bo12d, mv12f, mv12o, mv12d, nm13f, nm13o, nm13d, bo13f, bo13o, bo13d, mv13f, mv13o, mv13d, nm14f, nm14o, nm14d, bo14f, bo14o, bo14d, mv14f, mv14o, mv14d, nm15f, nm15o, nm15d, bo15f, bo15o, bo15d, mv15f, mv15o, mv15d, nm16f, bo16f, mv16f, nm16o, bo16o, mv16o, nm16d, bo16d, mv16d, nm17f, bo17f, mv17f, nm17o, bo17o, mv17o, nm17d, bo17d, mv17d, nm18f, bo18f, mv18f, nm18o, bo18o, mv18o, nm18d, bo18d, mv18d, nm19f, bo19f, mv19f, nm19o, bo19o, mv19o, nm19d, bo19d, mv19d, nm20f, bo20f, mv20f, nm20o, bo20o, mv20o, nm20d, bo20d, mv20d, nm21f, bo21f, mv21f, nm21o, bo21o, mv21o, nm21d, bo21d, mv21d, nm22f, bo22f, mv22f, nm22o, bo22o, mv22o, nm22d, bo22d, mv22d, nm23f, bo23f, mv23f, nm23o, bo23o, mv23o, nm23d, bo23d, mv23d, d_fr, fz_fr, isFr_fr, free_fr, d_ow, fz_ow, isFr_ow, free_ow, d_od, fz_od, isFr_od, free_od, d_bo, fz_bo, isFr_bo, free_bo, d_bd, fz_bd, isFr_bd, free_bd, w_add_i, w_add_s, w_add_l, w_add_t, w_sub, w_mul_i, w_mul_s, w_mul_l, w_mul_t, w_mod, w_fdv, w_pow, w_le_i, w_gt_i, w_ge_i, w_le_s, w_gt_s, w_ge_s, w_lt_i, w_lt_s, w_eq, w_ne, w_is_b, w_isN_b, w_in_l, w_nin_l, w_ix_l, w_ix_t, w_ix_s, w_sl_l, w_sl_t, w_sl_s, w_len_l, w_len_t, w_len_s, w_list_l, w_list_t, w_tuple_l, w_tuple_t, w_str, w_int_i, w_int_b, w_int_s, w_max2, w_max_l, w_min2, w_min_l, w_all, w_any, w_sorted_l, w_sorted_t, w_split, w_join, w_in_t, w_nin_t, w_in_ts, w_nin_ts, e_draw, e_cok_int, e_cok_bl, e_cok_str, List.map_cons, List.map_nil, List.all_cons, List.all_nil, List.length_cons, List.length_nil, List.getElem?_cons_zero, List.getElem?_cons_succ, List.set_cons_zero, List.set_cons_succ, retD, Tg.put, puts, wipeE, true_and, and_true, and_self, Bool.and_true, Bool.true_and, exists_eq_left', exists_eq_left, R.fr.injEq, R.ow.injEq, Option.some.injEq, D.bl.injEq, D.int.injEq, D.str.injEq, D.lst.injEq, D.tup.injEq, decide_eq_true_eq, if_true, exists_eq', Bool.not_true, Bool.not_false, ite_true, ite_false, if_false, Bool.false_eq_true]
      simp only [plain, Bool.and_eq_true, decide_eq_true_eq] at hx hy
      refine ⟨shp_bl _, shp_bl _, shp_bl _, shp_bl _, shp_int _, shp_int _, ?_⟩
      try simp only [eqv_int, Bool.not_eq_eq_eq_not, Bool.not_true, decide_eq_false_iff_not]
      refine ite_k (fun h => q _ ⟨false, rfl, by simp; intro e; subst e; exact h rfl⟩) fun h => ?_
      have hl : xs.length = ys.length := by omega
      refine ⟨by omega, ?_⟩
      rw [rngD_eq, Int.toNat_natCast]
      -- the answers, chosen place by place
      refine ⟨rfl, fun i acc => ∃ c : Int → Bool, (∀ (j : Nat) x y, j < i → xs[j]? = some x → ys[j]? = some y → (c j = true ↔ x = y)) ∧ acc = ((((rngI 0 xs.length).take i).filter fun i => !c i).map D.int), ⟨fun _ => true, by simp, by simp⟩, ?_, ?_⟩
      · rintro i d acc hd ⟨c, hc, rfl⟩
        rw [List.getElem?_map, Option.map_eq_some_iff] at hd
        obtain ⟨iv, hiv, rfl⟩ := hd
        have hi : i < xs.length := by
          have := (List.getElem?_eq_some_iff.mp hiv).1
          simpa [rngI] using this
        have ei : iv = (i : Int) := by
          unfold rngI at hiv
          rw [List.getElem?_map, Option.map_eq_some_iff] at hiv
          obtain ⟨j, h1, h2⟩ := hiv
          rw [List.getElem?_range (by simpa using hi)] at h1
          cases h1
          omega
        subst ei
        refine ⟨_, rfl, ?_⟩
        try simp only [e_dSeq, e_dNext, e_dSet, e_dRet, e_dDrop, e_dIfS, e_dTgS, e_dC, e_dBin, e_dTst, e_dChn, e_dAnd, e_dOr, e_dNot, e_dAndV, e_dOrV, e_dNotV, e_dIf, e_dNil, e_dCons, e_dLst, e_dTup, e_dCB, e_dCall, e_dYes, e_dApp, e_dAug, e_dAugM, e_dIsi, e_dIsi2, e_dSl, e_dNoP, e_dPart, e_dM1, e_dFor, e_dLC, e_dIt, e_dRng1, e_dZipM, e_dRngN, e_dRev, e_dPar0, w_maxT, e_dSrtSet, e_dItS, e_dPar2, e_dPar3, e_par2, e_par3, e_dCallD, e_dCallK, e_dRng2, e_dEnum, e_dZip, nm0f, nm0o, nm0d, bo0f, bo0o, bo0d, mv0f, mv0o, mv0d, nm1f, nm1o, nm1d, bo1f, bo1o, bo1d, mv1f, mv1o, mv1d, nm2f, nm2o, nm2d, bo2f, bo2o, bo2d, mv2f, mv2o, mv2d, nm3f, nm3o, nm3d, bo3f, bo3o, bo3d, mv3f, mv3o, mv3d, nm4f, nm4o, nm4d, bo4f, bo4o, bo4d, mv4f, mv4o, mv4d, nm5f, nm5o, nm5d, bo5f, bo5o, bo5d, mv5f, mv5o, mv5d, nm6f, nm6o, nm6d, bo6f, bo6o, bo6d, mv6f, mv6o, mv6d, nm7f, nm7o, nm7d, bo7f, bo7o, bo7d, mv7f, mv7o, mv7d, nm8f, nm8o, nm8d, bo8f, bo8o, bo8d, mv8f, mv8o, mv8d, nm9f, nm9o, nm9d, bo9f, bo9o, bo9d, mv9f, mv9o, mv9d, nm10f, nm10o, nm10d, bo10f, bo10o, bo10d, mv10f, mv10o, mv10d, nm11f, nm11o, nm11d, bo11f, bo11o, bo11d, mv11f, mv11o, mv11d, nm12f, nm12o, nm12d, bo12f, bo12o, bo12d, mv12f, mv12o, mv12d, nm13f, nm13o, nm13d, bo13f, bo13o, bo13d, mv13f, mv13o, mv13d, nm14f, nm14o, nm14d, bo14f, bo14o, bo14d, mv14f, mv14o, mv14d, nm15f, nm15o, nm15d, bo15f, bo15o, bo15d, mv15f, mv15o, mv15d, nm16f, bo16f, mv16f, nm16o, bo16o, mv16o, nm16d, bo16d, mv16d, nm17f, bo17f, mv17f, nm17o, bo17o, mv17o, nm17d, bo17d, mv17d, nm18f, bo18f, mv18f, nm18o, bo18o, mv18o, nm18d, bo18d, mv18d, nm19f, bo19f, mv19f, nm19o, bo19o, mv19o, nm19d, bo19d, mv19d, nm20f, bo20f, mv20f, nm20o, bo20o, mv20o, nm20d, bo20d, mv20d, nm21f, bo21f, mv21f, nm21o, bo21o, mv21o, nm21d, bo21d, mv21d, nm22f, bo22f, mv22f, nm22o, bo22o, mv22o, nm22d, bo22d, mv22d, nm23f, bo23f, mv23f, nm23o, bo23o, mv23o, nm23d, bo23d, mv23d, d_fr, fz_fr, isFr_fr, free_fr, d_ow, fz_ow, isFr_ow, free_ow, d_od, fz_od, isFr_od, free_od, d_bo, fz_bo, isFr_bo, free_bo, d_bd, fz_bd, isFr_bd, free_bd, w_add_i, w_add_s, w_add_l, w_add_t, w_sub, w_mul_i, w_mul_s, w_mul_l, w_mul_t, w_mod, w_fdv, w_pow, w_le_i, w_gt_i, w_ge_i, w_le_s, w_gt_s, w_ge_s, w_lt_i, w_lt_s, w_eq, w_ne, w_is_b, w_isN_b, w_in_l, w_nin_l, w_ix_l, w_ix_t, w_ix_s, w_sl_l, w_sl_t, w_sl_s, w_len_l, w_len_t, w_len_s, w_list_l, w_list_t, w_tuple_l, w_tuple_t, w_str, w_int_i, w_int_b, w_int_s, w_max2, w_max_l, w_min2, w_min_l, w_all, w_any, w_sorted_l, w_sorted_t, w_split, w_join, w_in_t, w_nin_t, w_in_ts, w_nin_ts, e_draw, e_cok_int, e_cok_bl, e_cok_str, List.map_cons, List.map_nil, List.all_cons, List.all_nil, List.length_cons, List.length_nil, List.getElem?_cons_zero, List.getElem?_cons_succ, List.set_cons_zero, List.set_cons_succ, retD, Tg.put, puts, wipeE, true_and, and_true, and_self, Bool.and_true, Bool.true_and, exists_eq_left', exists_eq_left, R.fr.injEq, R.ow.injEq, Option.some.injEq, D.bl.injEq, D.int.injEq, D.str.injEq, D.lst.injEq, D.tup.injEq, decide_eq_true_eq, if_true, exists_eq', Bool.not_true, Bool.not_false, ite_true, ite_false, if_false, Bool.false_eq_true]
        have hi2 : i < ys.length := by omega
        have gx := List.getElem?_eq_getElem hi
        have gy := List.getElem?_eq_getElem hi2
        refine ⟨_, atI_nat gx, _, atI_nat gy, ⟨(xs[i], ys[i]), rfl, ⟨plains_get hx.1 gx, plains_get hy.1 gy⟩, ?_⟩⟩
        rintro r ⟨b, rfl, hb⟩
        try simp only [e_dSeq, e_dNext, e_dSet, e_dRet, e_dDrop, e_dIfS, e_dTgS, e_dC, e_dBin, e_dTst, e_dChn, e_dAnd, e_dOr, e_dNot, e_dAndV, e_dOrV, e_dNotV, e_dIf, e_dNil, e_dCons, e_dLst, e_dTup, e_dCB, e_dCall, e_dYes, e_dApp, e_dAug, e_dAugM, e_dIsi, e_dIsi2, e_dSl, e_dNoP, e_dPart, e_dM1, e_dFor, e_dLC, e_dIt, e_dRng1, e_dZipM, e_dRngN, e_dRev, e_dPar0, w_maxT, e_dSrtSet, e_dItS, e_dPar2, e_dPar3, e_par2, e_par3, e_dCallD, e_dCallK, e_dRng2, e_dEnum, e_dZip, nm0f, nm0o, nm0d, bo0f, bo0o, bo0d, mv0f, mv0o, mv0d, nm1f, nm1o, nm1d, bo1f, bo1o, bo1d, mv1f, mv1o, mv1d, nm2f, nm2o, nm2d, bo2f, bo2o, bo2d, mv2f, mv2o, mv2d, nm3f, nm3o, nm3d, bo3f, bo3o, bo3d, mv3f, mv3o, mv3d, nm4f, nm4o, nm4d, bo4f, bo4o, bo4d, mv4f, mv4o, mv4d, nm5f, nm5o, nm5d, bo5f, bo5o, bo5d, mv5f, mv5o, mv5d, nm6f, nm6o, nm6d, bo6f, bo6o, bo6d, mv6f, mv6o, mv6d, nm7f, nm7o, nm7d, bo7f, bo7o, bo7d, mv7f, mv7o, mv7d, nm8f, nm8o, nm8d, bo8f, bo8o, bo8d, mv8f, mv8o, mv8d, nm9f, nm9o, nm9d, bo9f, bo9o, bo9d, mv9f, mv9o, mv9d, nm10f, nm10o, nm10d, bo10f, bo10o, bo10d, mv10f, mv10o, mv10d, nm11f, nm11o, nm11d, bo11f, bo11o, bo11d, mv11f, mv11o, mv11d, nm12f, nm12o, nm12d, bo12f, bo12o, bo12d, mv12f, mv12o, mv12d, nm13f, nm13o, nm13d, bo13f, bo13o, bo13d, mv13f, mv13o, mv13d, nm14f, nm14o, nm14d, bo14f, bo14o, bo14d, mv14f, mv14o, mv14d, nm15f, nm15o, nm15d, bo15f, bo15o, bo15d, mv15f, mv15o, mv15d, nm16f, bo16f, mv16f, nm16o, bo16o, mv16o, nm16d, bo16d, mv16d, nm17f, bo17f, mv17f, nm17o, bo17o, mv17o, nm17d, bo17d, mv17d, nm18f, bo18f, mv18f, nm18o, bo18o, mv18o, nm18d, bo18d, mv18d, nm19f, bo19f, mv19f, nm19o, bo19o, mv19o, nm19d, bo19d, mv19d, nm20f, bo20f, mv20f, nm20o, bo20o, mv20o, nm20d, bo20d, mv20d, nm21f, bo21f, mv21f, nm21o, bo21o, mv21o, nm21d, bo21d, mv21d, nm22f, bo22f, mv22f, nm22o, bo22o, mv22o, nm22d, bo22d, mv22d, nm23f, bo23f, mv23f, nm23o, bo23o, mv23o, nm23d, bo23d, mv23d, d_fr, fz_fr, isFr_fr, free_fr, d_ow, fz_ow, isFr_ow, free_ow, d_od, fz_od, isFr_od, free_od, d_bo, fz_bo, isFr_bo, free_bo, d_bd, fz_bd, isFr_bd, free_bd, w_add_i, w_add_s, w_add_l, w_add_t, w_sub, w_mul_i, w_mul_s, w_mul_l, w_mul_t, w_mod, w_fdv, w_pow, w_le_i, w_gt_i, w_ge_i, w_le_s, w_gt_s, w_ge_s, w_lt_i, w_lt_s, w_eq, w_ne, w_is_b, w_isN_b, w_in_l, w_nin_l, w_ix_l, w_ix_t, w_ix_s, w_sl_l, w_sl_t, w_sl_s, w_len_l, w_len_t, w_len_s, w_list_l, w_list_t, w_tuple_l, w_tuple_t, w_str, w_int_i, w_int_b, w_int_s, w_max2, w_max_l, w_min2, w_min_l, w_all, w_any, w_sorted_l, w_sorted_t, w_split, w_join, w_in_t, w_nin_t, w_in_ts, w_nin_ts, e_draw, e_cok_int, e_cok_bl, e_cok_str, List.map_cons, List.map_nil, List.all_cons, List.all_nil, List.length_cons, List.length_nil, List.getElem?_cons_zero, List.getElem?_cons_succ, List.set_cons_zero, List.set_cons_succ, retD, Tg.put, puts, wipeE, true_and, and_true, and_self, Bool.and_true, Bool.true_and, exists_eq_left', exists_eq_left, R.fr.injEq, R.ow.injEq, Option.some.injEq, D.bl.injEq, D.int.injEq, D.str.injEq, D.lst.injEq, D.tup.injEq, decide_eq_true_eq, if_true, exists_eq', Bool.not_true, Bool.not_false, ite_true, ite_false, if_false, Bool.false_eq_true]
        have key : ∃ c' : Int → Bool, (∀ (j : Nat) x y, j < i + 1 → xs[j]? = some x → ys[j]? = some y → (c' j = true ↔ x = y)) ∧ ((((rngI 0 xs.length).take (i + 1)).filter fun i => !c' i).map D.int) = ((((rngI 0 xs.length).take i).filter fun i => !c i).map D.int) ++ (if b = true then [] else [.int (i : Int)]) := by
          refine ⟨fun z => if z = (i : Int) then b else c z, fun j x y hj h1 h2 => ?_, ?_⟩
          · by_cases e : j = i
            · subst e
              rw [gx] at h1; rw [gy] at h2
              cases h1; cases h2
              simpa using hb
            · show (if (j : Int) = (i : Int) then b else c j) = true ↔ x = y
              rw [if_neg (by omega)]
              exact hc j x y (by omega) h1 h2
          · rw [take_get hiv, List.filter_append, List.map_append]
            congr 1
            · congr 1
              refine List.filter_congr fun z hz => ?_
              obtain ⟨j, hj⟩ := List.mem_iff_getElem?.mp hz
              rw [List.getElem?_take] at hj
              split at hj
              · rename_i hji
                have : z = (j : Int) := by
                  unfold rngI at hj
                  rw [List.getElem?_map, Option.map_eq_some_iff] at hj
                  obtain ⟨j', h1, h2⟩ := hj
                  rw [List.getElem?_range (by omega)] at h1
                  cases h1
                  omega
                show (!(if z = (i : Int) then b else c z)) = !c z
                rw [if_neg (by omega)]
              · cases hj
            · cases b <;> simp
        obtain ⟨c', hc', e'⟩ := key
        cases b
        · simp only [Bool.not_false, if_true]
          refine ⟨c', hc', ?_⟩
          rw [e']; rfl
        · simp only [Bool.not_true, Bool.false_eq_true, if_false]
          refine ⟨c', hc', ?_⟩
          rw [e']; simp
      · rintro acc - ⟨c, hc, rfl⟩
        try simp only [e_dSeq, e_dNext, e_dSet, e_dRet, e_dDrop, e_dIfS, e_dTgS, e_dC, e_dBin, e_dTst, e_dChn, e_dAnd, e_dOr, e_dNot, e_dAndV, e_dOrV, e_dNotV, e_dIf, e_dNil, e_dCons, e_dLst, e_dTup, e_dCB, e_dCall, e_dYes, e_dApp, e_dAug, e_dAugM, e_dIsi, e_dIsi2, e_dSl, e_dNoP, e_dPart, e_dM1, e_dFor, e_dLC, e_dIt, e_dRng1, e_dZipM, e_dRngN, e_dRev, e_dPar0, w_maxT, e_dSrtSet, e_dItS, e_dPar2, e_dPar3, e_par2, e_par3, e_dCallD, e_dCallK, e_dRng2, e_dEnum, e_dZip, nm0f, nm0o, nm0d, bo0f, bo0o, bo0d, mv0f, mv0o, mv0d, nm1f, nm1o, nm1d, bo1f, bo1o, bo1d, mv1f, mv1o, mv1d, nm2f, nm2o, nm2d, bo2f, bo2o, bo2d, mv2f, mv2o, mv2d, nm3f, nm3o, nm3d, bo3f, bo3o, bo3d, mv3f, mv3o, mv3d, nm4f, nm4o, nm4d, bo4f, bo4o, bo4d, mv4f, mv4o, mv4d, nm5f, nm5o, nm5d, bo5f, bo5o, bo5d, mv5f, mv5o, mv5d, nm6f, nm6o, nm6d, bo6f, bo6o, bo6d, mv6f, mv6o, mv6d, nm7f, nm7o, nm7d, bo7f, bo7o, bo7d, mv7f, mv7o, mv7d, nm8f, nm8o, nm8d, bo8f, bo8o, bo8d, mv8f, mv8o, mv8d, nm9f, nm9o, nm9d, bo9f, bo9o, bo9d, mv9f, mv9o, mv9d, nm10f, nm10o, nm10d, bo10f, bo10o, bo10d, mv10f, mv10o, mv10d, nm11f, nm11o, nm11d, bo11f, bo11o, bo11d, mv11f, mv11o, mv11d, nm12f, nm12o, nm12d, bo12f, bo12o, bo12d, mv12f, mv12o, mv12d, nm13f, nm13o, nm13d, bo13f, bo13o, bo13d, mv13f, mv13o, mv13d, nm14f, nm14o, nm14d, bo14f, bo14o, bo14d, mv14f, mv14o, mv14d, nm15f, nm15o, nm15d, bo15f, bo15o, bo15d, mv15f, mv15o, mv15d, nm16f, bo16f, mv16f, nm16o, bo16o, mv16o, nm16d, bo16d, mv16d, nm17f, bo17f, mv17f, nm17o, bo17o, mv17o, nm17d, bo17d, mv17d, nm18f, bo18f, mv18f, nm18o, bo18o, mv18o, nm18d, bo18d, mv18d, nm19f, bo19f, mv19f, nm19o, bo19o, mv19o, nm19d, bo19d, mv19d, nm20f, bo20f, mv20f, nm20o, bo20o, mv20o, nm20d, bo20d, mv20d, nm21f, bo21f, mv21f, nm21o, bo21o, mv21o, nm21d, bo21d, mv21d, nm22f, bo22f, mv22f, nm22o, bo22o, mv22o, nm22d, bo22d, mv22d, nm23f, bo23f, mv23f, nm23o, bo23o, mv23o, nm23d, bo23d, mv23d, d_fr, fz_fr, isFr_fr, free_fr, d_ow, fz_ow, isFr_ow, free_ow, d_od, fz_od, isFr_od, free_od, d_bo, fz_bo, isFr_bo, free_bo, d_bd, fz_bd, isFr_bd, free_bd, w_add_i, w_add_s, w_add_l, w_add_t, w_sub, w_mul_i, w_mul_s, w_mul_l, w_mul_t, w_mod, w_fdv, w_pow, w_le_i, w_gt_i, w_ge_i, w_le_s, w_gt_s, w_ge_s, w_lt_i, w_lt_s, w_eq, w_ne, w_is_b, w_isN_b, w_in_l, w_nin_l, w_ix_l, w_ix_t, w_ix_s, w_sl_l, w_sl_t, w_sl_s, w_len_l, w_len_t, w_len_s, w_list_l, w_list_t, w_tuple_l, w_tuple_t, w_str, w_int_i, w_int_b, w_int_s, w_max2, w_max_l, w_min2, w_min_l, w_all, w_any, w_sorted_l, w_sorted_t, w_split, w_join, w_in_t, w_nin_t, w_in_ts, w_nin_ts, e_draw, e_cok_int, e_cok_bl, e_cok_str, List.map_cons, List.map_nil, List.all_cons, List.all_nil, List.length_cons, List.length_nil, List.getElem?_cons_zero, List.getElem?_cons_succ, List.set_cons_zero, List.set_cons_succ, retD, Tg.put, puts, wipeE, true_and, and_true, and_self, Bool.and_true, Bool.true_and, exists_eq_left', exists_eq_left, R.fr.injEq, R.ow.injEq, Option.some.injEq, D.bl.injEq, D.int.injEq, D.str.injEq, D.lst.injEq, D.tup.injEq, decide_eq_true_eq, if_true, exists_eq', Bool.not_true, Bool.not_false, ite_true, ite_false, if_false, Bool.false_eq_true]
        have hlen : ((rngI 0 xs.length).map D.int).length = xs.length := by simp [rngI]
        rw [hlen] at hc ⊢
        rw [List.take_of_length_le (by simp [rngI])]
        refine ⟨Nat.zero_le _, shp_ints _, shp_ints [], ?_⟩
        rw [show D.lst [] = D.lst (([] : List Int).map D.int) from rfl, eqv_ints]
        refine q _ ⟨_, rfl, ?_⟩
        rw [decide_eq_true_eq, like_of (Nat.le_refl 0) hl fun j x y h1 h2 => hc j x y (List.getElem?_eq_some_iff.mp h1).1 h1 h2]
        simp
    case tup.tup xs ys =>
      show (_ : TSd) (retD Q) [some (.fr (.tup xs)), some (.fr (.tup ys)), none]
      try simp only [e_dSeq, e_dNext, e_dSet, e_dRet, e_dDrop, e_dIfS, e_dTgS, e_dC, e_dBin, e_dTst, e_dChn, e_dAnd, e_dOr, e_dNot, e_dAndV, e_dOrV, e_dNotV, e_dIf, e_dNil, e_dCons, e_dLst, e_dTup, e_dCB, e_dCall, e_dYes, e_dApp, e_dAug, e_dAugM, e_dIsi, e_dIsi2, e_dSl, e_dNoP, e_dPart, e_dM1, e_dFor, e_dLC, e_dIt, e_dRng1, e_dZipM, e_dRngN, e_dRev, e_dPar0, w_maxT, e_dSrtSet, e_dItS, e_dPar2, e_dPar3, e_par2, e_par3, e_dCallD, e_dCallK, e_dRng2, e_dEnum, e_dZip, nm0f, nm0o, nm0d, bo0f, bo0o, bo0d, mv0f, mv0o, mv0d, nm1f, nm1o, nm1d, bo1f, bo1o, bo1d, mv1f, mv1o, mv1d, nm2f, nm2o, nm2d, bo2f, bo2o, bo2d, mv2f, mv2o, mv2d, nm3f, nm3o, nm3d, bo3f, bo3o, bo3d, mv3f, mv3o, mv3d, nm4f, nm4o, nm4d, bo4f, bo4o, bo4d, mv4f, mv4o, mv4d, nm5f, nm5o, nm5d, bo5f, bo5o, bo5d, mv5f, mv5o, mv5d, nm6f, nm6o, nm6d, bo6f, bo6o, bo6d, mv6f, mv6o, mv6d, nm7f, nm7o, nm7d, bo7f, bo7o, bo7d, mv7f, mv7o, mv7d, nm8f, nm8o, nm8d, bo8f, bo8o, bo8d, mv8f, mv8o, mv8d, nm9f, nm9o, nm9d, bo9f, bo9o, bo9d, mv9f, mv9o, mv9d, nm10f, nm10o, nm10d, bo10f, bo10o, bo10d, mv10f, mv10o, mv10d, nm11f, nm11o, nm11d, bo11f, bo11o, bo11d, mv11f, mv11o, mv11d, nm12f, nm12o, nm12d, bo12f, bo12o, bo12d, mv12f, mv12o, mv12d, nm13f, nm13o, nm13d, bo13f, bo13o, bo13d, mv13f, mv13o, mv13d, nm14f, nm14o, nm14d, bo14f, bo14o, bo14d, mv14f, mv14o, mv14d, nm15f, nm15o, nm15d, bo15f, bo15o, bo15d, mv15f, mv15o, mv15d, nm16f, bo16f, mv16f, nm16o, bo16o, mv16o, nm16d, bo16d, mv16d, nm17f, bo17f, mv17f, nm17o, bo17o, mv17o, nm17d, bo17d, mv17d, nm18f, bo18f, mv18f, nm18o, bo18o, mv18o, nm18d, bo18d, mv18d, nm19f, bo19f, mv19f, nm19o, bo19o, mv19o, nm19d, bo19d, mv19d, nm20f, bo20f, mv20f, nm20o, bo20o, mv20o, nm20d, bo20d, mv20d, nm21f, bo21f, mv21f, nm21o, bo21o, mv21o, nm21d, bo21d, mv21d, nm22f, bo22f, mv22f, nm22o, bo22o, mv22o, nm22d, bo22d, mv22d, nm23f, bo23f, mv23f, nm23o, bo23o, mv23o, nm23d, bo23d, mv23d, d_fr, fz_fr, isFr_fr, free_fr, d_ow, fz_ow, isFr_ow, free_ow, d_od, fz_od, isFr_od, free_od, d_bo, fz_bo, isFr_bo, free_bo, d_bd, fz_bd, isFr_bd, free_bd, w_add_i, w_add_s, w_add_l, w_add_t, w_sub, w_mul_i, w_mul_s, w_mul_l, w_mul_t, w_mod, w_fdv, w_pow, w_le_i, w_gt_i, w_ge_i, w_le_s, w_gt_s, w_ge_s, w_lt_i, w_lt_s, w_eq, w_ne, w_is_b, w_isN_b, w_in_l, w_nin_l, w_ix_l, w_ix_t, w_ix_s, w_sl_l, w_sl_t, w_sl_s, w_len_l, w_len_t, w_len_s, w_list_l, w_list_t, w_tuple_l, w_tuple_t, w_str, w_int_i, w_int_b, w_int_s, w_max2, w_max_l, w_min2, w_min_l, w_all, w_any, w_sorted_l, w_sorted_t, w_split, w_join, w_in_t, w_nin_t, w_in_ts, w_nin_ts, e_draw, e_cok_int, e_cok_bl, e_cok_str, List.map_cons, List.map_nil, List.all_cons, List.all_nil, List.length_cons, List.length_nil, List.getElem?_cons_zero, List.getElem?_cons_succ, List.set_cons_zero, List.set_cons_succ, retD, Tg.put, puts, wipeE, true_and, and_true, and_self, Bool.and_true, Bool.true_and, exists_eq_left', exists_eq_left, R.fr.injEq, R.ow.injEq, Option.some.injEq, D.bl.injEq, D.int.injEq, D.str.injEq, D.lst.injEq, D.tup.injEq, decide_eq_true_eq, if_true, exists_eq', Bool.not_true, Bool.not_false, ite_true, ite_false, if_false, Bool.false_eq_true]
      simp only [D.tyn, tyOk, String.reduceEq, String.reduceBEq, Bool.and_false, Bool.false_and, Bool.or_false, Bool.or_true, Bool.true_or, Bool.false_or, Bool.or_self, Bool.and_self, if_true, if_false, Bool.false_eq_true, eqv_bl, decide_true, decide_false, Bool.not_true, Bool.not_false, eqv_int, Bool.not_eq_eq_eq_not, decide_eq_false_iff_not]
      try simp only [e_dSeq, e_dNext, e_dSet, e_dRet, e_dDrop, e_dIfS, e_dTgS, e_dC, e_dBin, e_dTst, e_dChn, e_dAnd, e_dOr, e_dNot, e_dAndV, e_dOrV, e_dNotV, e_dIf, e_dNil, e_dCons, e_dLst, e_dTup, e_dCB, e_dCall, e_dYes, e_dApp, e_dAug, e_dAugM, e_dIsi, e_dIsi2, e_dSl, e_dNoP, e_dPart, e_dM1, e_dFor, e_dLC, e_dIt, e_dRng1, e_dZipM, e_dRngN, e_dRev, e_dPar0, w_maxT, e_dSrtSet, e_dItS, e_dPar2, e_dPar3, e_par2, e_par3, e_dCallD, e_dCallK, e_dRng2, e_dEnum, e_dZip, nm0f, nm0o, nm0d, bo0f, bo0o, bo0d, mv0f, mv0o, mv0d, nm1f, nm1o, nm1d, bo1f, bo1o, bo1d, mv1f, mv1o, mv1d, nm2f, nm2o, nm2d, bo2f, bo2o, bo2d, mv2f, mv2o, mv2d, nm3f, nm3o, nm3d, bo3f, bo3o, bo3d, mv3f, mv3o, mv3d, nm4f, nm4o, nm4d, bo4f, bo4o, bo4d, mv4f, mv4o, mv4d, nm5f, nm5o, nm5d, bo5f, bo5o, bo5d, mv5f, mv5o, mv5d, nm6f, nm6o, nm6d, bo6f, bo6o, bo6d, mv6f, mv6o, mv6d, nm7f, nm7o, nm7d, bo7f, bo7o, bo7d, mv7f, mv7o, mv7d, nm8f, nm8o, nm8d, bo8f, bo8o, bo8d, mv8f, mv8o, mv8d, nm9f, nm9o, nm9d, bo9f, bo9o, bo9d, mv9f, mv9o, mv9d, nm10f, nm10o, nm10d, bo10f, bo10o, bo10d, mv10f, mv10o, mv10d, nm11f, nm11o, nm11d, bo11f, bo11o, bo11d, mv11f, mv11o, mv11d, nm12f, nm12o, nm12d, bo12f, bo12o, bo12d, mv12f, mv12o, mv12d, nm13f, nm13o, nm13d, bo13f, bo13o, bo13d, mv13f, mv13o, mv13d, nm14f, nm14o, nm14d, bo14f, bo14o, bo14d, mv14f, mv14o, mv14d, nm15f, nm15o, nm15d, bo15f, bo15o, bo15d, mv15f, mv15o, mv15d, nm16f, bo16f, mv16f, nm16o, bo16o, mv16o, nm16d, bo16d, mv16d, nm17f, bo17f, mv17f, nm17o, bo17o, mv17o, nm17d, bo17d, mv17d, nm18f, bo18f, mv18f, nm18o, bo18o, mv18o, nm18d, bo18d, mv18d, nm19f, bo19f, mv19f, nm19o, bo19o, mv19o, nm19d, bo19d, mv19d, nm20f, bo20f, mv20f, nm20o, bo20o, mv20o, nm20d, bo20d, mv20d, nm21f, bo21f, mv21f, nm21o, bo21o, mv21o, nm21d, bo21d, mv21d, nm22f, bo22f, mv22f, nm22o, bo22o, mv22o, nm22d, bo22d, mv22d, nm23f, bo23f, mv23f, nm23o, bo23o, mv23o, nm23d, bo23d, mv23d, d_fr, fz_fr, isFr_fr, free_fr, d_ow, fz_ow, isFr_ow, free_ow, d_od, fz_od, isFr_od, free_od, d_bo, fz_bo, isFr_bo, free_bo, d_bd, fz_bd, isFr_bd, free_bd, w_add_i, w_add_s, w_add_l, w_add_t, w_sub, w_mul_i, w_mul_s, w_mul_l, w_mul_t, w_mod, w_fdv, w_pow, w_le_i, w_gt_i, w_ge_i, w_le_s, w_gt_s, w_ge_s, w_lt_i, w_lt_s, w_eq, w_ne, w_is_b, w_isN_b, w_in_l, w_nin_l, w_ix_l, w_ix_t, w_ix_s, w_sl_l, w_sl_t, w_sl_s, w_len_l, w_len_t, w_len_s, w_list_l, w_list_t, w_tuple_l, w_tuple_t, w_str, w_int_i, w_int_b, w_int_s, w_max2, w_max_l, w_min2, w_min_l, w_all, w_any, w_sorted_l, w_sorted_t, w_split, w_join, w_in_t, w_nin_t, w_in_ts, w_nin_ts, e_draw, e_cok_int, e_cok_bl, e_cok_str, List.map_cons, List.map_nil, List.all_cons, List.all_nil, List.length_cons, List.length_nil, List.getElem?_cons_zero, List.getElem?_cons_succ, List.set_cons_zero, List.set_cons_succ, retD, Tg.put, puts, wipeE, true_and, and_true, and_self, Bool.and_true, Bool.true_and, exists_eq_left', exists_eq_left, R.fr.injEq, R.ow.injEq, Option.some.injEq, D.bl.injEq, D.int.injEq, D.str.injEq, D.lst.injEq, D.tup.injEq, decide_eq_true_eq, if_true, exists_eq', Bool.not_true, Bool.not_false, ite_true, ite_false, if_false, Bool.false_eq_true]
      simp only [plain, Bool.and_eq_true, decide_eq_true_eq] at hx hy
      refine ⟨shp_bl _, shp_bl _, shp_bl _, shp_bl _, shp_int _, shp_int _, ?_⟩
      try simp only [eqv_int, Bool.not_eq_eq_eq_not, Bool.not_true, decide_eq_false_iff_not]
      refine ite_k (fun h => q _ ⟨false, rfl, by simp; intro e; subst e; exact h rfl⟩) fun h => ?_
      have hl : xs.length = ys.length := by omega
      refine ⟨by omega, ?_⟩
      rw [rngD_eq, Int.toNat_natCast]
      -- the answers, chosen place by place
      refine ⟨rfl, fun i acc => ∃ c : Int → Bool, (∀ (j : Nat) x y, j < i → xs[j]? = some x → ys[j]? = some y → (c j = true ↔ x = y)) ∧ acc = ((((rngI 0 xs.length).take i).filter fun i => !c i).map D.int), ⟨fun _ => true, by simp, by simp⟩, ?_, ?_⟩
      · rintro i d acc hd ⟨c, hc, rfl⟩
        rw [List.getElem?_map, Option.map_eq_some_iff] at hd
        obtain ⟨iv, hiv, rfl⟩ := hd
        have hi : i < xs.length := by
          have := (List.getElem?_eq_some_iff.mp hiv).1
          simpa [rngI] using this
        have ei : iv = (i : Int) := by
          unfold rngI at hiv
          rw [List.getElem?_map, Option.map_eq_some_iff] at hiv
          obtain ⟨j, h1, h2⟩ := hiv
          rw [List.getElem?_range (by simpa using hi)] at h1
          cases h1
          omega
        subst ei
        refine ⟨_, rfl, ?_⟩
        try simp only [e_dSeq, e_dNext, e_dSet, e_dRet, e_dDrop, e_dIfS, e_dTgS, e_dC, e_dBin, e_dTst, e_dChn, e_dAnd, e_dOr, e_dNot, e_dAndV, e_dOrV, e_dNotV, e_dIf, e_dNil, e_dCons, e_dLst, e_dTup, e_dCB, e_dCall, e_dYes, e_dApp, e_dAug, e_dAugM, e_dIsi, e_dIsi2, e_dSl, e_dNoP, e_dPart, e_dM1, e_dFor, e_dLC, e_dIt, e_dRng1, e_dZipM, e_dRngN, e_dRev, e_dPar0, w_maxT, e_dSrtSet, e_dItS, e_dPar2, e_dPar3, e_par2, e_par3, e_dCallD, e_dCallK, e_dRng2, e_dEnum, e_dZip, nm0f, nm0o, nm0d, bo0f, bo0o, bo0d, mv0f, mv0o, mv0d, nm1f, nm1o, nm1d, bo1f, bo1o, bo1d, mv1f, mv1o, mv1d, nm2f, nm2o, nm2d, bo2f, bo2o, bo2d, mv2f, mv2o, mv2d, nm3f, nm3o, nm3d, bo3f, bo3o, bo3d, mv3f, mv3o, mv3d, nm4f, nm4o, nm4d, bo4f, bo4o, bo4d, mv4f, mv4o, mv4d, nm5f, nm5o, nm5d, bo5f, bo5o, bo5d, mv5f, mv5o, mv5d, nm6f, nm6o, nm6d, bo6f, bo6o, bo6d, mv6f, mv6o, mv6d, nm7f, nm7o, nm7d, bo7f, bo7o, bo7d, mv7f, mv7o, mv7d, nm8f, nm8o, nm8d, bo8f, bo8o, bo8d, mv8f, mv8o, mv8d, nm9f, nm9o, nm9d, bo9f, bo9o, bo9d, mv9f, mv9o, mv9d, nm10f, nm10o, nm10d, bo10f, bo10o, bo10d, mv10f, mv10o, mv10d, nm11f, nm11o, nm11d, bo11f, bo11o, bo11d, mv11f, mv11o, mv11d, nm12f, nm12o, nm12d, bo12f, bo12o, bo12d, mv12f, mv12o, mv12d, nm13f, nm13o, nm13d, bo13f, bo13o, bo13d, mv13f, mv13o, mv13d, nm14f, nm14o, nm14d, bo14f, bo14o, bo14d, mv14f, mv14o, mv14d, nm15f, nm15o, nm15d, bo15f, bo15o, bo15d, mv15f, mv15o, mv15d, nm16f, bo16f, mv16f, nm16o, bo16o, mv16o, nm16d, bo16d, mv16d, nm17f, bo17f, mv17f, nm17o, bo17o, mv17o, nm17d, bo17d, mv17d, nm18f, bo18f, mv18f, nm18o, bo18o, mv18o, nm18d, bo18d, mv18d, nm19f, bo19f, mv19f, nm19o, bo19o, mv19o, nm19d, bo19d, mv19d, nm20f, bo20f, mv20f, nm20o, bo20o, mv20o, nm20d, bo20d, mv20d, nm21f, bo21f, mv21f, nm21o, bo21o, mv21o, nm21d, bo21d, mv21d, nm22f, bo22f, mv22f, nm22o, bo22o, mv22o, nm22d, bo22d, mv22d, nm23f, bo23f, mv23f, nm23o, bo23o, mv23o, nm23d, bo23d, mv23d, d_fr, fz_fr, isFr_fr, free_fr, d_ow, fz_ow, isFr_ow, free_ow, d_od, fz_od, isFr_od, free_od, d_bo, fz_bo, isFr_bo, free_bo, d_bd, fz_bd, isFr_bd, free_bd, w_add_i, w_add_s, w_add_l, w_add_t, w_sub, w_mul_i, w_mul_s, w_mul_l, w_mul_t, w_mod, w_fdv, w_pow, w_le_i, w_gt_i, w_ge_i, w_le_s, w_gt_s, w_ge_s, w_lt_i, w_lt_s, w_eq, w_ne, w_is_b, w_isN_b, w_in_l, w_nin_l, w_ix_l, w_ix_t, w_ix_s, w_sl_l, w_sl_t, w_sl_s, w_len_l, w_len_t, w_len_s, w_list_l, w_list_t, w_tuple_l, w_tuple_t, w_str, w_int_i, w_int_b, w_int_s, w_max2, w_max_l, w_min2, w_min_l, w_all, w_any, w_sorted_l, w_sorted_t, w_split, w_join, w_in_t, w_nin_t, w_in_ts, w_nin_ts, e_draw, e_cok_int, e_cok_bl, e_cok_str, List.map_cons, List.map_nil, List.all_cons, List.all_nil, List.length_cons, List.length_nil, List.getElem?_cons_zero, List.getElem?_cons_succ, List.set_cons_zero, List.set_cons_succ, retD, Tg.put, puts, wipeE, true_and, and_true, and_self, Bool.and_true, Bool.true_and, exists_eq_left', exists_eq_left, R.fr.injEq, R.ow.injEq, Option.some.injEq, D.bl.injEq, D.int.injEq, D.str.injEq, D.lst.injEq, D.tup.injEq, decide_eq_true_eq, if_true, exists_eq', Bool.not_true, Bool.not_false, ite_true, ite_false, if_false, Bool.false_eq_true]
        have hi2 : i < ys.length := by omega
        have gx := List.getElem?_eq_getElem hi
        have gy := List.getElem?_eq_getElem hi2
        refine ⟨_, atI_nat gx, _, atI_nat gy, ⟨(xs[i], ys[i]), rfl, ⟨plains_get hx.1 gx, plains_get hy.1 gy⟩, ?_⟩⟩
        rintro r ⟨b, rfl, hb⟩
        try simp only [e_dSeq, e_dNext, e_dSet, e_dRet, e_dDrop, e_dIfS, e_dTgS, e_dC, e_dBin, e_dTst, e_dChn, e_dAnd, e_dOr, e_dNot, e_dAndV, e_dOrV, e_dNotV, e_dIf, e_dNil, e_dCons, e_dLst, e_dTup, e_dCB, e_dCall, e_dYes, e_dApp, e_dAug, e_dAugM, e_dIsi, e_dIsi2, e_dSl, e_dNoP, e_dPart, e_dM1, e_dFor, e_dLC, e_dIt, e_dRng1, e_dZipM, e_dRngN, e_dRev, e_dPar0, w_maxT, e_dSrtSet, e_dItS, e_dPar2, e_dPar3, e_par2, e_par3, e_dCallD, e_dCallK, e_dRng2, e_dEnum, e_dZip, nm0f, nm0o, nm0d, bo0f, bo0o, bo0d, mv0f, mv0o, mv0d, nm1f, nm1o, nm1d, bo1f, bo1o, bo1d, mv1f, mv1o, mv1d, nm2f, nm2o, nm2d, bo2f, bo2o, bo2d, mv2f, mv2o, mv2d, nm3f, nm3o, nm3d, bo3f, bo3o, bo3d, mv3f, mv3o, mv3d, nm4f, nm4o, nm4d, bo4f, bo4o, bo4d, mv4f, mv4o, mv4d, nm5f, nm5o, nm5d, bo5f, bo5o, bo5d, mv5f, mv5o, mv5d, nm6f, nm6o, nm6d, bo6f, bo6o, bo6d, mv6f, mv6o, mv6d, nm7f, nm7o, nm7d, bo7f, bo7o, bo7d, mv7f, mv7o, mv7d, nm8f, nm8o, nm8d, bo8f, bo8o, bo8d, mv8f, mv8o, mv8d, nm9f, nm9o, nm9d, bo9f, bo9o, bo9d, mv9f, mv9o, mv9d, nm10f, nm10o, nm10d, bo10f, bo10o, bo10d, mv10f, mv10o, mv10d, nm11f, nm11o, nm11d, bo11f, bo11o, bo11d, mv11f, mv11o, mv11d, nm12f, nm12o, nm12d, bo12f, bo12o, bo12d, mv12f, mv12o, mv12d, nm13f, nm13o, nm13d, bo13f, bo13o, bo13d, mv13f, mv13o, mv13d, nm14f, nm14o, nm14d, bo14f, bo14o, bo14d, mv14f, mv14o, mv14d, nm15f, nm15o, nm15d, bo15f, bo15o, bo15d, mv15f, mv15o, mv15d, nm16f, bo16f, mv16f, nm16o, bo16o, mv16o, nm16d, bo16d, mv16d, nm17f, bo17f, mv17f, nm17o, bo17o, mv17o, nm17d, bo17d, mv17d, nm18f, bo18f, mv18f, nm18o, bo18o, mv18o, nm18d, bo18d, mv18d, nm19f, bo19f, mv19f, nm19o, bo19o, mv19o, nm19d, bo19d, mv19d, nm20f, bo20f, mv20f, nm20o, bo20o, mv20o, nm20d, bo20d, mv20d, nm21f, bo21f, mv21f, nm21o, bo21o, mv21o, nm21d, bo21d, mv21d, nm22f, bo22f, mv22f, nm22o, bo22o, mv22o, nm22d, bo22d, mv22d, nm23f, bo23f, mv23f, nm23o, bo23o, mv23o, nm23d, bo23d, mv23d, d_fr, fz_fr, isFr_fr, free_fr, d_ow, fz_ow, isFr_ow, free_ow, d_od, fz_od, isFr_od, free_od, d_bo, fz_bo, isFr_bo, free_bo, d_bd, fz_bd, isFr_bd, free_bd, w_add_i, w_add_s, w_add_l, w_add_t, w_sub, w_mul_i, w_mul_s, w_mul_l, w_mul_t, w_mod, w_fdv, w_pow, w_le_i, w_gt_i, w_ge_i, w_le_s, w_gt_s, w_ge_s, w_lt_i, w_lt_s, w_eq, w_ne, w_is_b, w_isN_b, w_in_l, w_nin_l, w_ix_l, w_ix_t, w_ix_s, w_sl_l, w_sl_t, w_sl_s, w_len_l, w_len_t, w_len_s, w_list_l, w_list_t, w_tuple_l, w_tuple_t, w_str, w_int_i, w_int_b, w_int_s, w_max2, w_max_l, w_min2, w_min_l, w_all, w_any, w_sorted_l, w_sorted_t, w_split, w_join, w_in_t, w_nin_t, w_in_ts, w_nin_ts, e_draw, e_cok_int, e_cok_bl, e_cok_str, List.map_cons, List.map_nil, List.all_cons, List.all_nil, List.length_cons, List.length_nil, List.getElem?_cons_zero, List.getElem?_cons_succ, List.set_cons_zero, List.set_cons_succ, retD, Tg.put, puts, wipeE, true_and, and_true, and_self, Bool.and_true, Bool.true_and, exists_eq_left', exists_eq_left, R.fr.injEq, R.ow.injEq, Option.some.injEq, D.bl.injEq, D.int.injEq, D.str.injEq, D.lst.injEq, D.tup.injEq, decide_eq_true_eq, if_true, exists_eq', Bool.not_true, Bool.not_false, ite_true, ite_false, if_false, Bool.false_eq_true]
        have key : ∃ c' : Int → Bool, (∀ (j : Nat) x y, j < i + 1 → xs[j]? = some x → ys[j]? = some y → (c' j = true ↔ x = y)) ∧ ((((rngI 0 xs.length).take (i + 1)).filter fun i => !c' i).map D.int) = ((((rngI 0 xs.length).take i).filter fun i => !c i).map D.int) ++ (if b = true then [] else [.int (i : Int)]) := by
          refine ⟨fun z => if z = (i : Int) then b else c z, fun j x y hj h1 h2 => ?_, ?_⟩
          · by_cases e : j = i
            · subst e
              rw [gx] at h1; rw [gy] at h2
              cases h1; cases h2
              simpa using hb
            · show (if (j : Int) = (i : Int) then b else c j) = true ↔ x = y
              rw [if_neg (by omega)]
              exact hc j x y (by omega) h1 h2
          · rw [take_get hiv, List.filter_append, List.map_append]
            congr 1
            · congr 1
              refine List.filter_congr fun z hz => ?_
              obtain ⟨j, hj⟩ := List.mem_iff_getElem?.mp hz
              rw [List.getElem?_take] at hj
              split at hj
              · rename_i hji
                have : z = (j : Int) := by
                  unfold rngI at hj
                  rw [List.getElem?_map, Option.map_eq_some_iff] at hj
                  obtain ⟨j', h1, h2⟩ := hj
                  rw [List.getElem?_range (by omega)] at h1
                  cases h1
                  omega
                show (!(if z = (i : Int) then b else c z)) = !c z
                rw [if_neg (by omega)]
              · cases hj
            · cases b <;> simp
        obtain ⟨c', hc', e'⟩ := key
        cases b
        · simp only [Bool.not_false, if_true]
          refine ⟨c', hc', ?_⟩
          rw [e']; rfl
        · simp only [Bool.not_true, Bool.false_eq_true, if_false]
          refine ⟨c', hc', ?_⟩
          rw [e']; simp
      · rintro acc - ⟨c, hc, rfl⟩
        try simp only [e_dSeq, e_dNext, e_dSet, e_dRet, e_dDrop, e_dIfS, e_dTgS, e_dC, e_dBin, e_dTst, e_dChn, e_dAnd, e_dOr, e_dNot, e_dAndV, e_dOrV, e_dNotV, e_dIf, e_dNil, e_dCons, e_dLst, e_dTup, e_dCB, e_dCall, e_dYes, e_dApp, e_dAug, e_dAugM, e_dIsi, e_dIsi2, e_dSl, e_dNoP, e_dPart, e_dM1, e_dFor, e_dLC, e_dIt, e_dRng1, e_dZipM, e_dRngN, e_dRev, e_dPar0, w_maxT, e_dSrtSet, e_dItS, e_dPar2, e_dPar3, e_par2, e_par3, e_dCallD, e_dCallK, e_dRng2, e_dEnum, e_dZip, nm0f, nm0o, nm0d, bo0f, bo0o, bo0d, mv0f, mv0o, mv0d, nm1f, nm1o, nm1d, bo1f, bo1o, bo1d, mv1f, mv1o, mv1d, nm2f, nm2o, nm2d, bo2f, bo2o, bo2d, mv2f, mv2o, mv2d, nm3f, nm3o, nm3d, bo3f, bo3o, bo3d, mv3f, mv3o, mv3d, nm4f, nm4o, nm4d, bo4f, bo4o, bo4d, mv4f, mv4o, mv4d, nm5f, nm5o, nm5d, bo5f, bo5o, bo5d, mv5f, mv5o, mv5d, nm6f, nm6o, nm6d, bo6f, bo6o, bo6d, mv6f, mv6o, mv6d, nm7f, nm7o, nm7d, bo7f, bo7o, bo7d, mv7f, mv7o, mv7d, nm8f, nm8o, nm8d, bo8f, bo8o, bo8d, mv8f, mv8o, mv8d, nm9f, nm9o, nm9d, bo9f, bo9o, bo9d, mv9f, mv9o, mv9d, nm10f, nm10o, nm10d, bo10f, bo10o, bo10d, mv10f, mv10o, mv10d, nm11f, nm11o, nm11d, bo11f, bo11o, bo11d, mv11f, mv11o, mv11d, nm12f, nm12o, nm12d, bo12f, bo12o, bo12d, mv12f, mv12o, mv12d, nm13f, nm13o, nm13d, bo13f, bo13o, bo13d, mv13f, mv13o, mv13d, nm14f, nm14o, nm14d, bo14f, bo14o, bo14d, mv14f, mv14o, mv14d, nm15f, nm15o, nm15d, bo15f, bo15o, bo15d, mv15f, mv15o, mv15d, nm16f, bo16f, mv16f, nm16o, bo16o, mv16o, nm16d, bo16d, mv16d, nm17f, bo17f, mv17f, nm17o, bo17o, mv17o, nm17d, bo17d, mv17d, nm18f, bo18f, mv18f, nm18o, bo18o, mv18o, nm18d, bo18d, mv18d, nm19f, bo19f, mv19f, nm19o, bo19o, mv19o, nm19d, bo19d, mv19d, nm20f, bo20f, mv20f, nm20o, bo20o, mv20o, nm20d, bo20d, mv20d, nm21f, bo21f, mv21f, nm21o, bo21o, mv21o, nm21d, bo21d, mv21d, nm22f, bo22f, mv22f, nm22o, bo22o, mv22o, nm22d, bo22d, mv22d, nm23f, bo23f, mv23f, nm23o, bo23o, mv23o, nm23d, bo23d, mv23d, d_fr, fz_fr, isFr_fr, free_fr, d_ow, fz_ow, isFr_ow, free_ow, d_od, fz_od, isFr_od, free_od, d_bo, fz_bo, isFr_bo, free_bo, d_bd, fz_bd, isFr_bd, free_bd, w_add_i, w_add_s, w_add_l, w_add_t, w_sub, w_mul_i, w_mul_s, w_mul_l, w_mul_t, w_mod, w_fdv, w_pow, w_le_i, w_gt_i, w_ge_i, w_le_s, w_gt_s, w_ge_s, w_lt_i, w_lt_s, w_eq, w_ne, w_is_b, w_isN_b, w_in_l, w_nin_l, w_ix_l, w_ix_t, w_ix_s, w_sl_l, w_sl_t, w_sl_s, w_len_l, w_len_t, w_len_s, w_list_l, w_list_t, w_tuple_l, w_tuple_t, w_str, w_int_i, w_int_b, w_int_s, w_max2, w_max_l, w_min2, w_min_l, w_all, w_any, w_sorted_l, w_sorted_t, w_split, w_join, w_in_t, w_nin_t, w_in_ts, w_nin_ts, e_draw, e_cok_int, e_cok_bl, e_cok_str, List.map_cons, List.map_nil, List.all_cons, List.all_nil, List.length_cons, List.length_nil, List.getElem?_cons_zero, List.getElem?_cons_succ, List.set_cons_zero, List.set_cons_succ, retD, Tg.put, puts, wipeE, true_and, and_true, and_self, Bool.and_true, Bool.true_and, exists_eq_left', exists_eq_left, R.fr.injEq, R.ow.injEq, Option.some.injEq, D.bl.injEq, D.int.injEq, D.str.injEq, D.lst.injEq, D.tup.injEq, decide_eq_true_eq, if_true, exists_eq', Bool.not_true, Bool.not_false, ite_true, ite_false, if_false, Bool.false_eq_true]
        have hlen : ((rngI 0 xs.length).map D.int).length = xs.length := by simp [rngI]
        rw [hlen] at hc ⊢
        rw [List.take_of_length_le (by simp [rngI])]
        refine ⟨Nat.zero_le _, shp_ints _, shp_ints [], ?_⟩
        rw [show D.lst [] = D.lst (([] : List Int).map D.int) from rfl, eqv_ints]
        refine q _ ⟨_, rfl, ?_⟩
        rw [decide_eq_true_eq, like_of (Nat.le_refl 0) hl fun j x y h1 h2 => hc j x y (List.getElem?_eq_some_iff.mp h1).1 h1 h2]
        simp
theorem cal__law_number {f : Addr} {fd : FuncData} {f__law_draw : Addr} {fd__law_draw : FuncData} {k : Nat} (F : Fun K "_law_number" "_law_number" s__law_number f fd) (b : Binds K fd ["tape"] []) (m : mg "_law_number" = some (.ref f)) (kp : PySem.W.keepIn K (.ref f) = true) (B : Bl mg) (C__law_draw : Cal P w K mg base k "_law_draw" ["tape", "many"] f__law_draw fd__law_draw spDraw) : Cal P w K mg base (k + 1) "_law_number" ["tape"] f fd sp__law_number := by
  refine ⟨fn_dl F sc__law_number (fun ds Q h => ?len) fun cdv A outer s H E hr => ?body, ?mono, m, kp, b⟩
  case len =>
    obtain ⟨x, rfl, -⟩ := h; rfl
  case mono =>
    exact SP_mono
  case body =>
    have hu64 := hr.units; have hu100 : (A.deeper (envOfC "_law_number" (defScope s__law_number) s.heap.objs.size f cdv)).units + 100 < cLine := by have := hr.un; omega
    have hu65 : (A.deeper (envOfC "_law_number" (defScope s__law_number) s.heap.objs.size f cdv)).units + 65 < cLine := by omega
    have hu1 : (A.deeper (envOfC "_law_number" (defScope s__law_number) s.heap.objs.size f cdv)).units + 1 < cLine := by omega
    refine ⟨_, (qss_cons (qs_set (i := 1) sc__law_number.nd (qe_lst (qa_cons (qe_bin opd_add qe_int (qe_callC C__law_draw hr (by rfl) (qa_cons (qe_nm (i := 0)) (qa_cons qe_int qa_nil)))) (qa_cons (qe_bin opd_add qe_int (qe_callC C__law_draw hr (by rfl) (qa_cons (qe_nm (i := 0)) (qa_cons qe_int qa_nil)))) (qa_cons (qe_bin opd_add qe_int (qe_callC C__law_draw hr (by rfl) (qa_cons (qe_nm (i := 0)) (qa_cons qe_int qa_nil)))) (qa_cons (qe_bin opd_add qe_int (qe_callC C__law_draw hr (by rfl) (qa_cons (qe_nm (i := 0)) (qa_cons qe_int qa_nil)))) qa_nil))))))
    (qss_one (qs_ret (qe_ix hu1 (qe_bin opd_add (qe_bo (i := 1)) (qe_lst (qa_cons qe_int (qa_cons qe_int (qa_cons qe_int (qa_cons qe_int (qa_cons qe_int (qa_cons qe_int (qa_cons qe_int (qa_cons qe_int qa_nil)))))))))) (qe_callC C__law_draw hr (by rfl) (qa_cons (qe_nm (i := 0)) (qa_cons qe_int qa_nil))))))), fun ds Q h => ?_⟩
    obtain ⟨⟨⟩, rfl, -, q⟩ := h
    show (_ : TSd) (retD Q) [some (.fr .tape), none]
    try simp only [e_dSeq, e_dNext, e_dSet, e_dRet, e_dDrop, e_dIfS, e_dTgS, e_dC, e_dBin, e_dTst, e_dChn, e_dAnd, e_dOr, e_dNot, e_dAndV, e_dOrV, e_dNotV, e_dIf, e_dNil, e_dCons, e_dLst, e_dTup, e_dCB, e_dCall, e_dYes, e_dApp, e_dAug, e_dAugM, e_dIsi, e_dIsi2, e_dSl, e_dNoP, e_dPart, e_dM1, e_dFor, e_dLC, e_dIt, e_dRng1, e_dZipM, e_dRngN, e_dRev, e_dPar0, w_maxT, e_dSrtSet, e_dItS, e_dPar2, e_dPar3, e_par2, e_par3, e_dCallD, e_dCallK, e_dRng2, e_dEnum, e_dZip, nm0f, nm0o, nm0d, bo0f, bo0o, bo0d, mv0f, mv0o, mv0d, nm1f, nm1o, nm1d, bo1f, bo1o, bo1d, mv1f, mv1o, mv1d, nm2f, nm2o, nm2d, bo2f, bo2o, bo2d, mv2f, mv2o, mv2d, nm3f, nm3o, nm3d, bo3f, bo3o, bo3d, mv3f, mv3o, mv3d, nm4f, nm4o, nm4d, bo4f, bo4o, bo4d, mv4f, mv4o, mv4d, nm5f, nm5o, nm5d, bo5f, bo5o, bo5d, mv5f, mv5o, mv5d, nm6f, nm6o, nm6d, bo6f, bo6o, bo6d, mv6f, mv6o, mv6d, nm7f, nm7o, nm7d, bo7f, bo7o, bo7d, mv7f, mv7o, mv7d, nm8f, nm8o, nm8d, bo8f, bo8o, bo8d, mv8f, mv8o, mv8d, nm9f, nm9o, nm9d, bo9f, bo9o, bo9d, mv9f, mv9o, mv9d, nm10f, nm10o, nm10d, bo10f, bo10o, bo10d, mv10f, mv10o, mv10d, nm11f, nm11o, nm11d, bo11f, bo11o, bo11d, mv11f, mv11o, mv11d, nm12f, nm12o, nm12d, bo12f, bo12o, bo12d, mv12f, mv12o, mv12d, nm13f, nm13o, nm13d, bo13f, bo13o, bo13d, mv13f, mv13o, mv13d, nm14f, nm14o, nm14d, bo14f, bo14o, bo14d, mv14f, mv14o, mv14d, nm15f, nm15o, nm15d, bo15f, bo15o, bo15d, mv15f, mv15o, mv15d, nm16f, bo16f, mv16f, nm16o, bo16o, mv16o, nm16d, bo16d, mv16d, nm17f, bo17f, mv17f, nm17o, bo17o, mv17o, nm17d, bo17d, mv17d, nm18f, bo18f, mv18f, nm18o, bo18o, mv18o, nm18d, bo18d, mv18d, nm19f, bo19f, mv19f, nm19o, bo19o, mv19o, nm19d, bo19d, mv19d, nm20f, bo20f, mv20f, nm20o, bo20o, mv20o, nm20d, bo20d, mv20d, nm21f, bo21f, mv21f, nm21o, bo21o, mv21o, nm21d, bo21d, mv21d, nm22f, bo22f, mv22f, nm22o, bo22o, mv22o, nm22d, bo22d, mv22d, nm23f, bo23f, mv23f, nm23o, bo23o, mv23o, nm23d, bo23d, mv23d, d_fr, fz_fr, isFr_fr, free_fr, d_ow, fz_ow, isFr_ow, free_ow, d_od, fz_od, isFr_od, free_od, d_bo, fz_bo, isFr_bo, free_bo, d_bd, fz_bd, isFr_bd, free_bd, w_add_i, w_add_s, w_add_l, w_add_t, w_sub, w_mul_i, w_mul_s, w_mul_l, w_mul_t, w_mod, w_fdv, w_pow, w_le_i, w_gt_i, w_ge_i, w_le_s, w_gt_s, w_ge_s, w_lt_i, w_lt_s, w_eq, w_ne, w_is_b, w_isN_b, w_in_l, w_nin_l, w_ix_l, w_ix_t, w_ix_s, w_sl_l, w_sl_t, w_sl_s, w_len_l, w_len_t, w_len_s, w_list_l, w_list_t, w_tuple_l, w_tuple_t, w_str, w_int_i, w_int_b, w_int_s, w_max2, w_max_l, w_min2, w_min_l, w_all, w_any, w_sorted_l, w_sorted_t, w_split, w_join, w_in_t, w_nin_t, w_in_ts, w_nin_ts, e_draw, e_cok_int, e_cok_bl, e_cok_str, List.map_cons, List.map_nil, List.all_cons, List.all_nil, List.length_cons, List.length_nil, List.getElem?_cons_zero, List.getElem?_cons_succ, List.set_cons_zero, List.set_cons_succ, retD, Tg.put, puts, wipeE, true_and, and_true, and_self, Bool.and_true, Bool.true_and, exists_eq_left', exists_eq_left, R.fr.injEq, R.ow.injEq, Option.some.injEq, D.bl.injEq, D.int.injEq, D.str.injEq, D.lst.injEq, D.tup.injEq, decide_eq_true_eq, if_true, exists_eq', Bool.not_true, Bool.not_false, ite_true, ite_false, if_false, Bool.false_eq_true]
    refine ⟨by decide, by decide, fun a a0 a1 => ⟨by decide, by decide, fun b b0 b1 => ⟨by decide, by decide, fun c c0 c1 => ⟨by decide, by decide, fun d d0 d1 => ?_⟩⟩⟩⟩
    rw [sizeLine_eq]
    refine ⟨by decide, by decide, by decide, by decide, by decide, fun e e0 e1 => ?_⟩
    obtain ⟨i, rfl⟩ : ∃ i : Nat, e = i := ⟨e.toNat, by omega⟩
    have hi : i < 12 := by omega
    have key : ∀ (i : Nat), i < 12 → ∃ n : Int, ([D.int (1 + a), D.int (1 + b), D.int (1 + c), D.int (1 + d)] ++ [D.int 10, D.int 1, D.int 100, D.int 11, D.int 9, D.int 99, D.int 2, D.int 20])[i]? = some (.int n) ∧ 0 < n ∧ n ≤ 99999999 := by
      intro i hi
      match i with
      | 0 => exact ⟨_, rfl, by omega, by omega⟩
      | 1 => exact ⟨_, rfl, by omega, by omega⟩
      | 2 => exact ⟨_, rfl, by omega, by omega⟩
      | 3 => exact ⟨_, rfl, by omega, by omega⟩
      | 4 => exact ⟨_, rfl, by omega, by omega⟩
      | 5 => exact ⟨_, rfl, by omega, by omega⟩
      | 6 => exact ⟨_, rfl, by omega, by omega⟩
      | 7 => exact ⟨_, rfl, by omega, by omega⟩
      | 8 => exact ⟨_, rfl, by omega, by omega⟩
      | 9 => exact ⟨_, rfl, by omega, by omega⟩
      | 10 => exact ⟨_, rfl, by omega, by omega⟩
      | 11 => exact ⟨_, rfl, by omega, by omega⟩
      | i + 12 => omega
    obtain ⟨n, h1, h2, h3⟩ := key i hi
    refine ⟨_, atI_nat h1, ?_⟩
    exact q _ ⟨n, rfl, h2, h3⟩
theorem cal__law_row {f : Addr} {fd : FuncData} {f__law_draw : Addr} {fd__law_draw : FuncData} {f__law_number : Addr} {fd__law_number : FuncData} {k : Nat} (F : Fun K "_law_row" "_law_row" s__law_row f fd) (b : Binds K fd ["tape", "wide"] []) (m : mg "_law_row" = some (.ref f)) (kp : PySem.W.keepIn K (.ref f) = true) (B : Bl mg) (C__law_draw : Cal P w K mg base k "_law_draw" ["tape", "many"] f__law_draw fd__law_draw spDraw) (C__law_number : Cal P w K mg base k "_law_number" ["tape"] f__law_number fd__law_number sp__law_number) : Cal P w K mg base (k + 1) "_law_row" ["tape", "wide"] f fd sp__law_row := by
  refine ⟨fn_dl F sc__law_row (fun ds Q h => ?len) fun cdv A outer s H E hr => ?body, ?mono, m, kp, b⟩
  case len =>
    obtain ⟨x, rfl, -⟩ := h; rfl
  case mono =>
    exact SP_mono
  case body =>
    have hu64 := hr.units; have hu100 : (A.deeper (envOfC "_law_row" (defScope s__law_row) s.heap.objs.size f cdv)).units + 100 < cLine := by have := hr.un; omega
    have hu65 : (A.deeper (envOfC "_law_row" (defScope s__law_row) s.heap.objs.size f cdv)).units + 65 < cLine := by omega
    have hu1 : (A.deeper (envOfC "_law_row" (defScope s__law_row) s.heap.objs.size f cdv)).units + 1 < cLine := by omega
    refine ⟨_, (qss_cons (qs_set (i := 2) sc__law_row.nd (qe_tup qa_nil))
    (qss_cons (qs_for PassesOwn.never rfl (qi_rng1 (by rfl) B.b_range (qa_cons (qe_bin opd_add qe_int (qe_callC C__law_draw hr (by rfl) (qa_cons (qe_nm (i := 0)) (qa_cons (qe_nm (i := 1)) qa_nil)))) qa_nil)) (qg_nm (i := 3) sc__law_row.nd)
    (qss_one (qs_set (i := 2) sc__law_row.nd (qe_bin opd_add (qe_bo (i := 2)) (qe_tup (qa_cons (qe_callC C__law_number hr (by rfl) (qa_cons (qe_nm (i := 0)) qa_nil)) qa_nil))))))
    (qss_one (qs_ret (qe_mv (i := 2)))))), fun ds Q h => ?_⟩
    obtain ⟨wd, rfl, ⟨h1, h2⟩, q⟩ := h
    show (_ : TSd) (retD Q) [some (.fr .tape), some (.fr (.int wd)), none, none]
    try simp only [e_dSeq, e_dNext, e_dSet, e_dRet, e_dDrop, e_dIfS, e_dTgS, e_dC, e_dBin, e_dTst, e_dChn, e_dAnd, e_dOr, e_dNot, e_dAndV, e_dOrV, e_dNotV, e_dIf, e_dNil, e_dCons, e_dLst, e_dTup, e_dCB, e_dCall, e_dYes, e_dApp, e_dAug, e_dAugM, e_dIsi, e_dIsi2, e_dSl, e_dNoP, e_dPart, e_dM1, e_dFor, e_dLC, e_dIt, e_dRng1, e_dZipM, e_dRngN, e_dRev, e_dPar0, w_maxT, e_dSrtSet, e_dItS, e_dPar2, e_dPar3, e_par2, e_par3, e_dCallD, e_dCallK, e_dRng2, e_dEnum, e_dZip, nm0f, nm0o, nm0d, bo0f, bo0o, bo0d, mv0f, mv0o, mv0d, nm1f, nm1o, nm1d, bo1f, bo1o, bo1d, mv1f, mv1o, mv1d, nm2f, nm2o, nm2d, bo2f, bo2o, bo2d, mv2f, mv2o, mv2d, nm3f, nm3o, nm3d, bo3f, bo3o, bo3d, mv3f, mv3o, mv3d, nm4f, nm4o, nm4d, bo4f, bo4o, bo4d, mv4f, mv4o, mv4d, nm5f, nm5o, nm5d, bo5f, bo5o, bo5d, mv5f, mv5o, mv5d, nm6f, nm6o, nm6d, bo6f, bo6o, bo6d, mv6f, mv6o, mv6d, nm7f, nm7o, nm7d, bo7f, bo7o, bo7d, mv7f, mv7o, mv7d, nm8f, nm8o, nm8d, bo8f, bo8o, bo8d, mv8f, mv8o, mv8d, nm9f, nm9o, nm9d, bo9f, bo9o, bo9d, mv9f, mv9o, mv9d, nm10f, nm10o, nm10d, bo10f, bo10o, bo10d, mv10f, mv10o, mv10d, nm11f, nm11o, nm11d, bo11f, bo11o, bo11d, mv11f, mv11o, mv11d, nm12f, nm12o, nm12d, bo12f, bo12o, bo12d, mv12f, mv12o, mv12d, nm13f, nm13o, nm13d, bo13f, bo13o, bo13d, mv13f, mv13o, mv13d, nm14f, nm14o, nm14d, bo14f, bo14o, bo14d, mv14f, mv14o, mv14d, nm15f, nm15o, nm15d, bo15f, bo15o, bo15d, mv15f, mv15o, mv15d, nm16f, bo16f, mv16f, nm16o, bo16o, mv16o, nm16d, bo16d, mv16d, nm17f, bo17f, mv17f, nm17o, bo17o, mv17o, nm17d, bo17d, mv17d, nm18f, bo18f, mv18f, nm18o, bo18o, mv18o, nm18d, bo18d, mv18d, nm19f, bo19f, mv19f, nm19o, bo19o, mv19o, nm19d, bo19d, mv19d, nm20f, bo20f, mv20f, nm20o, bo20o, mv20o, nm20d, bo20d, mv20d, nm21f, bo21f, mv21f, nm21o, bo21o, mv21o, nm21d, bo21d, mv21d, nm22f, bo22f, mv22f, nm22o, bo22o, mv22o, nm22d, bo22d, mv22d, nm23f, bo23f, mv23f, nm23o, bo23o, mv23o, nm23d, bo23d, mv23d, d_fr, fz_fr, isFr_fr, free_fr, d_ow, fz_ow, isFr_ow, free_ow, d_od, fz_od, isFr_od, free_od, d_bo, fz_bo, isFr_bo, free_bo, d_bd, fz_bd, isFr_bd, free_bd, w_add_i, w_add_s, w_add_l, w_add_t, w_sub, w_mul_i, w_mul_s, w_mul_l, w_mul_t, w_mod, w_fdv, w_pow, w_le_i, w_gt_i, w_ge_i, w_le_s, w_gt_s, w_ge_s, w_lt_i, w_lt_s, w_eq, w_ne, w_is_b, w_isN_b, w_in_l, w_nin_l, w_ix_l, w_ix_t, w_ix_s, w_sl_l, w_sl_t, w_sl_s, w_len_l, w_len_t, w_len_s, w_list_l, w_list_t, w_tuple_l, w_tuple_t, w_str, w_int_i, w_int_b, w_int_s, w_max2, w_max_l, w_min2, w_min_l, w_all, w_any, w_sorted_l, w_sorted_t, w_split, w_join, w_in_t, w_nin_t, w_in_ts, w_nin_ts, e_draw, e_cok_int, e_cok_bl, e_cok_str, List.map_cons, List.map_nil, List.all_cons, List.all_nil, List.length_cons, List.length_nil, List.getElem?_cons_zero, List.getElem?_cons_succ, List.set_cons_zero, List.set_cons_succ, retD, Tg.put, puts, wipeE, true_and, and_true, and_self, Bool.and_true, Bool.true_and, exists_eq_left', exists_eq_left, R.fr.injEq, R.ow.injEq, Option.some.injEq, D.bl.injEq, D.int.injEq, D.str.injEq, D.lst.injEq, D.tup.injEq, decide_eq_true_eq, if_true, exists_eq', Bool.not_true, Bool.not_false, ite_true, ite_false, if_false, Bool.false_eq_true]
    refine ⟨Nat.zero_le _, by omega, small_pow (by omega), fun r r0 r1 => ⟨by omega, ?_⟩⟩
    refine ⟨fun i ε => ∃ (row : List Int) (k : Option R), ε = [some (.fr .tape), some (.fr (.int wd)), some (.fr (.tup (row.map .int))), k] ∧ row.length = i ∧ ∀ n ∈ row, 0 < n ∧ n ≤ 99999999, ⟨[], none, rfl, rfl, by simp⟩, ?_, ?_⟩
    · rintro i d ε hd ⟨row, k, rfl, hl, hn⟩
      have hi := (List.getElem?_eq_some_iff.mp hd).1
      rw [rngD_len] at hi
      refine ⟨_, rfl, ?_⟩
      try simp only [e_dSeq, e_dNext, e_dSet, e_dRet, e_dDrop, e_dIfS, e_dTgS, e_dC, e_dBin, e_dTst, e_dChn, e_dAnd, e_dOr, e_dNot, e_dAndV, e_dOrV, e_dNotV, e_dIf, e_dNil, e_dCons, e_dLst, e_dTup, e_dCB, e_dCall, e_dYes, e_dApp, e_dAug, e_dAugM, e_dIsi, e_dIsi2, e_dSl, e_dNoP, e_dPart, e_dM1, e_dFor, e_dLC, e_dIt, e_dRng1, e_dZipM, e_dRngN, e_dRev, e_dPar0, w_maxT, e_dSrtSet, e_dItS, e_dPar2, e_dPar3, e_par2, e_par3, e_dCallD, e_dCallK, e_dRng2, e_dEnum, e_dZip, nm0f, nm0o, nm0d, bo0f, bo0o, bo0d, mv0f, mv0o, mv0d, nm1f, nm1o, nm1d, bo1f, bo1o, bo1d, mv1f, mv1o, mv1d, nm2f, nm2o, nm2d, bo2f, bo2o, bo2d, mv2f, mv2o, mv2d, nm3f, nm3o, nm3d, bo3f, bo3o, bo3d, mv3f, mv3o, mv3d, nm4f, nm4o, nm4d, bo4f, bo4o, bo4d, mv4f, mv4o, mv4d, nm5f, nm5o, nm5d, bo5f, bo5o, bo5d, mv5f, mv5o, mv5d, nm6f, nm6o, nm6d, bo6f, bo6o, bo6d, mv6f, mv6o, mv6d, nm7f, nm7o, nm7d, bo7f, bo7o, bo7d, mv7f, mv7o, mv7d, nm8f, nm8o, nm8d, bo8f, bo8o, bo8d, mv8f, mv8o, mv8d, nm9f, nm9o, nm9d, bo9f, bo9o, bo9d, mv9f, mv9o, mv9d, nm10f, nm10o, nm10d, bo10f, bo10o, bo10d, mv10f, mv10o, mv10d, nm11f, nm11o, nm11d, bo11f, bo11o, bo11d, mv11f, mv11o, mv11d, nm12f, nm12o, nm12d, bo12f, bo12o, bo12d, mv12f, mv12o, mv12d, nm13f, nm13o, nm13d, bo13f, bo13o, bo13d, mv13f, mv13o, mv13d, nm14f, nm14o, nm14d, bo14f, bo14o, bo14d, mv14f, mv14o, mv14d, nm15f, nm15o, nm15d, bo15f, bo15o, bo15d, mv15f, mv15o, mv15d, nm16f, bo16f, mv16f, nm16o, bo16o, mv16o, nm16d, bo16d, mv16d, nm17f, bo17f, mv17f, nm17o, bo17o, mv17o, nm17d, bo17d, mv17d, nm18f, bo18f, mv18f, nm18o, bo18o, mv18o, nm18d, bo18d, mv18d, nm19f, bo19f, mv19f, nm19o, bo19o, mv19o, nm19d, bo19d, mv19d, nm20f, bo20f, mv20f, nm20o, bo20o, mv20o, nm20d, bo20d, mv20d, nm21f, bo21f, mv21f, nm21o, bo21o, mv21o, nm21d, bo21d, mv21d, nm22f, bo22f, mv22f, nm22o, bo22o, mv22o, nm22d, bo22d, mv22d, nm23f, bo23f, mv23f, nm23o, bo23o, mv23o, nm23d, bo23d, mv23d, d_fr, fz_fr, isFr_fr, free_fr, d_ow, fz_ow, isFr_ow, free_ow, d_od, fz_od, isFr_od, free_od, d_bo, fz_bo, isFr_bo, free_bo, d_bd, fz_bd, isFr_bd, free_bd, w_add_i, w_add_s, w_add_l, w_add_t, w_sub, w_mul_i, w_mul_s, w_mul_l, w_mul_t, w_mod, w_fdv, w_pow, w_le_i, w_gt_i, w_ge_i, w_le_s, w_gt_s, w_ge_s, w_lt_i, w_lt_s, w_eq, w_ne, w_is_b, w_isN_b, w_in_l, w_nin_l, w_ix_l, w_ix_t, w_ix_s, w_sl_l, w_sl_t, w_sl_s, w_len_l, w_len_t, w_len_s, w_list_l, w_list_t, w_tuple_l, w_tuple_t, w_str, w_int_i, w_int_b, w_int_s, w_max2, w_max_l, w_min2, w_min_l, w_all, w_any, w_sorted_l, w_sorted_t, w_split, w_join, w_in_t, w_nin_t, w_in_ts, w_nin_ts, e_draw, e_cok_int, e_cok_bl, e_cok_str, List.map_cons, List.map_nil, List.all_cons, List.all_nil, List.length_cons, List.length_nil, List.getElem?_cons_zero, List.getElem?_cons_succ, List.set_cons_zero, List.set_cons_succ, retD, Tg.put, puts, wipeE, true_and, and_true, and_self, Bool.and_true, Bool.true_and, exists_eq_left', exists_eq_left, R.fr.injEq, R.ow.injEq, Option.some.injEq, D.bl.injEq, D.int.injEq, D.str.injEq, D.lst.injEq, D.tup.injEq, decide_eq_true_eq, if_true, exists_eq', Bool.not_true, Bool.not_false, ite_true, ite_false, if_false, Bool.false_eq_true]
      refine ⟨(), rfl, trivial, ?_⟩
      rintro r ⟨x, rfl, x0, x1⟩
      try simp only [e_dSeq, e_dNext, e_dSet, e_dRet, e_dDrop, e_dIfS, e_dTgS, e_dC, e_dBin, e_dTst, e_dChn, e_dAnd, e_dOr, e_dNot, e_dAndV, e_dOrV, e_dNotV, e_dIf, e_dNil, e_dCons, e_dLst, e_dTup, e_dCB, e_dCall, e_dYes, e_dApp, e_dAug, e_dAugM, e_dIsi, e_dIsi2, e_dSl, e_dNoP, e_dPart, e_dM1, e_dFor, e_dLC, e_dIt, e_dRng1, e_dZipM, e_dRngN, e_dRev, e_dPar0, w_maxT, e_dSrtSet, e_dItS, e_dPar2, e_dPar3, e_par2, e_par3, e_dCallD, e_dCallK, e_dRng2, e_dEnum, e_dZip, nm0f, nm0o, nm0d, bo0f, bo0o, bo0d, mv0f, mv0o, mv0d, nm1f, nm1o, nm1d, bo1f, bo1o, bo1d, mv1f, mv1o, mv1d, nm2f, nm2o, nm2d, bo2f, bo2o, bo2d, mv2f, mv2o, mv2d, nm3f, nm3o, nm3d, bo3f, bo3o, bo3d, mv3f, mv3o, mv3d, nm4f, nm4o, nm4d, bo4f, bo4o, bo4d, mv4f, mv4o, mv4d, nm5f, nm5o, nm5d, bo5f, bo5o, bo5d, mv5f, mv5o, mv5d, nm6f, nm6o, nm6d, bo6f, bo6o, bo6d, mv6f, mv6o, mv6d, nm7f, nm7o, nm7d, bo7f, bo7o, bo7d, mv7f, mv7o, mv7d, nm8f, nm8o, nm8d, bo8f, bo8o, bo8d, mv8f, mv8o, mv8d, nm9f, nm9o, nm9d, bo9f, bo9o, bo9d, mv9f, mv9o, mv9d, nm10f, nm10o, nm10d, bo10f, bo10o, bo10d, mv10f, mv10o, mv10d, nm11f, nm11o, nm11d, bo11f, bo11o, bo11d, mv11f, mv11o, mv11d, nm12f, nm12o, nm12d, bo12f, bo12o, bo12d, mv12f, mv12o, mv12d, nm13f, nm13o, nm13d, bo13f, bo13o, bo13d, mv13f, mv13o, mv13d, nm14f, nm14o, nm14d, bo14f, bo14o, bo14d, mv14f, mv14o, mv14d, nm15f, nm15o, nm15d, bo15f, bo15o, bo15d, mv15f, mv15o, mv15d, nm16f, bo16f, mv16f, nm16o, bo16o, mv16o, nm16d, bo16d, mv16d, nm17f, bo17f, mv17f, nm17o, bo17o, mv17o, nm17d, bo17d, mv17d, nm18f, bo18f, mv18f, nm18o, bo18o, mv18o, nm18d, bo18d, mv18d, nm19f, bo19f, mv19f, nm19o, bo19o, mv19o, nm19d, bo19d, mv19d, nm20f, bo20f, mv20f, nm20o, bo20o, mv20o, nm20d, bo20d, mv20d, nm21f, bo21f, mv21f, nm21o, bo21o, mv21o, nm21d, bo21d, mv21d, nm22f, bo22f, mv22f, nm22o, bo22o, mv22o, nm22d, bo22d, mv22d, nm23f, bo23f, mv23f, nm23o, bo23o, mv23o, nm23d, bo23d, mv23d, d_fr, fz_fr, isFr_fr, free_fr, d_ow, fz_ow, isFr_ow, free_ow, d_od, fz_od, isFr_od, free_od, d_bo, fz_bo, isFr_bo, free_bo, d_bd, fz_bd, isFr_bd, free_bd, w_add_i, w_add_s, w_add_l, w_add_t, w_sub, w_mul_i, w_mul_s, w_mul_l, w_mul_t, w_mod, w_fdv, w_pow, w_le_i, w_gt_i, w_ge_i, w_le_s, w_gt_s, w_ge_s, w_lt_i, w_lt_s, w_eq, w_ne, w_is_b, w_isN_b, w_in_l, w_nin_l, w_ix_l, w_ix_t, w_ix_s, w_sl_l, w_sl_t, w_sl_s, w_len_l, w_len_t, w_len_s, w_list_l, w_list_t, w_tuple_l, w_tuple_t, w_str, w_int_i, w_int_b, w_int_s, w_max2, w_max_l, w_min2, w_min_l, w_all, w_any, w_sorted_l, w_sorted_t, w_split, w_join, w_in_t, w_nin_t, w_in_ts, w_nin_ts, e_draw, e_cok_int, e_cok_bl, e_cok_str, List.map_cons, List.map_nil, List.all_cons, List.all_nil, List.length_cons, List.length_nil, List.getElem?_cons_zero, List.getElem?_cons_succ, List.set_cons_zero, List.set_cons_succ, retD, Tg.put, puts, wipeE, true_and, and_true, and_self, Bool.and_true, Bool.true_and, exists_eq_left', exists_eq_left, R.fr.injEq, R.ow.injEq, Option.some.injEq, D.bl.injEq, D.int.injEq, D.str.injEq, D.lst.injEq, D.tup.injEq, decide_eq_true_eq, if_true, exists_eq', Bool.not_true, Bool.not_false, ite_true, ite_false, if_false, Bool.false_eq_true]
      refine ⟨by decide, by rw [sizeLine_eq, List.length_map]; omega, row ++ [x], some (.fr d), by simp, by simp; omega, fun y hy => ?_⟩
      rcases List.mem_append.mp hy with h | h
      · exact hn y h
      · rw [List.mem_singleton.mp h]; exact ⟨x0, x1⟩
    · rintro ε ⟨row, k, rfl, hl, hn⟩
      rw [rngD_len] at hl
      try simp only [e_dSeq, e_dNext, e_dSet, e_dRet, e_dDrop, e_dIfS, e_dTgS, e_dC, e_dBin, e_dTst, e_dChn, e_dAnd, e_dOr, e_dNot, e_dAndV, e_dOrV, e_dNotV, e_dIf, e_dNil, e_dCons, e_dLst, e_dTup, e_dCB, e_dCall, e_dYes, e_dApp, e_dAug, e_dAugM, e_dIsi, e_dIsi2, e_dSl, e_dNoP, e_dPart, e_dM1, e_dFor, e_dLC, e_dIt, e_dRng1, e_dZipM, e_dRngN, e_dRev, e_dPar0, w_maxT, e_dSrtSet, e_dItS, e_dPar2, e_dPar3, e_par2, e_par3, e_dCallD, e_dCallK, e_dRng2, e_dEnum, e_dZip, nm0f, nm0o, nm0d, bo0f, bo0o, bo0d, mv0f, mv0o, mv0d, nm1f, nm1o, nm1d, bo1f, bo1o, bo1d, mv1f, mv1o, mv1d, nm2f, nm2o, nm2d, bo2f, bo2o, bo2d, mv2f, mv2o, mv2d, nm3f, nm3o, nm3d, bo3f, bo3o, bo3d, mv3f, mv3o, mv3d, nm4f, nm4o, nm4d, bo4f, bo4o, bo4d, mv4f, mv4o, mv4d, nm5f, nm5o, nm5d, bo5f, bo5o, bo5d, mv5f, mv5o, mv5d, nm6f, nm6o, nm6d, bo6f, bo6o, bo6d, mv6f, mv6o, mv6d, nm7f, nm7o, nm7d, bo7f, bo7o, bo7d, mv7f, mv7o, mv7d, nm8f, nm8o, nm8d, bo8f, bo8o, bo8d, mv8f, mv8o, mv8d, nm9f, nm9o, nm9d, bo9f, bo9o, bo9d, mv9f, mv9o, mv9d, nm10f, nm10o, nm10d, bo10f, bo10o, bo10d, mv10f, mv10o, mv10d, nm11f, nm11o, nm11d, bo11f, bo11o, bo11d, mv11f, mv11o, mv11d, nm12f, nm12o, nm12d, bo12f, bo12o, bo12d, mv12f, mv12o, mv12d, nm13f, nm13o, nm13d, bo13f, bo13o, bo13d, mv13f, mv13o, mv13d, nm14f, nm14o, nm14d, bo14f, bo14o, bo14d, mv14f, mv14o, mv14d, nm15f, nm15o, nm15d, bo15f, bo15o, bo15d, mv15f, mv15o, mv15d, nm16f, bo16f, mv16f, nm16o, bo16o, mv16o, nm16d, bo16d, mv16d, nm17f, bo17f, mv17f, nm17o, bo17o, mv17o, nm17d, bo17d, mv17d, nm18f, bo18f, mv18f, nm18o, bo18o, mv18o, nm18d, bo18d, mv18d, nm19f, bo19f, mv19f, nm19o, bo19o, mv19o, nm19d, bo19d, mv19d, nm20f, bo20f, mv20f, nm20o, bo20o, mv20o, nm20d, bo20d, mv20d, nm21f, bo21f, mv21f, nm21o, bo21o, mv21o, nm21d, bo21d, mv21d, nm22f, bo22f, mv22f, nm22o, bo22o, mv22o, nm22d, bo22d, mv22d, nm23f, bo23f, mv23f, nm23o, bo23o, mv23o, nm23d, bo23d, mv23d, d_fr, fz_fr, isFr_fr, free_fr, d_ow, fz_ow, isFr_ow, free_ow, d_od, fz_od, isFr_od, free_od, d_bo, fz_bo, isFr_bo, free_bo, d_bd, fz_bd, isFr_bd, free_bd, w_add_i, w_add_s, w_add_l, w_add_t, w_sub, w_mul_i, w_mul_s, w_mul_l, w_mul_t, w_mod, w_fdv, w_pow, w_le_i, w_gt_i, w_ge_i, w_le_s, w_gt_s, w_ge_s, w_lt_i, w_lt_s, w_eq, w_ne, w_is_b, w_isN_b, w_in_l, w_nin_l, w_ix_l, w_ix_t, w_ix_s, w_sl_l, w_sl_t, w_sl_s, w_len_l, w_len_t, w_len_s, w_list_l, w_list_t, w_tuple_l, w_tuple_t, w_str, w_int_i, w_int_b, w_int_s, w_max2, w_max_l, w_min2, w_min_l, w_all, w_any, w_sorted_l, w_sorted_t, w_split, w_join, w_in_t, w_nin_t, w_in_ts, w_nin_ts, e_draw, e_cok_int, e_cok_bl, e_cok_str, List.map_cons, List.map_nil, List.all_cons, List.all_nil, List.length_cons, List.length_nil, List.getElem?_cons_zero, List.getElem?_cons_succ, List.set_cons_zero, List.set_cons_succ, retD, Tg.put, puts, wipeE, true_and, and_true, and_self, Bool.and_true, Bool.true_and, exists_eq_left', exists_eq_left, R.fr.injEq, R.ow.injEq, Option.some.injEq, D.bl.injEq, D.int.injEq, D.str.injEq, D.lst.injEq, D.tup.injEq, decide_eq_true_eq, if_true, exists_eq', Bool.not_true, Bool.not_false, ite_true, ite_false, if_false, Bool.false_eq_true]
      exact q _ ⟨row, rfl, ⟨fun e => by subst e; simp at hl; omega, by omega, hn⟩, by omega⟩
theorem cal__law_rows {f : Addr} {fd : FuncData} {f__law_draw : Addr} {fd__law_draw : FuncData} {f__law_row : Addr} {fd__law_row : FuncData} {k : Nat} (F : Fun K "_law_rows" "_law_rows" s__law_rows f fd) (b : Binds K fd ["tape", "most", "wide"] []) (m : mg "_law_rows" = some (.ref f)) (kp : PySem.W.keepIn K (.ref f) = true) (B : Bl mg) (C__law_draw : Cal P w K mg base k "_law_draw" ["tape", "many"] f__law_draw fd__law_draw spDraw) (C__law_row : Cal P w K mg base k "_law_row" ["tape", "wide"] f__law_row fd__law_row sp__law_row) : Cal P w K mg base (k + 1) "_law_rows" ["tape", "most", "wide"] f fd sp__law_rows := by
  refine ⟨fn_dl F sc__law_rows (fun ds Q h => ?len) fun cdv A outer s H E hr => ?body, ?mono, m, kp, b⟩
  case len =>
    obtain ⟨x, rfl, -⟩ := h; rfl
  case mono =>
    exact SP_mono
  case body =>
    have hu64 := hr.units; have hu100 : (A.deeper (envOfC "_law_rows" (defScope s__law_rows) s.heap.objs.size f cdv)).units + 100 < cLine := by have := hr.un; omega
    have hu65 : (A.deeper (envOfC "_law_rows" (defScope s__law_rows) s.heap.objs.size f cdv)).units + 65 < cLine := by omega
    have hu1 : (A.deeper (envOfC "_law_rows" (defScope s__law_rows) s.heap.objs.size f cdv)).units + 1 < cLine := by omega
    refine ⟨_, (qss_cons (qs_set (i := 3) sc__law_rows.nd (qe_lst qa_nil))
    (qss_cons (qs_for PassesOwn.never rfl (qi_rng1 (by rfl) B.b_range (qa_cons (qe_callC C__law_draw hr (by rfl) (qa_cons (qe_nm (i := 0)) (qa_cons (qe_bin opd_add (qe_bo (i := 1)) qe_int) qa_nil))) qa_nil)) (qg_nm (i := 4) sc__law_rows.nd)
    (qss_cons (qs_set (i := 5) sc__law_rows.nd (qe_callC C__law_row hr (by rfl) (qa_cons (qe_nm (i := 0)) (qa_cons (qe_nm (i := 2)) qa_nil))))
    (qss_cons (qs_if (qw_and (qt_cmp (opd_ne hu64) (qe_bo (i := 3)) (qe_lst qa_nil) (by rfl)) (qw_and1 (qt_cmp (opd_eq hu64) (qe_callC C__law_draw hr (by rfl) (qa_cons (qe_nm (i := 0)) (qa_cons qe_int qa_nil))) qe_int (by rfl)))).qt
    (qss_one (qs_set (i := 5) sc__law_rows.nd (qe_sl (qe_bin opd_add (qe_sl (qe_ix hu1 (qe_bo (i := 3)) (qe_callC C__law_draw hr (by rfl) (qa_cons (qe_nm (i := 0)) (qa_cons (qe_callB cd_len (by rfl) B.b_len bt_len (qa_cons (qe_bo (i := 3)) qa_nil)) qa_nil)))) qo_none (qo_some qe_int)) (qe_bo (i := 5))) qo_none (qo_some qe_int))))
    qss_nil)
    (qss_one (qs_if (qt_cmp (opd_ninB hu65) (qe_bo (i := 5)) (qe_bo (i := 3)) (by rfl))
    (qss_one (qs_app (i := 3) (qe_nm (i := 5))))
    qss_nil)))))
    (qss_one (qs_ret (qe_mv (i := 3)))))), fun ds Q h => ?_⟩
    obtain ⟨⟨m, wd⟩, rfl, ⟨m0, m1, w0, w1⟩, q⟩ := h
    dsimp only at m0 m1 w0 w1 q
    show (_ : TSd) (retD Q) [some (.fr .tape), some (.fr (.int m)), some (.fr (.int wd)), none, none, none]
    try simp only [e_dSeq, e_dNext, e_dSet, e_dRet, e_dDrop, e_dIfS, e_dTgS, e_dC, e_dBin, e_dTst, e_dChn, e_dAnd, e_dOr, e_dNot, e_dAndV, e_dOrV, e_dNotV, e_dIf, e_dNil, e_dCons, e_dLst, e_dTup, e_dCB, e_dCall, e_dYes, e_dApp, e_dAug, e_dAugM, e_dIsi, e_dIsi2, e_dSl, e_dNoP, e_dPart, e_dM1, e_dFor, e_dLC, e_dIt, e_dRng1, e_dZipM, e_dRngN, e_dRev, e_dPar0, w_maxT, e_dSrtSet, e_dItS, e_dPar2, e_dPar3, e_par2, e_par3, e_dCallD, e_dCallK, e_dRng2, e_dEnum, e_dZip, nm0f, nm0o, nm0d, bo0f, bo0o, bo0d, mv0f, mv0o, mv0d, nm1f, nm1o, nm1d, bo1f, bo1o, bo1d, mv1f, mv1o, mv1d, nm2f, nm2o, nm2d, bo2f, bo2o, bo2d, mv2f, mv2o, mv2d, nm3f, nm3o, nm3d, bo3f, bo3o, bo3d, mv3f, mv3o, mv3d, nm4f, nm4o, nm4d, bo4f, bo4o, bo4d, mv4f, mv4o, mv4d, nm5f, nm5o, nm5d, bo5f, bo5o, bo5d, mv5f, mv5o, mv5d, nm6f, nm6o, nm6d, bo6f, bo6o, bo6d, mv6f, mv6o, mv6d, nm7f, nm7o, nm7d, bo7f, bo7o, bo7d, mv7f, mv7o, mv7d, nm8f, nm8o, nm8d, bo8f, bo8o, bo8d, mv8f, mv8o, mv8d, nm9f, nm9o, nm9d, bo9f, bo9o, bo9d, mv9f, mv9o, mv9d, nm10f, nm10o, nm10d, bo10f, bo10o, bo10d, mv10f, mv10o, mv10d, nm11f, nm11o, nm11d, bo11f, bo11o, bo11d, mv11f, mv11o, mv11d, nm12f, nm12o, nm12d, bo12f, bo12o, bo12d, mv12f, mv12o, mv12d, nm13f, nm13o, nm13d, bo13f, bo13o, bo13d, mv13f, mv13o, mv13d, nm14f, nm14o, nm14d, bo14f, bo14o, bo14d, mv14f, mv14o, mv14d, nm15f, nm15o, nm15d, bo15f, bo15o, bo15d, mv15f, mv15o, mv15d, nm16f, bo16f, mv16f, nm16o, bo16o, mv16o, nm16d, bo16d, mv16d, nm17f, bo17f, mv17f, nm17o, bo17o, mv17o, nm17d, bo17d, mv17d, nm18f, bo18f, mv18f, nm18o, bo18o, mv18o, nm18d, bo18d, mv18d, nm19f, bo19f, mv19f, nm19o, bo19o, mv19o, nm19d, bo19d, mv19d, nm20f, bo20f, mv20f, nm20o, bo20o, mv20o, nm20d, bo20d, mv20d, nm21f, bo21f, mv21f, nm21o, bo21o, mv21o, nm21d, bo21d, mv21d, nm22f, bo22f, mv22f, nm22o, bo22o, mv22o, nm22d, bo22d, mv22d, nm23f, bo23f, mv23f, nm23o, bo23o, mv23o, nm23d, bo23d, mv23d, d_fr, fz_fr, isFr_fr, free_fr, d_ow, fz_ow, isFr_ow, free_ow, d_od, fz_od, isFr_od, free_od, d_bo, fz_bo, isFr_bo, free_bo, d_bd, fz_bd, isFr_bd, free_bd, w_add_i, w_add_s, w_add_l, w_add_t, w_sub, w_mul_i, w_mul_s, w_mul_l, w_mul_t, w_mod, w_fdv, w_pow, w_le_i, w_gt_i, w_ge_i, w_le_s, w_gt_s, w_ge_s, w_lt_i, w_lt_s, w_eq, w_ne, w_is_b, w_isN_b, w_in_l, w_nin_l, w_ix_l, w_ix_t, w_ix_s, w_sl_l, w_sl_t, w_sl_s, w_len_l, w_len_t, w_len_s, w_list_l, w_list_t, w_tuple_l, w_tuple_t, w_str, w_int_i, w_int_b, w_int_s, w_max2, w_max_l, w_min2, w_min_l, w_all, w_any, w_sorted_l, w_sorted_t, w_split, w_join, w_in_t, w_nin_t, w_in_ts, w_nin_ts, e_draw, e_cok_int, e_cok_bl, e_cok_str, List.map_cons, List.map_nil, List.all_cons, List.all_nil, List.length_cons, List.length_nil, List.getElem?_cons_zero, List.getElem?_cons_succ, List.set_cons_zero, List.set_cons_succ, retD, Tg.put, puts, wipeE, true_and, and_true, and_self, Bool.and_true, Bool.true_and, exists_eq_left', exists_eq_left, R.fr.injEq, R.ow.injEq, Option.some.injEq, D.bl.injEq, D.int.injEq, D.str.injEq, D.lst.injEq, D.tup.injEq, decide_eq_true_eq, if_true, exists_eq', Bool.not_true, Bool.not_false, ite_true, ite_false, if_false, Bool.false_eq_true]
    refine ⟨Nat.zero_le _, by omega, small_pow (by omega), fun r r0 r1 => ⟨by omega, ?_⟩⟩
    rw [rngD_eq]
    refine for_takeF (fun pre ε => ∃ (rows : List (List Int)) (x4 x5 : Option R), rows.Nodup ∧ rows.length ≤ pre.length ∧ (∀ row ∈ rows, RowOk row) ∧ ε = [some (.fr .tape), some (.fr (.int m)), some (.fr (.int wd)), some (.ow (rows.map rowD)), x4, x5]) ⟨[], none, none, List.nodup_nil, by simp, by simp, rfl⟩ (fun pre k hk ε hI => ?_) (fun ε hI => ?_)
    · obtain ⟨rows, x4, x5, nd, hl, ok, rfl⟩ := hI
      have hpl : pre.length ≤ 100 := by
        obtain ⟨post, hpost⟩ := hk
        have := congrArg List.length hpost
        simp [rngI] at this
        omega
      refine ⟨_, rfl, ?_⟩
      try simp only [e_dSeq, e_dNext, e_dSet, e_dRet, e_dDrop, e_dIfS, e_dTgS, e_dC, e_dBin, e_dTst, e_dChn, e_dAnd, e_dOr, e_dNot, e_dAndV, e_dOrV, e_dNotV, e_dIf, e_dNil, e_dCons, e_dLst, e_dTup, e_dCB, e_dCall, e_dYes, e_dApp, e_dAug, e_dAugM, e_dIsi, e_dIsi2, e_dSl, e_dNoP, e_dPart, e_dM1, e_dFor, e_dLC, e_dIt, e_dRng1, e_dZipM, e_dRngN, e_dRev, e_dPar0, w_maxT, e_dSrtSet, e_dItS, e_dPar2, e_dPar3, e_par2, e_par3, e_dCallD, e_dCallK, e_dRng2, e_dEnum, e_dZip, nm0f, nm0o, nm0d, bo0f, bo0o, bo0d, mv0f, mv0o, mv0d, nm1f, nm1o, nm1d, bo1f, bo1o, bo1d, mv1f, mv1o, mv1d, nm2f, nm2o, nm2d, bo2f, bo2o, bo2d, mv2f, mv2o, mv2d, nm3f, nm3o, nm3d, bo3f, bo3o, bo3d, mv3f, mv3o, mv3d, nm4f, nm4o, nm4d, bo4f, bo4o, bo4d, mv4f, mv4o, mv4d, nm5f, nm5o, nm5d, bo5f, bo5o, bo5d, mv5f, mv5o, mv5d, nm6f, nm6o, nm6d, bo6f, bo6o, bo6d, mv6f, mv6o, mv6d, nm7f, nm7o, nm7d, bo7f, bo7o, bo7d, mv7f, mv7o, mv7d, nm8f, nm8o, nm8d, bo8f, bo8o, bo8d, mv8f, mv8o, mv8d, nm9f, nm9o, nm9d, bo9f, bo9o, bo9d, mv9f, mv9o, mv9d, nm10f, nm10o, nm10d, bo10f, bo10o, bo10d, mv10f, mv10o, mv10d, nm11f, nm11o, nm11d, bo11f, bo11o, bo11d, mv11f, mv11o, mv11d, nm12f, nm12o, nm12d, bo12f, bo12o, bo12d, mv12f, mv12o, mv12d, nm13f, nm13o, nm13d, bo13f, bo13o, bo13d, mv13f, mv13o, mv13d, nm14f, nm14o, nm14d, bo14f, bo14o, bo14d, mv14f, mv14o, mv14d, nm15f, nm15o, nm15d, bo15f, bo15o, bo15d, mv15f, mv15o, mv15d, nm16f, bo16f, mv16f, nm16o, bo16o, mv16o, nm16d, bo16d, mv16d, nm17f, bo17f, mv17f, nm17o, bo17o, mv17o, nm17d, bo17d, mv17d, nm18f, bo18f, mv18f, nm18o, bo18o, mv18o, nm18d, bo18d, mv18d, nm19f, bo19f, mv19f, nm19o, bo19o, mv19o, nm19d, bo19d, mv19d, nm20f, bo20f, mv20f, nm20o, bo20o, mv20o, nm20d, bo20d, mv20d, nm21f, bo21f, mv21f, nm21o, bo21o, mv21o, nm21d, bo21d, mv21d, nm22f, bo22f, mv22f, nm22o, bo22o, mv22o, nm22d, bo22d, mv22d, nm23f, bo23f, mv23f, nm23o, bo23o, mv23o, nm23d, bo23d, mv23d, d_fr, fz_fr, isFr_fr, free_fr, d_ow, fz_ow, isFr_ow, free_ow, d_od, fz_od, isFr_od, free_od, d_bo, fz_bo, isFr_bo, free_bo, d_bd, fz_bd, isFr_bd, free_bd, w_add_i, w_add_s, w_add_l, w_add_t, w_sub, w_mul_i, w_mul_s, w_mul_l, w_mul_t, w_mod, w_fdv, w_pow, w_le_i, w_gt_i, w_ge_i, w_le_s, w_gt_s, w_ge_s, w_lt_i, w_lt_s, w_eq, w_ne, w_is_b, w_isN_b, w_in_l, w_nin_l, w_ix_l, w_ix_t, w_ix_s, w_sl_l, w_sl_t, w_sl_s, w_len_l, w_len_t, w_len_s, w_list_l, w_list_t, w_tuple_l, w_tuple_t, w_str, w_int_i, w_int_b, w_int_s, w_max2, w_max_l, w_min2, w_min_l, w_all, w_any, w_sorted_l, w_sorted_t, w_split, w_join, w_in_t, w_nin_t, w_in_ts, w_nin_ts, e_draw, e_cok_int, e_cok_bl, e_cok_str, List.map_cons, List.map_nil, List.all_cons, List.all_nil, List.length_cons, List.length_nil, List.getElem?_cons_zero, List.getElem?_cons_succ, List.set_cons_zero, List.set_cons_succ, retD, Tg.put, puts, wipeE, true_and, and_true, and_self, Bool.and_true, Bool.true_and, exists_eq_left', exists_eq_left, R.fr.injEq, R.ow.injEq, Option.some.injEq, D.bl.injEq, D.int.injEq, D.str.injEq, D.lst.injEq, D.tup.injEq, decide_eq_true_eq, if_true, exists_eq', Bool.not_true, Bool.not_false, ite_true, ite_false, if_false, Bool.false_eq_true]
      refine ⟨wd, rfl, ⟨w0, w1⟩, ?_⟩
      rintro r ⟨row, rfl, g, hrl⟩
      try simp only [e_dSeq, e_dNext, e_dSet, e_dRet, e_dDrop, e_dIfS, e_dTgS, e_dC, e_dBin, e_dTst, e_dChn, e_dAnd, e_dOr, e_dNot, e_dAndV, e_dOrV, e_dNotV, e_dIf, e_dNil, e_dCons, e_dLst, e_dTup, e_dCB, e_dCall, e_dYes, e_dApp, e_dAug, e_dAugM, e_dIsi, e_dIsi2, e_dSl, e_dNoP, e_dPart, e_dM1, e_dFor, e_dLC, e_dIt, e_dRng1, e_dZipM, e_dRngN, e_dRev, e_dPar0, w_maxT, e_dSrtSet, e_dItS, e_dPar2, e_dPar3, e_par2, e_par3, e_dCallD, e_dCallK, e_dRng2, e_dEnum, e_dZip, nm0f, nm0o, nm0d, bo0f, bo0o, bo0d, mv0f, mv0o, mv0d, nm1f, nm1o, nm1d, bo1f, bo1o, bo1d, mv1f, mv1o, mv1d, nm2f, nm2o, nm2d, bo2f, bo2o, bo2d, mv2f, mv2o, mv2d, nm3f, nm3o, nm3d, bo3f, bo3o, bo3d, mv3f, mv3o, mv3d, nm4f, nm4o, nm4d, bo4f, bo4o, bo4d, mv4f, mv4o, mv4d, nm5f, nm5o, nm5d, bo5f, bo5o, bo5d, mv5f, mv5o, mv5d, nm6f, nm6o, nm6d, bo6f, bo6o, bo6d, mv6f, mv6o, mv6d, nm7f, nm7o, nm7d, bo7f, bo7o, bo7d, mv7f, mv7o, mv7d, nm8f, nm8o, nm8d, bo8f, bo8o, bo8d, mv8f, mv8o, mv8d, nm9f, nm9o, nm9d, bo9f, bo9o, bo9d, mv9f, mv9o, mv9d, nm10f, nm10o, nm10d, bo10f, bo10o, bo10d, mv10f, mv10o, mv10d, nm11f, nm11o, nm11d, bo11f, bo11o, bo11d, mv11f, mv11o, mv11d, nm12f, nm12o, nm12d, bo12f, bo12o, bo12d, mv12f, mv12o, mv12d, nm13f, nm13o, nm13d, bo13f, bo13o, bo13d, mv13f, mv13o, mv13d, nm14f, nm14o, nm14d, bo14f, bo14o, bo14d, mv14f, mv14o, mv14d, nm15f, nm15o, nm15d, bo15f, bo15o, bo15d, mv15f, mv15o, mv15d, nm16f, bo16f, mv16f, nm16o, bo16o, mv16o, nm16d, bo16d, mv16d, nm17f, bo17f, mv17f, nm17o, bo17o, mv17o, nm17d, bo17d, mv17d, nm18f, bo18f, mv18f, nm18o, bo18o, mv18o, nm18d, bo18d, mv18d, nm19f, bo19f, mv19f, nm19o, bo19o, mv19o, nm19d, bo19d, mv19d, nm20f, bo20f, mv20f, nm20o, bo20o, mv20o, nm20d, bo20d, mv20d, nm21f, bo21f, mv21f, nm21o, bo21o, mv21o, nm21d, bo21d, mv21d, nm22f, bo22f, mv22f, nm22o, bo22o, mv22o, nm22d, bo22d, mv22d, nm23f, bo23f, mv23f, nm23o, bo23o, mv23o, nm23d, bo23d, mv23d, d_fr, fz_fr, isFr_fr, free_fr, d_ow, fz_ow, isFr_ow, free_ow, d_od, fz_od, isFr_od, free_od, d_bo, fz_bo, isFr_bo, free_bo, d_bd, fz_bd, isFr_bd, free_bd, w_add_i, w_add_s, w_add_l, w_add_t, w_sub, w_mul_i, w_mul_s, w_mul_l, w_mul_t, w_mod, w_fdv, w_pow, w_le_i, w_gt_i, w_ge_i, w_le_s, w_gt_s, w_ge_s, w_lt_i, w_lt_s, w_eq, w_ne, w_is_b, w_isN_b, w_in_l, w_nin_l, w_ix_l, w_ix_t, w_ix_s, w_sl_l, w_sl_t, w_sl_s, w_len_l, w_len_t, w_len_s, w_list_l, w_list_t, w_tuple_l, w_tuple_t, w_str, w_int_i, w_int_b, w_int_s, w_max2, w_max_l, w_min2, w_min_l, w_all, w_any, w_sorted_l, w_sorted_t, w_split, w_join, w_in_t, w_nin_t, w_in_ts, w_nin_ts, e_draw, e_cok_int, e_cok_bl, e_cok_str, List.map_cons, List.map_nil, List.all_cons, List.all_nil, List.length_cons, List.length_nil, List.getElem?_cons_zero, List.getElem?_cons_succ, List.set_cons_zero, List.set_cons_succ, retD, Tg.put, puts, wipeE, true_and, and_true, and_self, Bool.and_true, Bool.true_and, exists_eq_left', exists_eq_left, R.fr.injEq, R.ow.injEq, Option.some.injEq, D.bl.injEq, D.int.injEq, D.str.injEq, D.lst.injEq, D.tup.injEq, decide_eq_true_eq, if_true, exists_eq', Bool.not_true, Bool.not_false, ite_true, ite_false, if_false, Bool.false_eq_true]
      have gR := g
      refine ⟨.inl rfl, Nat.zero_le _, rows_shp _, nil_shp', ?_⟩
      rw [rows_nil]
      refine ite_k (fun hc => ?_) fun hc => ?_
      · have hc : rows ≠ [] := by simpa using hc
        have hpos : 0 < rows.length := List.length_pos_iff.mpr hc
        refine ⟨by decide, small_pow (by decide), fun r r0 r1 => ⟨shp_int _, shp_int _, ite_k (fun h2 => ?_) fun h2 => ?_⟩⟩
        · rw [List.length_map]
          refine ⟨by omega, small_pow (by omega), fun j j0 j1 => ?_⟩
          obtain ⟨j, rfl⟩ : ∃ z : Nat, j = z := ⟨j.toNat, by omega⟩
          have hj : j < rows.length := by omega
          refine ⟨rowD rows[j], atI_nat (by rw [List.getElem?_map, List.getElem?_eq_getElem hj]; rfl), ?_⟩
          show wSl (.tup ((rows[j]).map .int)) none (some 1) _
          try simp only [e_dSeq, e_dNext, e_dSet, e_dRet, e_dDrop, e_dIfS, e_dTgS, e_dC, e_dBin, e_dTst, e_dChn, e_dAnd, e_dOr, e_dNot, e_dAndV, e_dOrV, e_dNotV, e_dIf, e_dNil, e_dCons, e_dLst, e_dTup, e_dCB, e_dCall, e_dYes, e_dApp, e_dAug, e_dAugM, e_dIsi, e_dIsi2, e_dSl, e_dNoP, e_dPart, e_dM1, e_dFor, e_dLC, e_dIt, e_dRng1, e_dZipM, e_dRngN, e_dRev, e_dPar0, w_maxT, e_dSrtSet, e_dItS, e_dPar2, e_dPar3, e_par2, e_par3, e_dCallD, e_dCallK, e_dRng2, e_dEnum, e_dZip, nm0f, nm0o, nm0d, bo0f, bo0o, bo0d, mv0f, mv0o, mv0d, nm1f, nm1o, nm1d, bo1f, bo1o, bo1d, mv1f, mv1o, mv1d, nm2f, nm2o, nm2d, bo2f, bo2o, bo2d, mv2f, mv2o, mv2d, nm3f, nm3o, nm3d, bo3f, bo3o, bo3d, mv3f, mv3o, mv3d, nm4f, nm4o, nm4d, bo4f, bo4o, bo4d, mv4f, mv4o, mv4d, nm5f, nm5o, nm5d, bo5f, bo5o, bo5d, mv5f, mv5o, mv5d, nm6f, nm6o, nm6d, bo6f, bo6o, bo6d, mv6f, mv6o, mv6d, nm7f, nm7o, nm7d, bo7f, bo7o, bo7d, mv7f, mv7o, mv7d, nm8f, nm8o, nm8d, bo8f, bo8o, bo8d, mv8f, mv8o, mv8d, nm9f, nm9o, nm9d, bo9f, bo9o, bo9d, mv9f, mv9o, mv9d, nm10f, nm10o, nm10d, bo10f, bo10o, bo10d, mv10f, mv10o, mv10d, nm11f, nm11o, nm11d, bo11f, bo11o, bo11d, mv11f, mv11o, mv11d, nm12f, nm12o, nm12d, bo12f, bo12o, bo12d, mv12f, mv12o, mv12d, nm13f, nm13o, nm13d, bo13f, bo13o, bo13d, mv13f, mv13o, mv13d, nm14f, nm14o, nm14d, bo14f, bo14o, bo14d, mv14f, mv14o, mv14d, nm15f, nm15o, nm15d, bo15f, bo15o, bo15d, mv15f, mv15o, mv15d, nm16f, bo16f, mv16f, nm16o, bo16o, mv16o, nm16d, bo16d, mv16d, nm17f, bo17f, mv17f, nm17o, bo17o, mv17o, nm17d, bo17d, mv17d, nm18f, bo18f, mv18f, nm18o, bo18o, mv18o, nm18d, bo18d, mv18d, nm19f, bo19f, mv19f, nm19o, bo19o, mv19o, nm19d, bo19d, mv19d, nm20f, bo20f, mv20f, nm20o, bo20o, mv20o, nm20d, bo20d, mv20d, nm21f, bo21f, mv21f, nm21o, bo21o, mv21o, nm21d, bo21d, mv21d, nm22f, bo22f, mv22f, nm22o, bo22o, mv22o, nm22d, bo22d, mv22d, nm23f, bo23f, mv23f, nm23o, bo23o, mv23o, nm23d, bo23d, mv23d, d_fr, fz_fr, isFr_fr, free_fr, d_ow, fz_ow, isFr_ow, free_ow, d_od, fz_od, isFr_od, free_od, d_bo, fz_bo, isFr_bo, free_bo, d_bd, fz_bd, isFr_bd, free_bd, w_add_i, w_add_s, w_add_l, w_add_t, w_sub, w_mul_i, w_mul_s, w_mul_l, w_mul_t, w_mod, w_fdv, w_pow, w_le_i, w_gt_i, w_ge_i, w_le_s, w_gt_s, w_ge_s, w_lt_i, w_lt_s, w_eq, w_ne, w_is_b, w_isN_b, w_in_l, w_nin_l, w_ix_l, w_ix_t, w_ix_s, w_sl_l, w_sl_t, w_sl_s, w_len_l, w_len_t, w_len_s, w_list_l, w_list_t, w_tuple_l, w_tuple_t, w_str, w_int_i, w_int_b, w_int_s, w_max2, w_max_l, w_min2, w_min_l, w_all, w_any, w_sorted_l, w_sorted_t, w_split, w_join, w_in_t, w_nin_t, w_in_ts, w_nin_ts, e_draw, e_cok_int, e_cok_bl, e_cok_str, List.map_cons, List.map_nil, List.all_cons, List.all_nil, List.length_cons, List.length_nil, List.getElem?_cons_zero, List.getElem?_cons_succ, List.set_cons_zero, List.set_cons_succ, retD, Tg.put, puts, wipeE, true_and, and_true, and_self, Bool.and_true, Bool.true_and, exists_eq_left', exists_eq_left, R.fr.injEq, R.ow.injEq, Option.some.injEq, D.bl.injEq, D.int.injEq, D.str.injEq, D.lst.injEq, D.tup.injEq, decide_eq_true_eq, if_true, exists_eq', Bool.not_true, Bool.not_false, ite_true, ite_false, if_false, Bool.false_eq_true]
          have e1 : cut ((rows[j]).map D.int) none (some (1 : Int)) = ((rows[j]).take 1).map D.int := by rw [cut_map]; exact congrArg _ (cut_to _ 1)
          rw [e1]
          have o1 := ok _ (List.getElem_mem hj)
          have gl := g.le
          have e2 : ((rows[j]).take 1).map D.int ++ row.map D.int = ((rows[j]).take 1 ++ row).map D.int := by rw [List.map_append]
          rw [e2]
          have e3 : cut (((rows[j]).take 1 ++ row).map D.int) none (some (4 : Int)) = (((rows[j]).take 1 ++ row).take 4).map D.int := by rw [cut_map]; exact congrArg _ (cut_to _ 4)
          rw [e3]
          have gR : RowOk (((rows[j]).take 1 ++ row).take 4) := ⟨fun e => by
            have := congrArg List.length e
            simp only [List.length_take, List.length_append, List.length_nil] at this
            have := List.length_pos_iff.mpr g.ne
            omega, by rw [List.length_take]; omega, fun n hn => by
            rcases List.mem_append.mp (List.mem_of_mem_take hn) with h | h
            · exact o1.num n (List.mem_of_mem_take h)
            · exact g.num n h⟩
          generalize (((rows[j]).take 1 ++ row).take 4) = rw4 at gR
          refine ⟨?_, ?_⟩
          · simp only [List.length_map, List.length_take]
            rw [sizeLine_eq]; omega
          refine ⟨(lay_row rw4).shp, rows_shp _, ?_⟩
          have ea : ((rows.map rowD).any fun z => D.eqv z (.tup ((rw4 : List Int).map .int))) = decide (rw4 ∈ rows) := any_row rw4 rows
          rw [ea]
          refine ite_k (fun h => ?_) fun h => ?_
          · have h : rw4 ∉ rows := by simpa using h
            refine ⟨by rw [sizeLine_eq, List.length_map]; omega, rows ++ [rw4], some (.fr (.int k)), some (.fr (.tup ((rw4 : List Int).map .int))), ?_, by simp; omega, fun z hz => ?_, by rw [List.map_append]; rfl⟩
            · rw [List.nodup_append]
              refine ⟨nd, by simp, fun a ha b hb e => ?_⟩
              rw [List.mem_singleton.mp hb] at e
              subst e
              exact h ha
            · rcases List.mem_append.mp hz with hz | hz
              · exact ok z hz
              · rw [List.mem_singleton.mp hz]; exact gR
          · exact ⟨rows, some (.fr (.int k)), some (.fr (.tup ((rw4 : List Int).map .int))), nd, by simp; omega, ok, rfl⟩
        · try simp only [e_dSeq, e_dNext, e_dSet, e_dRet, e_dDrop, e_dIfS, e_dTgS, e_dC, e_dBin, e_dTst, e_dChn, e_dAnd, e_dOr, e_dNot, e_dAndV, e_dOrV, e_dNotV, e_dIf, e_dNil, e_dCons, e_dLst, e_dTup, e_dCB, e_dCall, e_dYes, e_dApp, e_dAug, e_dAugM, e_dIsi, e_dIsi2, e_dSl, e_dNoP, e_dPart, e_dM1, e_dFor, e_dLC, e_dIt, e_dRng1, e_dZipM, e_dRngN, e_dRev, e_dPar0, w_maxT, e_dSrtSet, e_dItS, e_dPar2, e_dPar3, e_par2, e_par3, e_dCallD, e_dCallK, e_dRng2, e_dEnum, e_dZip, nm0f, nm0o, nm0d, bo0f, bo0o, bo0d, mv0f, mv0o, mv0d, nm1f, nm1o, nm1d, bo1f, bo1o, bo1d, mv1f, mv1o, mv1d, nm2f, nm2o, nm2d, bo2f, bo2o, bo2d, mv2f, mv2o, mv2d, nm3f, nm3o, nm3d, bo3f, bo3o, bo3d, mv3f, mv3o, mv3d, nm4f, nm4o, nm4d, bo4f, bo4o, bo4d, mv4f, mv4o, mv4d, nm5f, nm5o, nm5d, bo5f, bo5o, bo5d, mv5f, mv5o, mv5d, nm6f, nm6o, nm6d, bo6f, bo6o, bo6d, mv6f, mv6o, mv6d, nm7f, nm7o, nm7d, bo7f, bo7o, bo7d, mv7f, mv7o, mv7d, nm8f, nm8o, nm8d, bo8f, bo8o, bo8d, mv8f, mv8o, mv8d, nm9f, nm9o, nm9d, bo9f, bo9o, bo9d, mv9f, mv9o, mv9d, nm10f, nm10o, nm10d, bo10f, bo10o, bo10d, mv10f, mv10o, mv10d, nm11f, nm11o, nm11d, bo11f, bo11o, bo11d, mv11f, mv11o, mv11d, nm12f, nm12o, nm12d, bo12f, bo12o, bo12d, mv12f, mv12o, mv12d, nm13f, nm13o, nm13d, bo13f, bo13o, bo13d, mv13f, mv13o, mv13d, nm14f, nm14o, nm14d, bo14f, bo14o, bo14d, mv14f, mv14o, mv14d, nm15f, nm15o, nm15d, bo15f, bo15o, bo15d, mv15f, mv15o, mv15d, nm16f, bo16f, mv16f, nm16o, bo16o, mv16o, nm16d, bo16d, mv16d, nm17f, bo17f, mv17f, nm17o, bo17o, mv17o, nm17d, bo17d, mv17d, nm18f, bo18f, mv18f, nm18o, bo18o, mv18o, nm18d, bo18d, mv18d, nm19f, bo19f, mv19f, nm19o, bo19o, mv19o, nm19d, bo19d, mv19d, nm20f, bo20f, mv20f, nm20o, bo20o, mv20o, nm20d, bo20d, mv20d, nm21f, bo21f, mv21f, nm21o, bo21o, mv21o, nm21d, bo21d, mv21d, nm22f, bo22f, mv22f, nm22o, bo22o, mv22o, nm22d, bo22d, mv22d, nm23f, bo23f, mv23f, nm23o, bo23o, mv23o, nm23d, bo23d, mv23d, d_fr, fz_fr, isFr_fr, free_fr, d_ow, fz_ow, isFr_ow, free_ow, d_od, fz_od, isFr_od, free_od, d_bo, fz_bo, isFr_bo, free_bo, d_bd, fz_bd, isFr_bd, free_bd, w_add_i, w_add_s, w_add_l, w_add_t, w_sub, w_mul_i, w_mul_s, w_mul_l, w_mul_t, w_mod, w_fdv, w_pow, w_le_i, w_gt_i, w_ge_i, w_le_s, w_gt_s, w_ge_s, w_lt_i, w_lt_s, w_eq, w_ne, w_is_b, w_isN_b, w_in_l, w_nin_l, w_ix_l, w_ix_t, w_ix_s, w_sl_l, w_sl_t, w_sl_s, w_len_l, w_len_t, w_len_s, w_list_l, w_list_t, w_tuple_l, w_tuple_t, w_str, w_int_i, w_int_b, w_int_s, w_max2, w_max_l, w_min2, w_min_l, w_all, w_any, w_sorted_l, w_sorted_t, w_split, w_join, w_in_t, w_nin_t, w_in_ts, w_nin_ts, e_draw, e_cok_int, e_cok_bl, e_cok_str, List.map_cons, List.map_nil, List.all_cons, List.all_nil, List.length_cons, List.length_nil, List.getElem?_cons_zero, List.getElem?_cons_succ, List.set_cons_zero, List.set_cons_succ, retD, Tg.put, puts, wipeE, true_and, and_true, and_self, Bool.and_true, Bool.true_and, exists_eq_left', exists_eq_left, R.fr.injEq, R.ow.injEq, Option.some.injEq, D.bl.injEq, D.int.injEq, D.str.injEq, D.lst.injEq, D.tup.injEq, decide_eq_true_eq, if_true, exists_eq', Bool.not_true, Bool.not_false, ite_true, ite_false, if_false, Bool.false_eq_true]
          refine ⟨(lay_row row).shp, rows_shp _, ?_⟩
          have ea : ((rows.map rowD).any fun z => D.eqv z (.tup ((row : List Int).map .int))) = decide (row ∈ rows) := any_row row rows
          rw [ea]
          refine ite_k (fun h => ?_) fun h => ?_
          · have h : row ∉ rows := by simpa using h
            refine ⟨by rw [sizeLine_eq, List.length_map]; omega, rows ++ [row], some (.fr (.int k)), some (.fr (.tup ((row : List Int).map .int))), ?_, by simp; omega, fun z hz => ?_, by rw [List.map_append]; rfl⟩
            · rw [List.nodup_append]
              refine ⟨nd, by simp, fun a ha b hb e => ?_⟩
              rw [List.mem_singleton.mp hb] at e
              subst e
              exact h ha
            · rcases List.mem_append.mp hz with hz | hz
              · exact ok z hz
              · rw [List.mem_singleton.mp hz]; exact gR
          · exact ⟨rows, some (.fr (.int k)), some (.fr (.tup ((row : List Int).map .int))), nd, by simp; omega, ok, rfl⟩
      · try simp only [e_dSeq, e_dNext, e_dSet, e_dRet, e_dDrop, e_dIfS, e_dTgS, e_dC, e_dBin, e_dTst, e_dChn, e_dAnd, e_dOr, e_dNot, e_dAndV, e_dOrV, e_dNotV, e_dIf, e_dNil, e_dCons, e_dLst, e_dTup, e_dCB, e_dCall, e_dYes, e_dApp, e_dAug, e_dAugM, e_dIsi, e_dIsi2, e_dSl, e_dNoP, e_dPart, e_dM1, e_dFor, e_dLC, e_dIt, e_dRng1, e_dZipM, e_dRngN, e_dRev, e_dPar0, w_maxT, e_dSrtSet, e_dItS, e_dPar2, e_dPar3, e_par2, e_par3, e_dCallD, e_dCallK, e_dRng2, e_dEnum, e_dZip, nm0f, nm0o, nm0d, bo0f, bo0o, bo0d, mv0f, mv0o, mv0d, nm1f, nm1o, nm1d, bo1f, bo1o, bo1d, mv1f, mv1o, mv1d, nm2f, nm2o, nm2d, bo2f, bo2o, bo2d, mv2f, mv2o, mv2d, nm3f, nm3o, nm3d, bo3f, bo3o, bo3d, mv3f, mv3o, mv3d, nm4f, nm4o, nm4d, bo4f, bo4o, bo4d, mv4f, mv4o, mv4d, nm5f, nm5o, nm5d, bo5f, bo5o, bo5d, mv5f, mv5o, mv5d, nm6f, nm6o, nm6d, bo6f, bo6o, bo6d, mv6f, mv6o, mv6d, nm7f, nm7o, nm7d, bo7f, bo7o, bo7d, mv7f, mv7o, mv7d, nm8f, nm8o, nm8d, bo8f, bo8o, bo8d, mv8f, mv8o, mv8d, nm9f, nm9o, nm9d, bo9f, bo9o, bo9d, mv9f, mv9o, mv9d, nm10f, nm10o, nm10d, bo10f, bo10o, bo10d, mv10f, mv10o, mv10d, nm11f, nm11o, nm11d, bo11f, bo11o, bo11d, mv11f, mv11o, mv11d, nm12f, nm12o, nm12d, bo12f, bo12o, bo12d, mv12f, mv12o, mv12d, nm13f, nm13o, nm13d, bo13f, bo13o, bo13d, mv13f, mv13o, mv13d, nm14f, nm14o, nm14d, bo14f, bo14o, bo14d, mv14f, mv14o, mv14d, nm15f, nm15o, nm15d, bo15f, bo15o, bo15d, mv15f, mv15o, mv15d, nm16f, bo16f, mv16f, nm16o, bo16o, mv16o, nm16d, bo16d, mv16d, nm17f, bo17f, mv17f, nm17o, bo17o, mv17o, nm17d, bo17d, mv17d, nm18f, bo18f, mv18f, nm18o, bo18o, mv18o, nm18d, bo18d, mv18d, nm19f, bo19f, mv19f, nm19o, bo19o, mv19o, nm19d, bo19d, mv19d, nm20f, bo20f, mv20f, nm20o, bo20o, mv20o, nm20d, bo20d, mv20d, nm21f, bo21f, mv21f, nm21o, bo21o, mv21o, nm21d, bo21d, mv21d, nm22f, bo22f, mv22f, nm22o, bo22o, mv22o, nm22d, bo22d, mv22d, nm23f, bo23f, mv23f, nm23o, bo23o, mv23o, nm23d, bo23d, mv23d, d_fr, fz_fr, isFr_fr, free_fr, d_ow, fz_ow, isFr_ow, free_ow, d_od, fz_od, isFr_od, free_od, d_bo, fz_bo, isFr_bo, free_bo, d_bd, fz_bd, isFr_bd, free_bd, w_add_i, w_add_s, w_add_l, w_add_t, w_sub, w_mul_i, w_mul_s, w_mul_l, w_mul_t, w_mod, w_fdv, w_pow, w_le_i, w_gt_i, w_ge_i, w_le_s, w_gt_s, w_ge_s, w_lt_i, w_lt_s, w_eq, w_ne, w_is_b, w_isN_b, w_in_l, w_nin_l, w_ix_l, w_ix_t, w_ix_s, w_sl_l, w_sl_t, w_sl_s, w_len_l, w_len_t, w_len_s, w_list_l, w_list_t, w_tuple_l, w_tuple_t, w_str, w_int_i, w_int_b, w_int_s, w_max2, w_max_l, w_min2, w_min_l, w_all, w_any, w_sorted_l, w_sorted_t, w_split, w_join, w_in_t, w_nin_t, w_in_ts, w_nin_ts, e_draw, e_cok_int, e_cok_bl, e_cok_str, List.map_cons, List.map_nil, List.all_cons, List.all_nil, List.length_cons, List.length_nil, List.getElem?_cons_zero, List.getElem?_cons_succ, List.set_cons_zero, List.set_cons_succ, retD, Tg.put, puts, wipeE, true_and, and_true, and_self, Bool.and_true, Bool.true_and, exists_eq_left', exists_eq_left, R.fr.injEq, R.ow.injEq, Option.some.injEq, D.bl.injEq, D.int.injEq, D.str.injEq, D.lst.injEq, D.tup.injEq, decide_eq_true_eq, if_true, exists_eq', Bool.not_true, Bool.not_false, ite_true, ite_false, if_false, Bool.false_eq_true]
        refine ⟨(lay_row row).shp, rows_shp _, ?_⟩
        have ea : ((rows.map rowD).any fun z => D.eqv z (.tup ((row : List Int).map .int))) = decide (row ∈ rows) := any_row row rows
        rw [ea]
        refine ite_k (fun h => ?_) fun h => ?_
        · have h : row ∉ rows := by simpa using h
          refine ⟨by rw [sizeLine_eq, List.length_map]; omega, rows ++ [row], some (.fr (.int k)), some (.fr (.tup ((row : List Int).map .int))), ?_, by simp; omega, fun z hz => ?_, by rw [List.map_append]; rfl⟩
          · rw [List.nodup_append]
            refine ⟨nd, by simp, fun a ha b hb e => ?_⟩
            rw [List.mem_singleton.mp hb] at e
            subst e
            exact h ha
          · rcases List.mem_append.mp hz with hz | hz
            · exact ok z hz
            · rw [List.mem_singleton.mp hz]; exact gR
        · exact ⟨rows, some (.fr (.int k)), some (.fr (.tup ((row : List Int).map .int))), nd, by simp; omega, ok, rfl⟩
    · obtain ⟨rows, x4, x5, nd, hl, ok, rfl⟩ := hI
      try simp only [e_dSeq, e_dNext, e_dSet, e_dRet, e_dDrop, e_dIfS, e_dTgS, e_dC, e_dBin, e_dTst, e_dChn, e_dAnd, e_dOr, e_dNot, e_dAndV, e_dOrV, e_dNotV, e_dIf, e_dNil, e_dCons, e_dLst, e_dTup, e_dCB, e_dCall, e_dYes, e_dApp, e_dAug, e_dAugM, e_dIsi, e_dIsi2, e_dSl, e_dNoP, e_dPart, e_dM1, e_dFor, e_dLC, e_dIt, e_dRng1, e_dZipM, e_dRngN, e_dRev, e_dPar0, w_maxT, e_dSrtSet, e_dItS, e_dPar2, e_dPar3, e_par2, e_par3, e_dCallD, e_dCallK, e_dRng2, e_dEnum, e_dZip, nm0f, nm0o, nm0d, bo0f, bo0o, bo0d, mv0f, mv0o, mv0d, nm1f, nm1o, nm1d, bo1f, bo1o, bo1d, mv1f, mv1o, mv1d, nm2f, nm2o, nm2d, bo2f, bo2o, bo2d, mv2f, mv2o, mv2d, nm3f, nm3o, nm3d, bo3f, bo3o, bo3d, mv3f, mv3o, mv3d, nm4f, nm4o, nm4d, bo4f, bo4o, bo4d, mv4f, mv4o, mv4d, nm5f, nm5o, nm5d, bo5f, bo5o, bo5d, mv5f, mv5o, mv5d, nm6f, nm6o, nm6d, bo6f, bo6o, bo6d, mv6f, mv6o, mv6d, nm7f, nm7o, nm7d, bo7f, bo7o, bo7d, mv7f, mv7o, mv7d, nm8f, nm8o, nm8d, bo8f, bo8o, bo8d, mv8f, mv8o, mv8d, nm9f, nm9o, nm9d, bo9f, bo9o, bo9d, mv9f, mv9o, mv9d, nm10f, nm10o, nm10d, bo10f, bo10o, bo10d, mv10f, mv10o, mv10d, nm11f, nm11o, nm11d, bo11f, bo11o, bo11d, mv11f, mv11o, mv11d, nm12f, nm12o, nm12d, bo12f, bo12o, bo12d, mv12f, mv12o, mv12d, nm13f, nm13o, nm13d, bo13f, bo13o, bo13d, mv13f, mv13o, mv13d, nm14f, nm14o, nm14d, bo14f, bo14o, bo14d, mv14f, mv14o, mv14d, nm15f, nm15o, nm15d, bo15f, bo15o, bo15d, mv15f, mv15o, mv15d, nm16f, bo16f, mv16f, nm16o, bo16o, mv16o, nm16d, bo16d, mv16d, nm17f, bo17f, mv17f, nm17o, bo17o, mv17o, nm17d, bo17d, mv17d, nm18f, bo18f, mv18f, nm18o, bo18o, mv18o, nm18d, bo18d, mv18d, nm19f, bo19f, mv19f, nm19o, bo19o, mv19o, nm19d, bo19d, mv19d, nm20f, bo20f, mv20f, nm20o, bo20o, mv20o, nm20d, bo20d, mv20d, nm21f, bo21f, mv21f, nm21o, bo21o, mv21o, nm21d, bo21d, mv21d, nm22f, bo22f, mv22f, nm22o, bo22o, mv22o, nm22d, bo22d, mv22d, nm23f, bo23f, mv23f, nm23o, bo23o, mv23o, nm23d, bo23d, mv23d, d_fr, fz_fr, isFr_fr, free_fr, d_ow, fz_ow, isFr_ow, free_ow, d_od, fz_od, isFr_od, free_od, d_bo, fz_bo, isFr_bo, free_bo, d_bd, fz_bd, isFr_bd, free_bd, w_add_i, w_add_s, w_add_l, w_add_t, w_sub, w_mul_i, w_mul_s, w_mul_l, w_mul_t, w_mod, w_fdv, w_pow, w_le_i, w_gt_i, w_ge_i, w_le_s, w_gt_s, w_ge_s, w_lt_i, w_lt_s, w_eq, w_ne, w_is_b, w_isN_b, w_in_l, w_nin_l, w_ix_l, w_ix_t, w_ix_s, w_sl_l, w_sl_t, w_sl_s, w_len_l, w_len_t, w_len_s, w_list_l, w_list_t, w_tuple_l, w_tuple_t, w_str, w_int_i, w_int_b, w_int_s, w_max2, w_max_l, w_min2, w_min_l, w_all, w_any, w_sorted_l, w_sorted_t, w_split, w_join, w_in_t, w_nin_t, w_in_ts, w_nin_ts, e_draw, e_cok_int, e_cok_bl, e_cok_str, List.map_cons, List.map_nil, List.all_cons, List.all_nil, List.length_cons, List.length_nil, List.getElem?_cons_zero, List.getElem?_cons_succ, List.set_cons_zero, List.set_cons_succ, retD, Tg.put, puts, wipeE, true_and, and_true, and_self, Bool.and_true, Bool.true_and, exists_eq_left', exists_eq_left, R.fr.injEq, R.ow.injEq, Option.some.injEq, D.bl.injEq, D.int.injEq, D.str.injEq, D.lst.injEq, D.tup.injEq, decide_eq_true_eq, if_true, exists_eq', Bool.not_true, Bool.not_false, ite_true, ite_false, if_false, Bool.false_eq_true]
      refine q _ ⟨rows, rfl, nd, ?_, ok⟩
      show (rows.length : Int) ≤ m
      simp [rngI] at hl
      omega
theorem cal__law_write {f : Addr} {fd : FuncData} {k : Nat} (F : Fun K "_law_write" "_law_write" s__law_write f fd) (b : Binds K fd ["row", "zeros"] []) (m : mg "_law_write" = some (.ref f)) (kp : PySem.W.keepIn K (.ref f) = true) (B : Bl mg) : Cal P w K mg base (k + 1) "_law_write" ["row", "zeros"] f fd sp__law_write := by
  refine ⟨fn_dl F sc__law_write (fun ds Q h => ?len) fun cdv A outer s H E hr => ?body, ?mono, m, kp, b⟩
  case len =>
    obtain ⟨x, rfl, -⟩ := h; rfl
  case mono =>
    exact SP_mono
  case body =>
    have hu64 := hr.units; have hu100 : (A.deeper (envOfC "_law_write" (defScope s__law_write) s.heap.objs.size f cdv)).units + 100 < cLine := by have := hr.un; omega
    have hu65 : (A.deeper (envOfC "_law_write" (defScope s__law_write) s.heap.objs.size f cdv)).units + 65 < cLine := by omega
    have hu1 : (A.deeper (envOfC "_law_write" (defScope s__law_write) s.heap.objs.size f cdv)).units + 1 < cLine := by omega
    refine ⟨_, (qss_cons (qs_set (i := 2) sc__law_write.nd (qe_lst qa_nil))
    (qss_cons (qs_for PassesOwn.never rfl (qi_enum (by rfl) B.b_enumerate (qa_cons (qe_nm (i := 0)) qa_nil)) (qg_tp (is := [3, 4]) rfl (pgs_cons (pgn (i := 3) sc__law_write.nd) (pgs_cons (pgn (i := 4) sc__law_write.nd) pgs_nil)))
    (qss_one (qs_app (i := 2) (qe_bin opd_add (qe_bin opd_mul (qe_str [48]) (qe_ix hu1 (qe_bo (i := 1)) (qe_bin opd_mod (qe_bo (i := 3)) (qe_callB cd_len (by rfl) B.b_len bt_len (qa_cons (qe_bo (i := 1)) qa_nil))))) (qe_callTy cd_str (by rfl) B.b_str bt_str (qa_cons (qe_bo (i := 4)) qa_nil))))))
    (qss_one (qs_ret (qe_join (qe_str [45]) (qe_bo (i := 2))))))), fun ds Q h => ?_⟩
    obtain ⟨⟨row, zs⟩, rfl, ⟨g, z0, zl, zk⟩, q⟩ := h
    show (_ : TSd) (retD Q) [some (.fr (.tup (row.map .int))), some (.fr (.lst (zs.map fun (k : Nat) => .int (k : Int)))), none, none, none]
    dsimp only at g z0 zl zk
    have hle := g.le
    try simp only [e_dSeq, e_dNext, e_dSet, e_dRet, e_dDrop, e_dIfS, e_dTgS, e_dC, e_dBin, e_dTst, e_dChn, e_dAnd, e_dOr, e_dNot, e_dAndV, e_dOrV, e_dNotV, e_dIf, e_dNil, e_dCons, e_dLst, e_dTup, e_dCB, e_dCall, e_dYes, e_dApp, e_dAug, e_dAugM, e_dIsi, e_dIsi2, e_dSl, e_dNoP, e_dPart, e_dM1, e_dFor, e_dLC, e_dIt, e_dRng1, e_dZipM, e_dRngN, e_dRev, e_dPar0, w_maxT, e_dSrtSet, e_dItS, e_dPar2, e_dPar3, e_par2, e_par3, e_dCallD, e_dCallK, e_dRng2, e_dEnum, e_dZip, nm0f, nm0o, nm0d, bo0f, bo0o, bo0d, mv0f, mv0o, mv0d, nm1f, nm1o, nm1d, bo1f, bo1o, bo1d, mv1f, mv1o, mv1d, nm2f, nm2o, nm2d, bo2f, bo2o, bo2d, mv2f, mv2o, mv2d, nm3f, nm3o, nm3d, bo3f, bo3o, bo3d, mv3f, mv3o, mv3d, nm4f, nm4o, nm4d, bo4f, bo4o, bo4d, mv4f, mv4o, mv4d, nm5f, nm5o, nm5d, bo5f, bo5o, bo5d, mv5f, mv5o, mv5d, nm6f, nm6o, nm6d, bo6f, bo6o, bo6d, mv6f, mv6o, mv6d, nm7f, nm7o, nm7d, bo7f, bo7o, bo7d, mv7f, mv7o, mv7d, nm8f, nm8o, nm8d, bo8f, bo8o, bo8d, mv8f, mv8o, mv8d, nm9f, nm9o, nm9d, bo9f, bo9o, bo9d, mv9f, mv9o, mv9d, nm10f, nm10o, nm10d, bo10f, bo10o, bo10d, mv10f, mv10o, mv10d, nm11f, nm11o, nm11d, bo11f, bo11o, bo11d, mv11f, mv11o, mv11d, nm12f, nm12o, nm12d, bo12f, bo12o, bo12d, mv12f, mv12o, mv12d, nm13f, nm13o, nm13d, bo13f, bo13o, bo13d, mv13f, mv13o, mv13d, nm14f, nm14o, nm14d, bo14f, bo14o, bo14d, mv14f, mv14o, mv14d, nm15f, nm15o, nm15d, bo15f, bo15o, bo15d, mv15f, mv15o, mv15d, nm16f, bo16f, mv16f, nm16o, bo16o, mv16o, nm16d, bo16d, mv16d, nm17f, bo17f, mv17f, nm17o, bo17o, mv17o, nm17d, bo17d, mv17d, nm18f, bo18f, mv18f, nm18o, bo18o, mv18o, nm18d, bo18d, mv18d, nm19f, bo19f, mv19f, nm19o, bo19o, mv19o, nm19d, bo19d, mv19d, nm20f, bo20f, mv20f, nm20o, bo20o, mv20o, nm20d, bo20d, mv20d, nm21f, bo21f, mv21f, nm21o, bo21o, mv21o, nm21d, bo21d, mv21d, nm22f, bo22f, mv22f, nm22o, bo22o, mv22o, nm22d, bo22d, mv22d, nm23f, bo23f, mv23f, nm23o, bo23o, mv23o, nm23d, bo23d, mv23d, d_fr, fz_fr, isFr_fr, free_fr, d_ow, fz_ow, isFr_ow, free_ow, d_od, fz_od, isFr_od, free_od, d_bo, fz_bo, isFr_bo, free_bo, d_bd, fz_bd, isFr_bd, free_bd, w_add_i, w_add_s, w_add_l, w_add_t, w_sub, w_mul_i, w_mul_s, w_mul_l, w_mul_t, w_mod, w_fdv, w_pow, w_le_i, w_gt_i, w_ge_i, w_le_s, w_gt_s, w_ge_s, w_lt_i, w_lt_s, w_eq, w_ne, w_is_b, w_isN_b, w_in_l, w_nin_l, w_ix_l, w_ix_t, w_ix_s, w_sl_l, w_sl_t, w_sl_s, w_len_l, w_len_t, w_len_s, w_list_l, w_list_t, w_tuple_l, w_tuple_t, w_str, w_int_i, w_int_b, w_int_s, w_max2, w_max_l, w_min2, w_min_l, w_all, w_any, w_sorted_l, w_sorted_t, w_split, w_join, w_in_t, w_nin_t, w_in_ts, w_nin_ts, e_draw, e_cok_int, e_cok_bl, e_cok_str, List.map_cons, List.map_nil, List.all_cons, List.all_nil, List.length_cons, List.length_nil, List.getElem?_cons_zero, List.getElem?_cons_succ, List.set_cons_zero, List.set_cons_succ, retD, Tg.put, puts, wipeE, true_and, and_true, and_self, Bool.and_true, Bool.true_and, exists_eq_left', exists_eq_left, R.fr.injEq, R.ow.injEq, Option.some.injEq, D.bl.injEq, D.int.injEq, D.str.injEq, D.lst.injEq, D.tup.injEq, decide_eq_true_eq, if_true, exists_eq', Bool.not_true, Bool.not_false, ite_true, ite_false, if_false, Bool.false_eq_true]
    refine ⟨Nat.zero_le _, ?_⟩
    refine ⟨fun i ε => ∃ (ks : List Nat) (a b : Option R), ε = [some (.fr (.tup (row.map .int))), some (.fr (.lst (zs.map fun (k : Nat) => .int (k : Int)))), some (.ow ((nameP ks (row.take i)).map .str)), a, b] ∧ ks.length = i ∧ (∀ k ∈ ks, k ≤ 100) ∧ (zs = [0] → ∀ k ∈ ks, k = 0), ⟨[], none, none, by simp [nameP], rfl, by simp, by simp⟩, ?_, ?_⟩
    · rintro i d ε hd ⟨ks, a, b, rfl, hl, hk, hz⟩
      have hi := (List.getElem?_eq_some_iff.mp hd).1
      rw [enumD_len, List.length_map] at hi
      obtain ⟨x, hx, rfl⟩ := enum_at hd
      rw [Nat.zero_add]
      have hN := g.Num x (List.mem_of_getElem? hx)
      have hxl := istr_len hN.1 (by decide) hN.2
      have zp := List.length_pos_iff.mpr z0
      have hj : i % zs.length < zs.length := Nat.mod_lt _ zp
      have hjk := zk _ (List.getElem_mem hj)
      refine ⟨_, rfl, ?_⟩
      try simp only [e_dSeq, e_dNext, e_dSet, e_dRet, e_dDrop, e_dIfS, e_dTgS, e_dC, e_dBin, e_dTst, e_dChn, e_dAnd, e_dOr, e_dNot, e_dAndV, e_dOrV, e_dNotV, e_dIf, e_dNil, e_dCons, e_dLst, e_dTup, e_dCB, e_dCall, e_dYes, e_dApp, e_dAug, e_dAugM, e_dIsi, e_dIsi2, e_dSl, e_dNoP, e_dPart, e_dM1, e_dFor, e_dLC, e_dIt, e_dRng1, e_dZipM, e_dRngN, e_dRev, e_dPar0, w_maxT, e_dSrtSet, e_dItS, e_dPar2, e_dPar3, e_par2, e_par3, e_dCallD, e_dCallK, e_dRng2, e_dEnum, e_dZip, nm0f, nm0o, nm0d, bo0f, bo0o, bo0d, mv0f, mv0o, mv0d, nm1f, nm1o, nm1d, bo1f, bo1o, bo1d, mv1f, mv1o, mv1d, nm2f, nm2o, nm2d, bo2f, bo2o, bo2d, mv2f, mv2o, mv2d, nm3f, nm3o, nm3d, bo3f, bo3o, bo3d, mv3f, mv3o, mv3d, nm4f, nm4o, nm4d, bo4f, bo4o, bo4d, mv4f, mv4o, mv4d, nm5f, nm5o, nm5d, bo5f, bo5o, bo5d, mv5f, mv5o, mv5d, nm6f, nm6o, nm6d, bo6f, bo6o, bo6d, mv6f, mv6o, mv6d, nm7f, nm7o, nm7d, bo7f, bo7o, bo7d, mv7f, mv7o, mv7d, nm8f, nm8o, nm8d, bo8f, bo8o, bo8d, mv8f, mv8o, mv8d, nm9f, nm9o, nm9d, bo9f, bo9o, bo9d, mv9f, mv9o, mv9d, nm10f, nm10o, nm10d, bo10f, bo10o, bo10d, mv10f, mv10o, mv10d, nm11f, nm11o, nm11d, bo11f, bo11o, bo11d, mv11f, mv11o, mv11d, nm12f, nm12o, nm12d, bo12f, bo12o, bo12d, mv12f, mv12o, mv12d, nm13f, nm13o, nm13d, bo13f, bo13o, bo13d, mv13f, mv13o, mv13d, nm14f, nm14o, nm14d, bo14f, bo14o, bo14d, mv14f, mv14o, mv14d, nm15f, nm15o, nm15d, bo15f, bo15o, bo15d, mv15f, mv15o, mv15d, nm16f, bo16f, mv16f, nm16o, bo16o, mv16o, nm16d, bo16d, mv16d, nm17f, bo17f, mv17f, nm17o, bo17o, mv17o, nm17d, bo17d, mv17d, nm18f, bo18f, mv18f, nm18o, bo18o, mv18o, nm18d, bo18d, mv18d, nm19f, bo19f, mv19f, nm19o, bo19o, mv19o, nm19d, bo19d, mv19d, nm20f, bo20f, mv20f, nm20o, bo20o, mv20o, nm20d, bo20d, mv20d, nm21f, bo21f, mv21f, nm21o, bo21o, mv21o, nm21d, bo21d, mv21d, nm22f, bo22f, mv22f, nm22o, bo22o, mv22o, nm22d, bo22d, mv22d, nm23f, bo23f, mv23f, nm23o, bo23o, mv23o, nm23d, bo23d, mv23d, d_fr, fz_fr, isFr_fr, free_fr, d_ow, fz_ow, isFr_ow, free_ow, d_od, fz_od, isFr_od, free_od, d_bo, fz_bo, isFr_bo, free_bo, d_bd, fz_bd, isFr_bd, free_bd, w_add_i, w_add_s, w_add_l, w_add_t, w_sub, w_mul_i, w_mul_s, w_mul_l, w_mul_t, w_mod, w_fdv, w_pow, w_le_i, w_gt_i, w_ge_i, w_le_s, w_gt_s, w_ge_s, w_lt_i, w_lt_s, w_eq, w_ne, w_is_b, w_isN_b, w_in_l, w_nin_l, w_ix_l, w_ix_t, w_ix_s, w_sl_l, w_sl_t, w_sl_s, w_len_l, w_len_t, w_len_s, w_list_l, w_list_t, w_tuple_l, w_tuple_t, w_str, w_int_i, w_int_b, w_int_s, w_max2, w_max_l, w_min2, w_min_l, w_all, w_any, w_sorted_l, w_sorted_t, w_split, w_join, w_in_t, w_nin_t, w_in_ts, w_nin_ts, e_draw, e_cok_int, e_cok_bl, e_cok_str, List.map_cons, List.map_nil, List.all_cons, List.all_nil, List.length_cons, List.length_nil, List.getElem?_cons_zero, List.getElem?_cons_succ, List.set_cons_zero, List.set_cons_succ, retD, Tg.put, puts, wipeE, true_and, and_true, and_self, Bool.and_true, Bool.true_and, exists_eq_left', exists_eq_left, R.fr.injEq, R.ow.injEq, Option.some.injEq, D.bl.injEq, D.int.injEq, D.str.injEq, D.lst.injEq, D.tup.injEq, decide_eq_true_eq, if_true, exists_eq', Bool.not_true, Bool.not_false, ite_true, ite_false, if_false, Bool.false_eq_true]
      simp only [List.length_map]
      refine ⟨by omega, .int ((zs[i % zs.length] : Nat) : Int), ?_, ?_⟩
      · rw [show ((i : Int) % (zs.length : Int)) = ((i % zs.length : Nat) : Int) from (Int.natCast_emod _ _).symm]
        exact atI_nat (by rw [List.getElem?_map, List.getElem?_eq_getElem hj]; rfl)
      try simp only [e_dSeq, e_dNext, e_dSet, e_dRet, e_dDrop, e_dIfS, e_dTgS, e_dC, e_dBin, e_dTst, e_dChn, e_dAnd, e_dOr, e_dNot, e_dAndV, e_dOrV, e_dNotV, e_dIf, e_dNil, e_dCons, e_dLst, e_dTup, e_dCB, e_dCall, e_dYes, e_dApp, e_dAug, e_dAugM, e_dIsi, e_dIsi2, e_dSl, e_dNoP, e_dPart, e_dM1, e_dFor, e_dLC, e_dIt, e_dRng1, e_dZipM, e_dRngN, e_dRev, e_dPar0, w_maxT, e_dSrtSet, e_dItS, e_dPar2, e_dPar3, e_par2, e_par3, e_dCallD, e_dCallK, e_dRng2, e_dEnum, e_dZip, nm0f, nm0o, nm0d, bo0f, bo0o, bo0d, mv0f, mv0o, mv0d, nm1f, nm1o, nm1d, bo1f, bo1o, bo1d, mv1f, mv1o, mv1d, nm2f, nm2o, nm2d, bo2f, bo2o, bo2d, mv2f, mv2o, mv2d, nm3f, nm3o, nm3d, bo3f, bo3o, bo3d, mv3f, mv3o, mv3d, nm4f, nm4o, nm4d, bo4f, bo4o, bo4d, mv4f, mv4o, mv4d, nm5f, nm5o, nm5d, bo5f, bo5o, bo5d, mv5f, mv5o, mv5d, nm6f, nm6o, nm6d, bo6f, bo6o, bo6d, mv6f, mv6o, mv6d, nm7f, nm7o, nm7d, bo7f, bo7o, bo7d, mv7f, mv7o, mv7d, nm8f, nm8o, nm8d, bo8f, bo8o, bo8d, mv8f, mv8o, mv8d, nm9f, nm9o, nm9d, bo9f, bo9o, bo9d, mv9f, mv9o, mv9d, nm10f, nm10o, nm10d, bo10f, bo10o, bo10d, mv10f, mv10o, mv10d, nm11f, nm11o, nm11d, bo11f, bo11o, bo11d, mv11f, mv11o, mv11d, nm12f, nm12o, nm12d, bo12f, bo12o, bo12d, mv12f, mv12o, mv12d, nm13f, nm13o, nm13d, bo13f, bo13o, bo13d, mv13f, mv13o, mv13d, nm14f, nm14o, nm14d, bo14f, bo14o, bo14d, mv14f, mv14o, mv14d, nm15f, nm15o, nm15d, bo15f, bo15o, bo15d, mv15f, mv15o, mv15d, nm16f, bo16f, mv16f, nm16o, bo16o, mv16o, nm16d, bo16d, mv16d, nm17f, bo17f, mv17f, nm17o, bo17o, mv17o, nm17d, bo17d, mv17d, nm18f, bo18f, mv18f, nm18o, bo18o, mv18o, nm18d, bo18d, mv18d, nm19f, bo19f, mv19f, nm19o, bo19o, mv19o, nm19d, bo19d, mv19d, nm20f, bo20f, mv20f, nm20o, bo20o, mv20o, nm20d, bo20d, mv20d, nm21f, bo21f, mv21f, nm21o, bo21o, mv21o, nm21d, bo21d, mv21d, nm22f, bo22f, mv22f, nm22o, bo22o, mv22o, nm22d, bo22d, mv22d, nm23f, bo23f, mv23f, nm23o, bo23o, mv23o, nm23d, bo23d, mv23d, d_fr, fz_fr, isFr_fr, free_fr, d_ow, fz_ow, isFr_ow, free_ow, d_od, fz_od, isFr_od, free_od, d_bo, fz_bo, isFr_bo, free_bo, d_bd, fz_bd, isFr_bd, free_bd, w_add_i, w_add_s, w_add_l, w_add_t, w_sub, w_mul_i, w_mul_s, w_mul_l, w_mul_t, w_mod, w_fdv, w_pow, w_le_i, w_gt_i, w_ge_i, w_le_s, w_gt_s, w_ge_s, w_lt_i, w_lt_s, w_eq, w_ne, w_is_b, w_isN_b, w_in_l, w_nin_l, w_ix_l, w_ix_t, w_ix_s, w_sl_l, w_sl_t, w_sl_s, w_len_l, w_len_t, w_len_s, w_list_l, w_list_t, w_tuple_l, w_tuple_t, w_str, w_int_i, w_int_b, w_int_s, w_max2, w_max_l, w_min2, w_min_l, w_all, w_any, w_sorted_l, w_sorted_t, w_split, w_join, w_in_t, w_nin_t, w_in_ts, w_nin_ts, e_draw, e_cok_int, e_cok_bl, e_cok_str, List.map_cons, List.map_nil, List.all_cons, List.all_nil, List.length_cons, List.length_nil, List.getElem?_cons_zero, List.getElem?_cons_succ, List.set_cons_zero, List.set_cons_succ, retD, Tg.put, puts, wipeE, true_and, and_true, and_self, Bool.and_true, Bool.true_and, exists_eq_left', exists_eq_left, R.fr.injEq, R.ow.injEq, Option.some.injEq, D.bl.injEq, D.int.injEq, D.str.injEq, D.lst.injEq, D.tup.injEq, decide_eq_true_eq, if_true, exists_eq', Bool.not_true, Bool.not_false, ite_true, ite_false, if_false, Bool.false_eq_true]
      rw [Int.toNat_natCast]
      have tl : (row.take i).length = i := by rw [List.length_take]; omega
      refine ⟨by omega, by omega, by rw [sizeLine_eq]; omega, log_small hN, ?_, ?_, ks ++ [zs[i % zs.length]], some (.fr (.int (i : Int))), some (.fr (.int x)), ?_, by simp [hl], ?_, ?_⟩
      · have := zer_len (zs[i % zs.length]) hN
        unfold zer at this
        rw [List.length_append] at this
        rw [sizeLine_eq]; omega
      · unfold nameP
        rw [List.length_zipWith, sizeLine_eq]
        omega
      · rw [take_get hx, zip_snoc (by rw [hl, tl]), List.map_append]
        rfl
      · intro k hk'
        rcases List.mem_append.mp hk' with h | h
        · exact hk k h
        · rw [List.mem_singleton.mp h]; exact hjk
      · intro e k hk'
        rcases List.mem_append.mp hk' with h | h
        · exact hz e k h
        · rw [List.mem_singleton.mp h]
          have h0 : ∀ z ∈ zs, z = 0 := by rw [e]; simp
          exact h0 _ (List.getElem_mem hj)
    · rintro ε ⟨ks, a, b, rfl, hl, hk, hz⟩
      rw [enumD_len, List.length_map] at hl ⊢
      rw [List.take_length]
      have hks : KsOk ks row := ⟨hl, hk⟩
      try simp only [e_dSeq, e_dNext, e_dSet, e_dRet, e_dDrop, e_dIfS, e_dTgS, e_dC, e_dBin, e_dTst, e_dChn, e_dAnd, e_dOr, e_dNot, e_dAndV, e_dOrV, e_dNotV, e_dIf, e_dNil, e_dCons, e_dLst, e_dTup, e_dCB, e_dCall, e_dYes, e_dApp, e_dAug, e_dAugM, e_dIsi, e_dIsi2, e_dSl, e_dNoP, e_dPart, e_dM1, e_dFor, e_dLC, e_dIt, e_dRng1, e_dZipM, e_dRngN, e_dRev, e_dPar0, w_maxT, e_dSrtSet, e_dItS, e_dPar2, e_dPar3, e_par2, e_par3, e_dCallD, e_dCallK, e_dRng2, e_dEnum, e_dZip, nm0f, nm0o, nm0d, bo0f, bo0o, bo0d, mv0f, mv0o, mv0d, nm1f, nm1o, nm1d, bo1f, bo1o, bo1d, mv1f, mv1o, mv1d, nm2f, nm2o, nm2d, bo2f, bo2o, bo2d, mv2f, mv2o, mv2d, nm3f, nm3o, nm3d, bo3f, bo3o, bo3d, mv3f, mv3o, mv3d, nm4f, nm4o, nm4d, bo4f, bo4o, bo4d, mv4f, mv4o, mv4d, nm5f, nm5o, nm5d, bo5f, bo5o, bo5d, mv5f, mv5o, mv5d, nm6f, nm6o, nm6d, bo6f, bo6o, bo6d, mv6f, mv6o, mv6d, nm7f, nm7o, nm7d, bo7f, bo7o, bo7d, mv7f, mv7o, mv7d, nm8f, nm8o, nm8d, bo8f, bo8o, bo8d, mv8f, mv8o, mv8d, nm9f, nm9o, nm9d, bo9f, bo9o, bo9d, mv9f, mv9o, mv9d, nm10f, nm10o, nm10d, bo10f, bo10o, bo10d, mv10f, mv10o, mv10d, nm11f, nm11o, nm11d, bo11f, bo11o, bo11d, mv11f, mv11o, mv11d, nm12f, nm12o, nm12d, bo12f, bo12o, bo12d, mv12f, mv12o, mv12d, nm13f, nm13o, nm13d, bo13f, bo13o, bo13d, mv13f, mv13o, mv13d, nm14f, nm14o, nm14d, bo14f, bo14o, bo14d, mv14f, mv14o, mv14d, nm15f, nm15o, nm15d, bo15f, bo15o, bo15d, mv15f, mv15o, mv15d, nm16f, bo16f, mv16f, nm16o, bo16o, mv16o, nm16d, bo16d, mv16d, nm17f, bo17f, mv17f, nm17o, bo17o, mv17o, nm17d, bo17d, mv17d, nm18f, bo18f, mv18f, nm18o, bo18o, mv18o, nm18d, bo18d, mv18d, nm19f, bo19f, mv19f, nm19o, bo19o, mv19o, nm19d, bo19d, mv19d, nm20f, bo20f, mv20f, nm20o, bo20o, mv20o, nm20d, bo20d, mv20d, nm21f, bo21f, mv21f, nm21o, bo21o, mv21o, nm21d, bo21d, mv21d, nm22f, bo22f, mv22f, nm22o, bo22o, mv22o, nm22d, bo22d, mv22d, nm23f, bo23f, mv23f, nm23o, bo23o, mv23o, nm23d, bo23d, mv23d, d_fr, fz_fr, isFr_fr, free_fr, d_ow, fz_ow, isFr_ow, free_ow, d_od, fz_od, isFr_od, free_od, d_bo, fz_bo, isFr_bo, free_bo, d_bd, fz_bd, isFr_bd, free_bd, w_add_i, w_add_s, w_add_l, w_add_t, w_sub, w_mul_i, w_mul_s, w_mul_l, w_mul_t, w_mod, w_fdv, w_pow, w_le_i, w_gt_i, w_ge_i, w_le_s, w_gt_s, w_ge_s, w_lt_i, w_lt_s, w_eq, w_ne, w_is_b, w_isN_b, w_in_l, w_nin_l, w_ix_l, w_ix_t, w_ix_s, w_sl_l, w_sl_t, w_sl_s, w_len_l, w_len_t, w_len_s, w_list_l, w_list_t, w_tuple_l, w_tuple_t, w_str, w_int_i, w_int_b, w_int_s, w_max2, w_max_l, w_min2, w_min_l, w_all, w_any, w_sorted_l, w_sorted_t, w_split, w_join, w_in_t, w_nin_t, w_in_ts, w_nin_ts, e_draw, e_cok_int, e_cok_bl, e_cok_str, List.map_cons, List.map_nil, List.all_cons, List.all_nil, List.length_cons, List.length_nil, List.getElem?_cons_zero, List.getElem?_cons_succ, List.set_cons_zero, List.set_cons_succ, retD, Tg.put, puts, wipeE, true_and, and_true, and_self, Bool.and_true, Bool.true_and, exists_eq_left', exists_eq_left, R.fr.injEq, R.ow.injEq, Option.some.injEq, D.bl.injEq, D.int.injEq, D.str.injEq, D.lst.injEq, D.tup.injEq, decide_eq_true_eq, if_true, exists_eq', Bool.not_true, Bool.not_false, ite_true, ite_false, if_false, Bool.false_eq_true]
      refine ⟨nameP ks row, rfl, ?_, q _ ⟨ks, hks, hz, rfl⟩⟩
      have h1 : ((nameP ks row).map (fun x => x.length)).sum ≤ 4 * 118 := nameP_sum hks g
      rw [nameP_len hks]
      simp only [List.length_cons, List.length_nil, Nat.zero_add, Nat.mul_one]
      omega
theorem cal__law_plain {f : Addr} {fd : FuncData} {f__law_write : Addr} {fd__law_write : FuncData} {k : Nat} (F : Fun K "_law_plain" "_law_plain" s__law_plain f fd) (b : Binds K fd ["rows"] []) (m : mg "_law_plain" = some (.ref f)) (kp : PySem.W.keepIn K (.ref f) = true) (B : Bl mg) (C__law_write : Cal P w K mg base k "_law_write" ["row", "zeros"] f__law_write fd__law_write sp__law_write) : Cal P w K mg base (k + 1) "_law_plain" ["rows"] f fd sp__law_plain := by
  refine ⟨fn_dl F sc__law_plain (fun ds Q h => ?len) fun cdv A outer s H E hr => ?body, ?mono, m, kp, b⟩
  case len =>
    obtain ⟨x, rfl, -⟩ := h; rfl
  case mono =>
    exact SP_mono
  case body =>
    have hu64 := hr.units; have hu100 : (A.deeper (envOfC "_law_plain" (defScope s__law_plain) s.heap.objs.size f cdv)).units + 100 < cLine := by have := hr.un; omega
    have hu65 : (A.deeper (envOfC "_law_plain" (defScope s__law_plain) s.heap.objs.size f cdv)).units + 65 < cLine := by omega
    have hu1 : (A.deeper (envOfC "_law_plain" (defScope s__law_plain) s.heap.objs.size f cdv)).units + 1 < cLine := by omega
    refine ⟨_, (qss_one (qs_ret (qe_callTy cd_tuple (by rfl) B.b_tuple bt_tuple (qa_cons (qe_lc [("row", 1)] rfl sc__law_plain.nd (qi_seq (qe_nm (i := 0))) (blkOk_by (by rfl)) (fun s H C cl fp => (qg_nm (i := 1) sc__law_plain.nd)) (fun s H C cl fp => qts_nil) (fun s H C cl fp => (qe_callC C__law_write hr (by rfl) (qa_cons (qe_nm (i := 1)) (qa_cons (qe_lst (qa_cons qe_int qa_nil)) qa_nil))))) qa_nil)))), fun ds Q h => ?_⟩
    obtain ⟨rows, rfl, ⟨hl, ok⟩, q⟩ := h
    show (_ : TSd) (retD Q) [some (.fr (.lst (rows.map rowD))), none]
    try simp only [e_dSeq, e_dNext, e_dSet, e_dRet, e_dDrop, e_dIfS, e_dTgS, e_dC, e_dBin, e_dTst, e_dChn, e_dAnd, e_dOr, e_dNot, e_dAndV, e_dOrV, e_dNotV, e_dIf, e_dNil, e_dCons, e_dLst, e_dTup, e_dCB, e_dCall, e_dYes, e_dApp, e_dAug, e_dAugM, e_dIsi, e_dIsi2, e_dSl, e_dNoP, e_dPart, e_dM1, e_dFor, e_dLC, e_dIt, e_dRng1, e_dZipM, e_dRngN, e_dRev, e_dPar0, w_maxT, e_dSrtSet, e_dItS, e_dPar2, e_dPar3, e_par2, e_par3, e_dCallD, e_dCallK, e_dRng2, e_dEnum, e_dZip, nm0f, nm0o, nm0d, bo0f, bo0o, bo0d, mv0f, mv0o, mv0d, nm1f, nm1o, nm1d, bo1f, bo1o, bo1d, mv1f, mv1o, mv1d, nm2f, nm2o, nm2d, bo2f, bo2o, bo2d, mv2f, mv2o, mv2d, nm3f, nm3o, nm3d, bo3f, bo3o, bo3d, mv3f, mv3o, mv3d, nm4f, nm4o, nm4d, bo4f, bo4o, bo4d, mv4f, mv4o, mv4d, nm5f, nm5o, nm5d, bo5f, bo5o, bo5d, mv5f, mv5o, mv5d, nm6f, nm6o, nm6d, bo6f, bo6o, bo6d, mv6f, mv6o, mv6d, nm7f, nm7o, nm7d, bo7f, bo7o, bo7d, mv7f, mv7o, mv7d, nm8f, nm8o, nm8d, bo8f, bo8o, bo8d, mv8f, mv8o, mv8d, nm9f, nm9o, nm9d, bo9f, bo9o, bo9d, mv9f, mv9o, mv9d, nm10f, nm10o, nm10d, bo10f, bo10o, bo10d, mv10f, mv10o, mv10d, nm11f, nm11o, nm11d, bo11f, bo11o, bo11d, mv11f, mv11o, mv11d, nm12f, nm12o, nm12d, bo12f, bo12o, bo12d, mv12f, mv12o, mv12d, nm13f, nm13o, nm13d, bo13f, bo13o, bo13d, mv13f, mv13o, mv13d, nm14f, nm14o, nm14d, bo14f, bo14o, bo14d, mv14f, mv14o, mv14d, nm15f, nm15o, nm15d, bo15f, bo15o, bo15d, mv15f, mv15o, mv15d, nm16f, bo16f, mv16f, nm16o, bo16o, mv16o, nm16d, bo16d, mv16d, nm17f, bo17f, mv17f, nm17o, bo17o, mv17o, nm17d, bo17d, mv17d, nm18f, bo18f, mv18f, nm18o, bo18o, mv18o, nm18d, bo18d, mv18d, nm19f, bo19f, mv19f, nm19o, bo19o, mv19o, nm19d, bo19d, mv19d, nm20f, bo20f, mv20f, nm20o, bo20o, mv20o, nm20d, bo20d, mv20d, nm21f, bo21f, mv21f, nm21o, bo21o, mv21o, nm21d, bo21d, mv21d, nm22f, bo22f, mv22f, nm22o, bo22o, mv22o, nm22d, bo22d, mv22d, nm23f, bo23f, mv23f, nm23o, bo23o, mv23o, nm23d, bo23d, mv23d, d_fr, fz_fr, isFr_fr, free_fr, d_ow, fz_ow, isFr_ow, free_ow, d_od, fz_od, isFr_od, free_od, d_bo, fz_bo, isFr_bo, free_bo, d_bd, fz_bd, isFr_bd, free_bd, w_add_i, w_add_s, w_add_l, w_add_t, w_sub, w_mul_i, w_mul_s, w_mul_l, w_mul_t, w_mod, w_fdv, w_pow, w_le_i, w_gt_i, w_ge_i, w_le_s, w_gt_s, w_ge_s, w_lt_i, w_lt_s, w_eq, w_ne, w_is_b, w_isN_b, w_in_l, w_nin_l, w_ix_l, w_ix_t, w_ix_s, w_sl_l, w_sl_t, w_sl_s, w_len_l, w_len_t, w_len_s, w_list_l, w_list_t, w_tuple_l, w_tuple_t, w_str, w_int_i, w_int_b, w_int_s, w_max2, w_max_l, w_min2, w_min_l, w_all, w_any, w_sorted_l, w_sorted_t, w_split, w_join, w_in_t, w_nin_t, w_in_ts, w_nin_ts, e_draw, e_cok_int, e_cok_bl, e_cok_str, List.map_cons, List.map_nil, List.all_cons, List.all_nil, List.length_cons, List.length_nil, List.getElem?_cons_zero, List.getElem?_cons_succ, List.set_cons_zero, List.set_cons_succ, retD, Tg.put, puts, wipeE, true_and, and_true, and_self, Bool.and_true, Bool.true_and, exists_eq_left', exists_eq_left, R.fr.injEq, R.ow.injEq, Option.some.injEq, D.bl.injEq, D.int.injEq, D.str.injEq, D.lst.injEq, D.tup.injEq, decide_eq_true_eq, if_true, exists_eq', Bool.not_true, Bool.not_false, ite_true, ite_false, if_false, Bool.false_eq_true]
    refine comp_mapF (fun r => nD (zrow r)) rfl (fun r hr P hP => ?_) ?_
    · refine ⟨_, rfl, ?_⟩
      try simp only [e_dSeq, e_dNext, e_dSet, e_dRet, e_dDrop, e_dIfS, e_dTgS, e_dC, e_dBin, e_dTst, e_dChn, e_dAnd, e_dOr, e_dNot, e_dAndV, e_dOrV, e_dNotV, e_dIf, e_dNil, e_dCons, e_dLst, e_dTup, e_dCB, e_dCall, e_dYes, e_dApp, e_dAug, e_dAugM, e_dIsi, e_dIsi2, e_dSl, e_dNoP, e_dPart, e_dM1, e_dFor, e_dLC, e_dIt, e_dRng1, e_dZipM, e_dRngN, e_dRev, e_dPar0, w_maxT, e_dSrtSet, e_dItS, e_dPar2, e_dPar3, e_par2, e_par3, e_dCallD, e_dCallK, e_dRng2, e_dEnum, e_dZip, nm0f, nm0o, nm0d, bo0f, bo0o, bo0d, mv0f, mv0o, mv0d, nm1f, nm1o, nm1d, bo1f, bo1o, bo1d, mv1f, mv1o, mv1d, nm2f, nm2o, nm2d, bo2f, bo2o, bo2d, mv2f, mv2o, mv2d, nm3f, nm3o, nm3d, bo3f, bo3o, bo3d, mv3f, mv3o, mv3d, nm4f, nm4o, nm4d, bo4f, bo4o, bo4d, mv4f, mv4o, mv4d, nm5f, nm5o, nm5d, bo5f, bo5o, bo5d, mv5f, mv5o, mv5d, nm6f, nm6o, nm6d, bo6f, bo6o, bo6d, mv6f, mv6o, mv6d, nm7f, nm7o, nm7d, bo7f, bo7o, bo7d, mv7f, mv7o, mv7d, nm8f, nm8o, nm8d, bo8f, bo8o, bo8d, mv8f, mv8o, mv8d, nm9f, nm9o, nm9d, bo9f, bo9o, bo9d, mv9f, mv9o, mv9d, nm10f, nm10o, nm10d, bo10f, bo10o, bo10d, mv10f, mv10o, mv10d, nm11f, nm11o, nm11d, bo11f, bo11o, bo11d, mv11f, mv11o, mv11d, nm12f, nm12o, nm12d, bo12f, bo12o, bo12d, mv12f, mv12o, mv12d, nm13f, nm13o, nm13d, bo13f, bo13o, bo13d, mv13f, mv13o, mv13d, nm14f, nm14o, nm14d, bo14f, bo14o, bo14d, mv14f, mv14o, mv14d, nm15f, nm15o, nm15d, bo15f, bo15o, bo15d, mv15f, mv15o, mv15d, nm16f, bo16f, mv16f, nm16o, bo16o, mv16o, nm16d, bo16d, mv16d, nm17f, bo17f, mv17f, nm17o, bo17o, mv17o, nm17d, bo17d, mv17d, nm18f, bo18f, mv18f, nm18o, bo18o, mv18o, nm18d, bo18d, mv18d, nm19f, bo19f, mv19f, nm19o, bo19o, mv19o, nm19d, bo19d, mv19d, nm20f, bo20f, mv20f, nm20o, bo20o, mv20o, nm20d, bo20d, mv20d, nm21f, bo21f, mv21f, nm21o, bo21o, mv21o, nm21d, bo21d, mv21d, nm22f, bo22f, mv22f, nm22o, bo22o, mv22o, nm22d, bo22d, mv22d, nm23f, bo23f, mv23f, nm23o, bo23o, mv23o, nm23d, bo23d, mv23d, d_fr, fz_fr, isFr_fr, free_fr, d_ow, fz_ow, isFr_ow, free_ow, d_od, fz_od, isFr_od, free_od, d_bo, fz_bo, isFr_bo, free_bo, d_bd, fz_bd, isFr_bd, free_bd, w_add_i, w_add_s, w_add_l, w_add_t, w_sub, w_mul_i, w_mul_s, w_mul_l, w_mul_t, w_mod, w_fdv, w_pow, w_le_i, w_gt_i, w_ge_i, w_le_s, w_gt_s, w_ge_s, w_lt_i, w_lt_s, w_eq, w_ne, w_is_b, w_isN_b, w_in_l, w_nin_l, w_ix_l, w_ix_t, w_ix_s, w_sl_l, w_sl_t, w_sl_s, w_len_l, w_len_t, w_len_s, w_list_l, w_list_t, w_tuple_l, w_tuple_t, w_str, w_int_i, w_int_b, w_int_s, w_max2, w_max_l, w_min2, w_min_l, w_all, w_any, w_sorted_l, w_sorted_t, w_split, w_join, w_in_t, w_nin_t, w_in_ts, w_nin_ts, e_draw, e_cok_int, e_cok_bl, e_cok_str, List.map_cons, List.map_nil, List.all_cons, List.all_nil, List.length_cons, List.length_nil, List.getElem?_cons_zero, List.getElem?_cons_succ, List.set_cons_zero, List.set_cons_succ, retD, Tg.put, puts, wipeE, true_and, and_true, and_self, Bool.and_true, Bool.true_and, exists_eq_left', exists_eq_left, R.fr.injEq, R.ow.injEq, Option.some.injEq, D.bl.injEq, D.int.injEq, D.str.injEq, D.lst.injEq, D.tup.injEq, decide_eq_true_eq, if_true, exists_eq', Bool.not_true, Bool.not_false, ite_true, ite_false, if_false, Bool.false_eq_true]
      refine ⟨by decide, (r, [0]), rfl, ⟨ok r hr, by simp, by simp, by simp⟩, ?_⟩
      rintro r' ⟨ks, hk, h0, rfl⟩
      have hz : ks = r.map fun _ => 0 := ks_zero hk.len (h0 rfl)
      subst hz
      try simp only [e_dSeq, e_dNext, e_dSet, e_dRet, e_dDrop, e_dIfS, e_dTgS, e_dC, e_dBin, e_dTst, e_dChn, e_dAnd, e_dOr, e_dNot, e_dAndV, e_dOrV, e_dNotV, e_dIf, e_dNil, e_dCons, e_dLst, e_dTup, e_dCB, e_dCall, e_dYes, e_dApp, e_dAug, e_dAugM, e_dIsi, e_dIsi2, e_dSl, e_dNoP, e_dPart, e_dM1, e_dFor, e_dLC, e_dIt, e_dRng1, e_dZipM, e_dRngN, e_dRev, e_dPar0, w_maxT, e_dSrtSet, e_dItS, e_dPar2, e_dPar3, e_par2, e_par3, e_dCallD, e_dCallK, e_dRng2, e_dEnum, e_dZip, nm0f, nm0o, nm0d, bo0f, bo0o, bo0d, mv0f, mv0o, mv0d, nm1f, nm1o, nm1d, bo1f, bo1o, bo1d, mv1f, mv1o, mv1d, nm2f, nm2o, nm2d, bo2f, bo2o, bo2d, mv2f, mv2o, mv2d, nm3f, nm3o, nm3d, bo3f, bo3o, bo3d, mv3f, mv3o, mv3d, nm4f, nm4o, nm4d, bo4f, bo4o, bo4d, mv4f, mv4o, mv4d, nm5f, nm5o, nm5d, bo5f, bo5o, bo5d, mv5f, mv5o, mv5d, nm6f, nm6o, nm6d, bo6f, bo6o, bo6d, mv6f, mv6o, mv6d, nm7f, nm7o, nm7d, bo7f, bo7o, bo7d, mv7f, mv7o, mv7d, nm8f, nm8o, nm8d, bo8f, bo8o, bo8d, mv8f, mv8o, mv8d, nm9f, nm9o, nm9d, bo9f, bo9o, bo9d, mv9f, mv9o, mv9d, nm10f, nm10o, nm10d, bo10f, bo10o, bo10d, mv10f, mv10o, mv10d, nm11f, nm11o, nm11d, bo11f, bo11o, bo11d, mv11f, mv11o, mv11d, nm12f, nm12o, nm12d, bo12f, bo12o, bo12d, mv12f, mv12o, mv12d, nm13f, nm13o, nm13d, bo13f, bo13o, bo13d, mv13f, mv13o, mv13d, nm14f, nm14o, nm14d, bo14f, bo14o, bo14d, mv14f, mv14o, mv14d, nm15f, nm15o, nm15d, bo15f, bo15o, bo15d, mv15f, mv15o, mv15d, nm16f, bo16f, mv16f, nm16o, bo16o, mv16o, nm16d, bo16d, mv16d, nm17f, bo17f, mv17f, nm17o, bo17o, mv17o, nm17d, bo17d, mv17d, nm18f, bo18f, mv18f, nm18o, bo18o, mv18o, nm18d, bo18d, mv18d, nm19f, bo19f, mv19f, nm19o, bo19o, mv19o, nm19d, bo19d, mv19d, nm20f, bo20f, mv20f, nm20o, bo20o, mv20o, nm20d, bo20d, mv20d, nm21f, bo21f, mv21f, nm21o, bo21o, mv21o, nm21d, bo21d, mv21d, nm22f, bo22f, mv22f, nm22o, bo22o, mv22o, nm22d, bo22d, mv22d, nm23f, bo23f, mv23f, nm23o, bo23o, mv23o, nm23d, bo23d, mv23d, d_fr, fz_fr, isFr_fr, free_fr, d_ow, fz_ow, isFr_ow, free_ow, d_od, fz_od, isFr_od, free_od, d_bo, fz_bo, isFr_bo, free_bo, d_bd, fz_bd, isFr_bd, free_bd, w_add_i, w_add_s, w_add_l, w_add_t, w_sub, w_mul_i, w_mul_s, w_mul_l, w_mul_t, w_mod, w_fdv, w_pow, w_le_i, w_gt_i, w_ge_i, w_le_s, w_gt_s, w_ge_s, w_lt_i, w_lt_s, w_eq, w_ne, w_is_b, w_isN_b, w_in_l, w_nin_l, w_ix_l, w_ix_t, w_ix_s, w_sl_l, w_sl_t, w_sl_s, w_len_l, w_len_t, w_len_s, w_list_l, w_list_t, w_tuple_l, w_tuple_t, w_str, w_int_i, w_int_b, w_int_s, w_max2, w_max_l, w_min2, w_min_l, w_all, w_any, w_sorted_l, w_sorted_t, w_split, w_join, w_in_t, w_nin_t, w_in_ts, w_nin_ts, e_draw, e_cok_int, e_cok_bl, e_cok_str, List.map_cons, List.map_nil, List.all_cons, List.all_nil, List.length_cons, List.length_nil, List.getElem?_cons_zero, List.getElem?_cons_succ, List.set_cons_zero, List.set_cons_succ, retD, Tg.put, puts, wipeE, true_and, and_true, and_self, Bool.and_true, Bool.true_and, exists_eq_left', exists_eq_left, R.fr.injEq, R.ow.injEq, Option.some.injEq, D.bl.injEq, D.int.injEq, D.str.injEq, D.lst.injEq, D.tup.injEq, decide_eq_true_eq, if_true, exists_eq', Bool.not_true, Bool.not_false, ite_true, ite_false, if_false, Bool.false_eq_true]
      exact hP
    try simp only [e_dSeq, e_dNext, e_dSet, e_dRet, e_dDrop, e_dIfS, e_dTgS, e_dC, e_dBin, e_dTst, e_dChn, e_dAnd, e_dOr, e_dNot, e_dAndV, e_dOrV, e_dNotV, e_dIf, e_dNil, e_dCons, e_dLst, e_dTup, e_dCB, e_dCall, e_dYes, e_dApp, e_dAug, e_dAugM, e_dIsi, e_dIsi2, e_dSl, e_dNoP, e_dPart, e_dM1, e_dFor, e_dLC, e_dIt, e_dRng1, e_dZipM, e_dRngN, e_dRev, e_dPar0, w_maxT, e_dSrtSet, e_dItS, e_dPar2, e_dPar3, e_par2, e_par3, e_dCallD, e_dCallK, e_dRng2, e_dEnum, e_dZip, nm0f, nm0o, nm0d, bo0f, bo0o, bo0d, mv0f, mv0o, mv0d, nm1f, nm1o, nm1d, bo1f, bo1o, bo1d, mv1f, mv1o, mv1d, nm2f, nm2o, nm2d, bo2f, bo2o, bo2d, mv2f, mv2o, mv2d, nm3f, nm3o, nm3d, bo3f, bo3o, bo3d, mv3f, mv3o, mv3d, nm4f, nm4o, nm4d, bo4f, bo4o, bo4d, mv4f, mv4o, mv4d, nm5f, nm5o, nm5d, bo5f, bo5o, bo5d, mv5f, mv5o, mv5d, nm6f, nm6o, nm6d, bo6f, bo6o, bo6d, mv6f, mv6o, mv6d, nm7f, nm7o, nm7d, bo7f, bo7o, bo7d, mv7f, mv7o, mv7d, nm8f, nm8o, nm8d, bo8f, bo8o, bo8d, mv8f, mv8o, mv8d, nm9f, nm9o, nm9d, bo9f, bo9o, bo9d, mv9f, mv9o, mv9d, nm10f, nm10o, nm10d, bo10f, bo10o, bo10d, mv10f, mv10o, mv10d, nm11f, nm11o, nm11d, bo11f, bo11o, bo11d, mv11f, mv11o, mv11d, nm12f, nm12o, nm12d, bo12f, bo12o, bo12d, mv12f, mv12o, mv12d, nm13f, nm13o, nm13d, bo13f, bo13o, bo13d, mv13f, mv13o, mv13d, nm14f, nm14o, nm14d, bo14f, bo14o, bo14d, mv14f, mv14o, mv14d, nm15f, nm15o, nm15d, bo15f, bo15o, bo15d, mv15f, mv15o, mv15d, nm16f, bo16f, mv16f, nm16o, bo16o, mv16o, nm16d, bo16d, mv16d, nm17f, bo17f, mv17f, nm17o, bo17o, mv17o, nm17d, bo17d, mv17d, nm18f, bo18f, mv18f, nm18o, bo18o, mv18o, nm18d, bo18d, mv18d, nm19f, bo19f, mv19f, nm19o, bo19o, mv19o, nm19d, bo19d, mv19d, nm20f, bo20f, mv20f, nm20o, bo20o, mv20o, nm20d, bo20d, mv20d, nm21f, bo21f, mv21f, nm21o, bo21o, mv21o, nm21d, bo21d, mv21d, nm22f, bo22f, mv22f, nm22o, bo22o, mv22o, nm22d, bo22d, mv22d, nm23f, bo23f, mv23f, nm23o, bo23o, mv23o, nm23d, bo23d, mv23d, d_fr, fz_fr, isFr_fr, free_fr, d_ow, fz_ow, isFr_ow, free_ow, d_od, fz_od, isFr_od, free_od, d_bo, fz_bo, isFr_bo, free_bo, d_bd, fz_bd, isFr_bd, free_bd, w_add_i, w_add_s, w_add_l, w_add_t, w_sub, w_mul_i, w_mul_s, w_mul_l, w_mul_t, w_mod, w_fdv, w_pow, w_le_i, w_gt_i, w_ge_i, w_le_s, w_gt_s, w_ge_s, w_lt_i, w_lt_s, w_eq, w_ne, w_is_b, w_isN_b, w_in_l, w_nin_l, w_ix_l, w_ix_t, w_ix_s, w_sl_l, w_sl_t, w_sl_s, w_len_l, w_len_t, w_len_s, w_list_l, w_list_t, w_tuple_l, w_tuple_t, w_str, w_int_i, w_int_b, w_int_s, w_max2, w_max_l, w_min2, w_min_l, w_all, w_any, w_sorted_l, w_sorted_t, w_split, w_join, w_in_t, w_nin_t, w_in_ts, w_nin_ts, e_draw, e_cok_int, e_cok_bl, e_cok_str, List.map_cons, List.map_nil, List.all_cons, List.all_nil, List.length_cons, List.length_nil, List.getElem?_cons_zero, List.getElem?_cons_succ, List.set_cons_zero, List.set_cons_succ, retD, Tg.put, puts, wipeE, true_and, and_true, and_self, Bool.and_true, Bool.true_and, exists_eq_left', exists_eq_left, R.fr.injEq, R.ow.injEq, Option.some.injEq, D.bl.injEq, D.int.injEq, D.str.injEq, D.lst.injEq, D.tup.injEq, decide_eq_true_eq, if_true, exists_eq', Bool.not_true, Bool.not_false, ite_true, ite_false, if_false, Bool.false_eq_true]
    refine q _ ?_
    show R.fr _ = R.fr _
    rw [List.map_map]
    rfl
theorem cal__law_singles {f : Addr} {fd : FuncData} {f__law_draw : Addr} {fd__law_draw : FuncData} {f__law_number : Addr} {fd__law_number : FuncData} {k : Nat} (F : Fun K "_law_singles" "_law_singles" s__law_singles f fd) (b : Binds K fd ["tape", "most"] []) (m : mg "_law_singles" = some (.ref f)) (kp : PySem.W.keepIn K (.ref f) = true) (B : Bl mg) (C__law_draw : Cal P w K mg base k "_law_draw" ["tape", "many"] f__law_draw fd__law_draw spDraw) (C__law_number : Cal P w K mg base k "_law_number" ["tape"] f__law_number fd__law_number sp__law_number) : Cal P w K mg base (k + 1) "_law_singles" ["tape", "most"] f fd sp__law_singles := by
  refine ⟨fn_dl F sc__law_singles (fun ds Q h => ?len) fun cdv A outer s H E hr => ?body, ?mono, m, kp, b⟩
  case len =>
    obtain ⟨x, rfl, -⟩ := h; rfl
  case mono =>
    exact SP_mono
  case body =>
    have hu64 := hr.units; have hu100 : (A.deeper (envOfC "_law_singles" (defScope s__law_singles) s.heap.objs.size f cdv)).units + 100 < cLine := by have := hr.un; omega
    have hu65 : (A.deeper (envOfC "_law_singles" (defScope s__law_singles) s.heap.objs.size f cdv)).units + 65 < cLine := by omega
    have hu1 : (A.deeper (envOfC "_law_singles" (defScope s__law_singles) s.heap.objs.size f cdv)).units + 1 < cLine := by omega
    refine ⟨_, (qss_cons (qs_set (i := 2) sc__law_singles.nd (qe_tup qa_nil))
    (qss_cons (qs_for PassesOwn.never rfl (qi_rng1 (by rfl) B.b_range (qa_cons (qe_callC C__law_draw hr (by rfl) (qa_cons (qe_nm (i := 0)) (qa_cons (qe_bin opd_add (qe_bo (i := 1)) qe_int) qa_nil))) qa_nil)) (qg_nm (i := 3) sc__law_singles.nd)
    (qss_cons (qs_set (i := 4) sc__law_singles.nd (qe_callC C__law_number hr (by rfl) (qa_cons (qe_nm (i := 0)) qa_nil)))
    (qss_one (qs_if (qt_cmp (opd_ninB hu65) (qe_bo (i := 4)) (qe_bo (i := 2)) (by rfl))
    (qss_one (qs_set (i := 2) sc__law_singles.nd (qe_bin opd_add (qe_bo (i := 2)) (qe_tup (qa_cons (qe_nm (i := 4)) qa_nil)))))
    qss_nil))))
    (qss_one (qs_ret (qe_mv (i := 2)))))), fun ds Q h => ?_⟩
    obtain ⟨m, rfl, ⟨h0, h1⟩, q⟩ := h
    show (_ : TSd) (retD Q) [some (.fr .tape), some (.fr (.int m)), none, none, none]
    try simp only [e_dSeq, e_dNext, e_dSet, e_dRet, e_dDrop, e_dIfS, e_dTgS, e_dC, e_dBin, e_dTst, e_dChn, e_dAnd, e_dOr, e_dNot, e_dAndV, e_dOrV, e_dNotV, e_dIf, e_dNil, e_dCons, e_dLst, e_dTup, e_dCB, e_dCall, e_dYes, e_dApp, e_dAug, e_dAugM, e_dIsi, e_dIsi2, e_dSl, e_dNoP, e_dPart, e_dM1, e_dFor, e_dLC, e_dIt, e_dRng1, e_dZipM, e_dRngN, e_dRev, e_dPar0, w_maxT, e_dSrtSet, e_dItS, e_dPar2, e_dPar3, e_par2, e_par3, e_dCallD, e_dCallK, e_dRng2, e_dEnum, e_dZip, nm0f, nm0o, nm0d, bo0f, bo0o, bo0d, mv0f, mv0o, mv0d, nm1f, nm1o, nm1d, bo1f, bo1o, bo1d, mv1f, mv1o, mv1d, nm2f, nm2o, nm2d, bo2f, bo2o, bo2d, mv2f, mv2o, mv2d, nm3f, nm3o, nm3d, bo3f, bo3o, bo3d, mv3f, mv3o, mv3d, nm4f, nm4o, nm4d, bo4f, bo4o, bo4d, mv4f, mv4o, mv4d, nm5f, nm5o, nm5d, bo5f, bo5o, bo5d, mv5f, mv5o, mv5d, nm6f, nm6o, nm6d, bo6f, bo6o, bo6d, mv6f, mv6o, mv6d, nm7f, nm7o, nm7d, bo7f, bo7o, bo7d, mv7f, mv7o, mv7d, nm8f, nm8o, nm8d, bo8f, bo8o, bo8d, mv8f, mv8o, mv8d, nm9f, nm9o, nm9d, bo9f, bo9o, bo9d, mv9f, mv9o, mv9d, nm10f, nm10o, nm10d, bo10f, bo10o, bo10d, mv10f, mv10o, mv10d, nm11f, nm11o, nm11d, bo11f, bo11o, bo11d, mv11f, mv11o, mv11d, nm12f, nm12o, nm12d, bo12f, bo12o, bo12d, mv12f, mv12o, mv12d, nm13f, nm13o, nm13d, bo13f, bo13o, bo13d, mv13f, mv13o, mv13d, nm14f, nm14o, nm14d, bo14f, bo14o, bo14d, mv14f, mv14o, mv14d, nm15f, nm15o, nm15d, bo15f, bo15o, bo15d, mv15f, mv15o, mv15d, nm16f, bo16f, mv16f, nm16o, bo16o, mv16o, nm16d, bo16d, mv16d, nm17f, bo17f, mv17f, nm17o, bo17o, mv17o, nm17d, bo17d, mv17d, nm18f, bo18f, mv18f, nm18o, bo18o, mv18o, nm18d, bo18d, mv18d, nm19f, bo19f, mv19f, nm19o, bo19o, mv19o, nm19d, bo19d, mv19d, nm20f, bo20f, mv20f, nm20o, bo20o, mv20o, nm20d, bo20d, mv20d, nm21f, bo21f, mv21f, nm21o, bo21o, mv21o, nm21d, bo21d, mv21d, nm22f, bo22f, mv22f, nm22o, bo22o, mv22o, nm22d, bo22d, mv22d, nm23f, bo23f, mv23f, nm23o, bo23o, mv23o, nm23d, bo23d, mv23d, d_fr, fz_fr, isFr_fr, free_fr, d_ow, fz_ow, isFr_ow, free_ow, d_od, fz_od, isFr_od, free_od, d_bo, fz_bo, isFr_bo, free_bo, d_bd, fz_bd, isFr_bd, free_bd, w_add_i, w_add_s, w_add_l, w_add_t, w_sub, w_mul_i, w_mul_s, w_mul_l, w_mul_t, w_mod, w_fdv, w_pow, w_le_i, w_gt_i, w_ge_i, w_le_s, w_gt_s, w_ge_s, w_lt_i, w_lt_s, w_eq, w_ne, w_is_b, w_isN_b, w_in_l, w_nin_l, w_ix_l, w_ix_t, w_ix_s, w_sl_l, w_sl_t, w_sl_s, w_len_l, w_len_t, w_len_s, w_list_l, w_list_t, w_tuple_l, w_tuple_t, w_str, w_int_i, w_int_b, w_int_s, w_max2, w_max_l, w_min2, w_min_l, w_all, w_any, w_sorted_l, w_sorted_t, w_split, w_join, w_in_t, w_nin_t, w_in_ts, w_nin_ts, e_draw, e_cok_int, e_cok_bl, e_cok_str, List.map_cons, List.map_nil, List.all_cons, List.all_nil, List.length_cons, List.length_nil, List.getElem?_cons_zero, List.getElem?_cons_succ, List.set_cons_zero, List.set_cons_succ, retD, Tg.put, puts, wipeE, true_and, and_true, and_self, Bool.and_true, Bool.true_and, exists_eq_left', exists_eq_left, R.fr.injEq, R.ow.injEq, Option.some.injEq, D.bl.injEq, D.int.injEq, D.str.injEq, D.lst.injEq, D.tup.injEq, decide_eq_true_eq, if_true, exists_eq', Bool.not_true, Bool.not_false, ite_true, ite_false, if_false, Bool.false_eq_true]
    refine ⟨Nat.zero_le _, by omega, ?_, fun r r0 r1 => ⟨by omega, ?_⟩⟩
    · have : (m + 1).natAbs < 2 ^ 64 := by omega
      exact Nat.lt_of_lt_of_le this (Nat.pow_le_pow_right (by decide) (by decide))
    refine ⟨fun i ε => ∃ (ns : List Int) (k n : Option R), ns.Nodup ∧ ε = [some (.fr .tape), some (.fr (.int m)), some (.fr (.tup (ns.map .int))), k, n] ∧ ns.length ≤ i ∧ ∀ n ∈ ns, 0 < n ∧ n ≤ 99999999, ⟨[], none, none, List.nodup_nil, rfl, by simp, by simp⟩, ?_, ?_⟩
    · rintro i d ε hd ⟨ns, k, n, nd, rfl, hl, hn⟩
      have hi := (List.getElem?_eq_some_iff.mp hd).1
      rw [rngD_len] at hi
      refine ⟨_, rfl, ?_⟩
      try simp only [e_dSeq, e_dNext, e_dSet, e_dRet, e_dDrop, e_dIfS, e_dTgS, e_dC, e_dBin, e_dTst, e_dChn, e_dAnd, e_dOr, e_dNot, e_dAndV, e_dOrV, e_dNotV, e_dIf, e_dNil, e_dCons, e_dLst, e_dTup, e_dCB, e_dCall, e_dYes, e_dApp, e_dAug, e_dAugM, e_dIsi, e_dIsi2, e_dSl, e_dNoP, e_dPart, e_dM1, e_dFor, e_dLC, e_dIt, e_dRng1, e_dZipM, e_dRngN, e_dRev, e_dPar0, w_maxT, e_dSrtSet, e_dItS, e_dPar2, e_dPar3, e_par2, e_par3, e_dCallD, e_dCallK, e_dRng2, e_dEnum, e_dZip, nm0f, nm0o, nm0d, bo0f, bo0o, bo0d, mv0f, mv0o, mv0d, nm1f, nm1o, nm1d, bo1f, bo1o, bo1d, mv1f, mv1o, mv1d, nm2f, nm2o, nm2d, bo2f, bo2o, bo2d, mv2f, mv2o, mv2d, nm3f, nm3o, nm3d, bo3f, bo3o, bo3d, mv3f, mv3o, mv3d, nm4f, nm4o, nm4d, bo4f, bo4o, bo4d, mv4f, mv4o, mv4d, nm5f, nm5o, nm5d, bo5f, bo5o, bo5d, mv5f, mv5o, mv5d, nm6f, nm6o, nm6d, bo6f, bo6o, bo6d, mv6f, mv6o, mv6d, nm7f, nm7o, nm7d, bo7f, bo7o, bo7d, mv7f, mv7o, mv7d, nm8f, nm8o, nm8d, bo8f, bo8o, bo8d, mv8f, mv8o, mv8d, nm9f, nm9o, nm9d, bo9f, bo9o, bo9d, mv9f, mv9o, mv9d, nm10f, nm10o, nm10d, bo10f, bo10o, bo10d, mv10f, mv10o, mv10d, nm11f, nm11o, nm11d, bo11f, bo11o, bo11d, mv11f, mv11o, mv11d, nm12f, nm12o, nm12d, bo12f, bo12o, bo12d, mv12f, mv12o, mv12d, nm13f, nm13o, nm13d, bo13f, bo13o, bo13d, mv13f, mv13o, mv13d, nm14f, nm14o, nm14d, bo14f, bo14o, bo14d, mv14f, mv14o, mv14d, nm15f, nm15o, nm15d, bo15f, bo15o, bo15d, mv15f, mv15o, mv15d, nm16f, bo16f, mv16f, nm16o, bo16o, mv16o, nm16d, bo16d, mv16d, nm17f, bo17f, mv17f, nm17o, bo17o, mv17o, nm17d, bo17d, mv17d, nm18f, bo18f, mv18f, nm18o, bo18o, mv18o, nm18d, bo18d, mv18d, nm19f, bo19f, mv19f, nm19o, bo19o, mv19o, nm19d, bo19d, mv19d, nm20f, bo20f, mv20f, nm20o, bo20o, mv20o, nm20d, bo20d, mv20d, nm21f, bo21f, mv21f, nm21o, bo21o, mv21o, nm21d, bo21d, mv21d, nm22f, bo22f, mv22f, nm22o, bo22o, mv22o, nm22d, bo22d, mv22d, nm23f, bo23f, mv23f, nm23o, bo23o, mv23o, nm23d, bo23d, mv23d, d_fr, fz_fr, isFr_fr, free_fr, d_ow, fz_ow, isFr_ow, free_ow, d_od, fz_od, isFr_od, free_od, d_bo, fz_bo, isFr_bo, free_bo, d_bd, fz_bd, isFr_bd, free_bd, w_add_i, w_add_s, w_add_l, w_add_t, w_sub, w_mul_i, w_mul_s, w_mul_l, w_mul_t, w_mod, w_fdv, w_pow, w_le_i, w_gt_i, w_ge_i, w_le_s, w_gt_s, w_ge_s, w_lt_i, w_lt_s, w_eq, w_ne, w_is_b, w_isN_b, w_in_l, w_nin_l, w_ix_l, w_ix_t, w_ix_s, w_sl_l, w_sl_t, w_sl_s, w_len_l, w_len_t, w_len_s, w_list_l, w_list_t, w_tuple_l, w_tuple_t, w_str, w_int_i, w_int_b, w_int_s, w_max2, w_max_l, w_min2, w_min_l, w_all, w_any, w_sorted_l, w_sorted_t, w_split, w_join, w_in_t, w_nin_t, w_in_ts, w_nin_ts, e_draw, e_cok_int, e_cok_bl, e_cok_str, List.map_cons, List.map_nil, List.all_cons, List.all_nil, List.length_cons, List.length_nil, List.getElem?_cons_zero, List.getElem?_cons_succ, List.set_cons_zero, List.set_cons_succ, retD, Tg.put, puts, wipeE, true_and, and_true, and_self, Bool.and_true, Bool.true_and, exists_eq_left', exists_eq_left, R.fr.injEq, R.ow.injEq, Option.some.injEq, D.bl.injEq, D.int.injEq, D.str.injEq, D.lst.injEq, D.tup.injEq, decide_eq_true_eq, if_true, exists_eq', Bool.not_true, Bool.not_false, ite_true, ite_false, if_false, Bool.false_eq_true]
      refine ⟨(), rfl, trivial, ?_⟩
      rintro r ⟨x, rfl, x0, x1⟩
      try simp only [e_dSeq, e_dNext, e_dSet, e_dRet, e_dDrop, e_dIfS, e_dTgS, e_dC, e_dBin, e_dTst, e_dChn, e_dAnd, e_dOr, e_dNot, e_dAndV, e_dOrV, e_dNotV, e_dIf, e_dNil, e_dCons, e_dLst, e_dTup, e_dCB, e_dCall, e_dYes, e_dApp, e_dAug, e_dAugM, e_dIsi, e_dIsi2, e_dSl, e_dNoP, e_dPart, e_dM1, e_dFor, e_dLC, e_dIt, e_dRng1, e_dZipM, e_dRngN, e_dRev, e_dPar0, w_maxT, e_dSrtSet, e_dItS, e_dPar2, e_dPar3, e_par2, e_par3, e_dCallD, e_dCallK, e_dRng2, e_dEnum, e_dZip, nm0f, nm0o, nm0d, bo0f, bo0o, bo0d, mv0f, mv0o, mv0d, nm1f, nm1o, nm1d, bo1f, bo1o, bo1d, mv1f, mv1o, mv1d, nm2f, nm2o, nm2d, bo2f, bo2o, bo2d, mv2f, mv2o, mv2d, nm3f, nm3o, nm3d, bo3f, bo3o, bo3d, mv3f, mv3o, mv3d, nm4f, nm4o, nm4d, bo4f, bo4o, bo4d, mv4f, mv4o, mv4d, nm5f, nm5o, nm5d, bo5f, bo5o, bo5d, mv5f, mv5o, mv5d, nm6f, nm6o, nm6d, bo6f, bo6o, bo6d, mv6f, mv6o, mv6d, nm7f, nm7o, nm7d, bo7f, bo7o, bo7d, mv7f, mv7o, mv7d, nm8f, nm8o, nm8d, bo8f, bo8o, bo8d, mv8f, mv8o, mv8d, nm9f, nm9o, nm9d, bo9f, bo9o, bo9d, mv9f, mv9o, mv9d, nm10f, nm10o, nm10d, bo10f, bo10o, bo10d, mv10f, mv10o, mv10d, nm11f, nm11o, nm11d, bo11f, bo11o, bo11d, mv11f, mv11o, mv11d, nm12f, nm12o, nm12d, bo12f, bo12o, bo12d, mv12f, mv12o, mv12d, nm13f, nm13o, nm13d, bo13f, bo13o, bo13d, mv13f, mv13o, mv13d, nm14f, nm14o, nm14d, bo14f, bo14o, bo14d, mv14f, mv14o, mv14d, nm15f, nm15o, nm15d, bo15f, bo15o, bo15d, mv15f, mv15o, mv15d, nm16f, bo16f, mv16f, nm16o, bo16o, mv16o, nm16d, bo16d, mv16d, nm17f, bo17f, mv17f, nm17o, bo17o, mv17o, nm17d, bo17d, mv17d, nm18f, bo18f, mv18f, nm18o, bo18o, mv18o, nm18d, bo18d, mv18d, nm19f, bo19f, mv19f, nm19o, bo19o, mv19o, nm19d, bo19d, mv19d, nm20f, bo20f, mv20f, nm20o, bo20o, mv20o, nm20d, bo20d, mv20d, nm21f, bo21f, mv21f, nm21o, bo21o, mv21o, nm21d, bo21d, mv21d, nm22f, bo22f, mv22f, nm22o, bo22o, mv22o, nm22d, bo22d, mv22d, nm23f, bo23f, mv23f, nm23o, bo23o, mv23o, nm23d, bo23d, mv23d, d_fr, fz_fr, isFr_fr, free_fr, d_ow, fz_ow, isFr_ow, free_ow, d_od, fz_od, isFr_od, free_od, d_bo, fz_bo, isFr_bo, free_bo, d_bd, fz_bd, isFr_bd, free_bd, w_add_i, w_add_s, w_add_l, w_add_t, w_sub, w_mul_i, w_mul_s, w_mul_l, w_mul_t, w_mod, w_fdv, w_pow, w_le_i, w_gt_i, w_ge_i, w_le_s, w_gt_s, w_ge_s, w_lt_i, w_lt_s, w_eq, w_ne, w_is_b, w_isN_b, w_in_l, w_nin_l, w_ix_l, w_ix_t, w_ix_s, w_sl_l, w_sl_t, w_sl_s, w_len_l, w_len_t, w_len_s, w_list_l, w_list_t, w_tuple_l, w_tuple_t, w_str, w_int_i, w_int_b, w_int_s, w_max2, w_max_l, w_min2, w_min_l, w_all, w_any, w_sorted_l, w_sorted_t, w_split, w_join, w_in_t, w_nin_t, w_in_ts, w_nin_ts, e_draw, e_cok_int, e_cok_bl, e_cok_str, List.map_cons, List.map_nil, List.all_cons, List.all_nil, List.length_cons, List.length_nil, List.getElem?_cons_zero, List.getElem?_cons_succ, List.set_cons_zero, List.set_cons_succ, retD, Tg.put, puts, wipeE, true_and, and_true, and_self, Bool.and_true, Bool.true_and, exists_eq_left', exists_eq_left, R.fr.injEq, R.ow.injEq, Option.some.injEq, D.bl.injEq, D.int.injEq, D.str.injEq, D.lst.injEq, D.tup.injEq, decide_eq_true_eq, if_true, exists_eq', Bool.not_true, Bool.not_false, ite_true, ite_false, if_false, Bool.false_eq_true]
      refine ⟨rfl, flat_ints _, ?_⟩
      rw [any_ints]
      refine ite_k (fun hc => ⟨by decide, ?_, ns ++ [x], some (.fr d), some (.fr (.int x)), ?_, ?_, ?_, ?_⟩) fun hc => ⟨ns, some (.fr d), some (.fr (.int x)), nd, rfl, by omega, hn⟩
      · rw [sizeLine_eq, List.length_map]; omega
      · have hc : x ∉ ns := by simpa using hc
        rw [List.nodup_append]
        refine ⟨nd, by simp, fun a ha b hb e => ?_⟩
        rw [List.mem_singleton.mp hb] at e
        subst e
        exact hc ha
      · simp
      · rw [List.length_append]; simp; omega
      · intro y hy
        rcases List.mem_append.mp hy with h | h
        · exact hn y h
        · rw [List.mem_singleton.mp h]; exact ⟨x0, x1⟩
    · rintro ε ⟨ns, k, n, nd, rfl, hl, hn⟩
      rw [rngD_len] at hl
      try simp only [e_dSeq, e_dNext, e_dSet, e_dRet, e_dDrop, e_dIfS, e_dTgS, e_dC, e_dBin, e_dTst, e_dChn, e_dAnd, e_dOr, e_dNot, e_dAndV, e_dOrV, e_dNotV, e_dIf, e_dNil, e_dCons, e_dLst, e_dTup, e_dCB, e_dCall, e_dYes, e_dApp, e_dAug, e_dAugM, e_dIsi, e_dIsi2, e_dSl, e_dNoP, e_dPart, e_dM1, e_dFor, e_dLC, e_dIt, e_dRng1, e_dZipM, e_dRngN, e_dRev, e_dPar0, w_maxT, e_dSrtSet, e_dItS, e_dPar2, e_dPar3, e_par2, e_par3, e_dCallD, e_dCallK, e_dRng2, e_dEnum, e_dZip, nm0f, nm0o, nm0d, bo0f, bo0o, bo0d, mv0f, mv0o, mv0d, nm1f, nm1o, nm1d, bo1f, bo1o, bo1d, mv1f, mv1o, mv1d, nm2f, nm2o, nm2d, bo2f, bo2o, bo2d, mv2f, mv2o, mv2d, nm3f, nm3o, nm3d, bo3f, bo3o, bo3d, mv3f, mv3o, mv3d, nm4f, nm4o, nm4d, bo4f, bo4o, bo4d, mv4f, mv4o, mv4d, nm5f, nm5o, nm5d, bo5f, bo5o, bo5d, mv5f, mv5o, mv5d, nm6f, nm6o, nm6d, bo6f, bo6o, bo6d, mv6f, mv6o, mv6d, nm7f, nm7o, nm7d, bo7f, bo7o, bo7d, mv7f, mv7o, mv7d, nm8f, nm8o, nm8d, bo8f, bo8o, bo8d, mv8f, mv8o, mv8d, nm9f, nm9o, nm9d, bo9f, bo9o, bo9d, mv9f, mv9o, mv9d, nm10f, nm10o, nm10d, bo10f, bo10o, bo10d, mv10f, mv10o, mv10d, nm11f, nm11o, nm11d, bo11f, bo11o, bo11d, mv11f, mv11o, mv11d, nm12f, nm12o, nm12d, bo12f, bo12o, bo12d, mv12f, mv12o, mv12d, nm13f, nm13o, nm13d, bo13f, bo13o, bo13d, mv13f, mv13o, mv13d, nm14f, nm14o, nm14d, bo14f, bo14o, bo14d, mv14f, mv14o, mv14d, nm15f, nm15o, nm15d, bo15f, bo15o, bo15d, mv15f, mv15o, mv15d, nm16f, bo16f, mv16f, nm16o, bo16o, mv16o, nm16d, bo16d, mv16d, nm17f, bo17f, mv17f, nm17o, bo17o, mv17o, nm17d, bo17d, mv17d, nm18f, bo18f, mv18f, nm18o, bo18o, mv18o, nm18d, bo18d, mv18d, nm19f, bo19f, mv19f, nm19o, bo19o, mv19o, nm19d, bo19d, mv19d, nm20f, bo20f, mv20f, nm20o, bo20o, mv20o, nm20d, bo20d, mv20d, nm21f, bo21f, mv21f, nm21o, bo21o, mv21o, nm21d, bo21d, mv21d, nm22f, bo22f, mv22f, nm22o, bo22o, mv22o, nm22d, bo22d, mv22d, nm23f, bo23f, mv23f, nm23o, bo23o, mv23o, nm23d, bo23d, mv23d, d_fr, fz_fr, isFr_fr, free_fr, d_ow, fz_ow, isFr_ow, free_ow, d_od, fz_od, isFr_od, free_od, d_bo, fz_bo, isFr_bo, free_bo, d_bd, fz_bd, isFr_bd, free_bd, w_add_i, w_add_s, w_add_l, w_add_t, w_sub, w_mul_i, w_mul_s, w_mul_l, w_mul_t, w_mod, w_fdv, w_pow, w_le_i, w_gt_i, w_ge_i, w_le_s, w_gt_s, w_ge_s, w_lt_i, w_lt_s, w_eq, w_ne, w_is_b, w_isN_b, w_in_l, w_nin_l, w_ix_l, w_ix_t, w_ix_s, w_sl_l, w_sl_t, w_sl_s, w_len_l, w_len_t, w_len_s, w_list_l, w_list_t, w_tuple_l, w_tuple_t, w_str, w_int_i, w_int_b, w_int_s, w_max2, w_max_l, w_min2, w_min_l, w_all, w_any, w_sorted_l, w_sorted_t, w_split, w_join, w_in_t, w_nin_t, w_in_ts, w_nin_ts, e_draw, e_cok_int, e_cok_bl, e_cok_str, List.map_cons, List.map_nil, List.all_cons, List.all_nil, List.length_cons, List.length_nil, List.getElem?_cons_zero, List.getElem?_cons_succ, List.set_cons_zero, List.set_cons_succ, retD, Tg.put, puts, wipeE, true_and, and_true, and_self, Bool.and_true, Bool.true_and, exists_eq_left', exists_eq_left, R.fr.injEq, R.ow.injEq, Option.some.injEq, D.bl.injEq, D.int.injEq, D.str.injEq, D.lst.injEq, D.tup.injEq, decide_eq_true_eq, if_true, exists_eq', Bool.not_true, Bool.not_false, ite_true, ite_false, if_false, Bool.false_eq_true]
      exact q _ ⟨ns, rfl, by omega, nd, hn⟩
theorem cal__law_least {f : Addr} {fd : FuncData} {k : Nat} (F : Fun K "_law_least" "_law_least" s__law_least f fd) (b : Binds K fd ["values"] []) (m : mg "_law_least" = some (.ref f)) (kp : PySem.W.keepIn K (.ref f) = true) (B : Bl mg) : Cal P w K mg base (k + 1) "_law_least" ["values"] f fd sp__law_least := by
  refine ⟨fn_dl F sc__law_least (fun ds Q h => ?len) fun cdv A outer s H E hr => ?body, ?mono, m, kp, b⟩
  case len =>
    obtain ⟨x, rfl, -⟩ := h; rfl
  case mono =>
    exact SP_mono
  case body =>
    have hu64 := hr.units; have hu100 : (A.deeper (envOfC "_law_least" (defScope s__law_least) s.heap.objs.size f cdv)).units + 100 < cLine := by have := hr.un; omega
    have hu65 : (A.deeper (envOfC "_law_least" (defScope s__law_least) s.heap.objs.size f cdv)).units + 65 < cLine := by omega
    have hu1 : (A.deeper (envOfC "_law_least" (defScope s__law_least) s.heap.objs.size f cdv)).units + 1 < cLine := by omega
    refine ⟨_, (qss_cons (qs_for PassesOwn.never rfl (qi_seq (qe_callB (cd_sorted hu100) (by rfl) B.b_sorted bt_sorted (qa_cons (qe_bo (i := 0)) qa_nil))) (qg_nm (i := 1) sc__law_least.nd)
    (qss_cons (qs_setLc (i := 2) [("other", 3)] rfl sc__law_least.nd (qi_seq (qe_callB (cd_sorted hu100) (by rfl) B.b_sorted bt_sorted (qa_cons (qe_bo (i := 0)) qa_nil))) (blkOk_by (by rfl)) (fun s H C cl fp => (qg_nm (i := 3) sc__law_least.nd)) (fun s H C cl fp => (qts_one (qt_cmp opd_ge (qe_bo (i := 3)) (qe_bo (i := 1)) (by rfl)))) (fun s H C cl fp => (qe_callTy cd_str (by rfl) B.b_str bt_str (qa_cons (qe_bo (i := 3)) qa_nil))) (sw_true rfl rfl rfl (by decide +kernel)))
    (qss_one (qs_if (qt_cmp (opd_eq hu64) (qe_bo (i := 2)) (qe_callB (cd_sorted hu100) (by rfl) B.b_sorted bt_sorted (qa_cons (qe_bo (i := 2)) qa_nil)) (by rfl))
    (qss_one (qs_ret (qe_mv (i := 1))))
    qss_nil))))
    (qss_one (qs_ret qe_int))), fun ds Q h => ?_⟩
    obtain ⟨vs, rfl, ⟨ne, nd, hl, hn⟩, q⟩ := h
    show (_ : TSd) (retD Q) [some (.fr (.tup (vs.map .int))), none, none, none]
    try simp only [e_dSeq, e_dNext, e_dSet, e_dRet, e_dDrop, e_dIfS, e_dTgS, e_dC, e_dBin, e_dTst, e_dChn, e_dAnd, e_dOr, e_dNot, e_dAndV, e_dOrV, e_dNotV, e_dIf, e_dNil, e_dCons, e_dLst, e_dTup, e_dCB, e_dCall, e_dYes, e_dApp, e_dAug, e_dAugM, e_dIsi, e_dIsi2, e_dSl, e_dNoP, e_dPart, e_dM1, e_dFor, e_dLC, e_dIt, e_dRng1, e_dZipM, e_dRngN, e_dRev, e_dPar0, w_maxT, e_dSrtSet, e_dItS, e_dPar2, e_dPar3, e_par2, e_par3, e_dCallD, e_dCallK, e_dRng2, e_dEnum, e_dZip, nm0f, nm0o, nm0d, bo0f, bo0o, bo0d, mv0f, mv0o, mv0d, nm1f, nm1o, nm1d, bo1f, bo1o, bo1d, mv1f, mv1o, mv1d, nm2f, nm2o, nm2d, bo2f, bo2o, bo2d, mv2f, mv2o, mv2d, nm3f, nm3o, nm3d, bo3f, bo3o, bo3d, mv3f, mv3o, mv3d, nm4f, nm4o, nm4d, bo4f, bo4o, bo4d, mv4f, mv4o, mv4d, nm5f, nm5o, nm5d, bo5f, bo5o, bo5d, mv5f, mv5o, mv5d, nm6f, nm6o, nm6d, bo6f, bo6o, bo6d, mv6f, mv6o, mv6d, nm7f, nm7o, nm7d, bo7f, bo7o, bo7d, mv7f, mv7o, mv7d, nm8f, nm8o, nm8d, bo8f, bo8o, bo8d, mv8f, mv8o, mv8d, nm9f, nm9o, nm9d, bo9f, bo9o, bo9d, mv9f, mv9o, mv9d, nm10f, nm10o, nm10d, bo10f, bo10o, bo10d, mv10f, mv10o, mv10d, nm11f, nm11o, nm11d, bo11f, bo11o, bo11d, mv11f, mv11o, mv11d, nm12f, nm12o, nm12d, bo12f, bo12o, bo12d, mv12f, mv12o, mv12d, nm13f, nm13o, nm13d, bo13f, bo13o, bo13d, mv13f, mv13o, mv13d, nm14f, nm14o, nm14d, bo14f, bo14o, bo14d, mv14f, mv14o, mv14d, nm15f, nm15o, nm15d, bo15f, bo15o, bo15d, mv15f, mv15o, mv15d, nm16f, bo16f, mv16f, nm16o, bo16o, mv16o, nm16d, bo16d, mv16d, nm17f, bo17f, mv17f, nm17o, bo17o, mv17o, nm17d, bo17d, mv17d, nm18f, bo18f, mv18f, nm18o, bo18o, mv18o, nm18d, bo18d, mv18d, nm19f, bo19f, mv19f, nm19o, bo19o, mv19o, nm19d, bo19d, mv19d, nm20f, bo20f, mv20f, nm20o, bo20o, mv20o, nm20d, bo20d, mv20d, nm21f, bo21f, mv21f, nm21o, bo21o, mv21o, nm21d, bo21d, mv21d, nm22f, bo22f, mv22f, nm22o, bo22o, mv22o, nm22d, bo22d, mv22d, nm23f, bo23f, mv23f, nm23o, bo23o, mv23o, nm23d, bo23d, mv23d, d_fr, fz_fr, isFr_fr, free_fr, d_ow, fz_ow, isFr_ow, free_ow, d_od, fz_od, isFr_od, free_od, d_bo, fz_bo, isFr_bo, free_bo, d_bd, fz_bd, isFr_bd, free_bd, w_add_i, w_add_s, w_add_l, w_add_t, w_sub, w_mul_i, w_mul_s, w_mul_l, w_mul_t, w_mod, w_fdv, w_pow, w_le_i, w_gt_i, w_ge_i, w_le_s, w_gt_s, w_ge_s, w_lt_i, w_lt_s, w_eq, w_ne, w_is_b, w_isN_b, w_in_l, w_nin_l, w_ix_l, w_ix_t, w_ix_s, w_sl_l, w_sl_t, w_sl_s, w_len_l, w_len_t, w_len_s, w_list_l, w_list_t, w_tuple_l, w_tuple_t, w_str, w_int_i, w_int_b, w_int_s, w_max2, w_max_l, w_min2, w_min_l, w_all, w_any, w_sorted_l, w_sorted_t, w_split, w_join, w_in_t, w_nin_t, w_in_ts, w_nin_ts, e_draw, e_cok_int, e_cok_bl, e_cok_str, List.map_cons, List.map_nil, List.all_cons, List.all_nil, List.length_cons, List.length_nil, List.getElem?_cons_zero, List.getElem?_cons_succ, List.set_cons_zero, List.set_cons_succ, retD, Tg.put, puts, wipeE, true_and, and_true, and_self, Bool.and_true, Bool.true_and, exists_eq_left', exists_eq_left, R.fr.injEq, R.ow.injEq, Option.some.injEq, D.bl.injEq, D.int.injEq, D.str.injEq, D.lst.injEq, D.tup.injEq, decide_eq_true_eq, if_true, exists_eq', Bool.not_true, Bool.not_false, ite_true, ite_false, if_false, Bool.false_eq_true]
    rw [sort_ints]
    refine ⟨srt_ints _, ?_⟩
    have el : (vs.mergeSort fun a b => decide (a ≤ b)) = isort vs := rfl
    rw [el]
    have hil : (isort vs).length = vs.length := (isort_perm vs).length_eq
    have hpos : 0 < vs.length := List.length_pos_iff.mpr ne
    have num : ∀ n ∈ isort vs, Num n := fun n h => hn n ((isort_perm vs).mem_iff.mp h)
    have st := isort_strict nd
    refine for_takeF (fun pre ε => ∃ x1 x2 : Option R, (pre ≠ [] → ¬ RS ((isort vs).drop (pre.length - 1))) ∧ ε = [some (.fr (.tup (vs.map .int))), x1, x2, none]) ⟨none, none, fun h => absurd rfl h, rfl⟩ (fun pre x hx ε hI => ?_) (fun ε hI => ?_)
    · obtain ⟨x1, x2, hno, rfl⟩ := hI
      obtain ⟨post, hpost⟩ := hx
      have hk : pre.length < (isort vs).length := by rw [hpost]; simp
      have ex : x = (isort vs)[pre.length] := by simp [hpost]
      refine ⟨_, rfl, ?_⟩
      try simp only [e_dSeq, e_dNext, e_dSet, e_dRet, e_dDrop, e_dIfS, e_dTgS, e_dC, e_dBin, e_dTst, e_dChn, e_dAnd, e_dOr, e_dNot, e_dAndV, e_dOrV, e_dNotV, e_dIf, e_dNil, e_dCons, e_dLst, e_dTup, e_dCB, e_dCall, e_dYes, e_dApp, e_dAug, e_dAugM, e_dIsi, e_dIsi2, e_dSl, e_dNoP, e_dPart, e_dM1, e_dFor, e_dLC, e_dIt, e_dRng1, e_dZipM, e_dRngN, e_dRev, e_dPar0, w_maxT, e_dSrtSet, e_dItS, e_dPar2, e_dPar3, e_par2, e_par3, e_dCallD, e_dCallK, e_dRng2, e_dEnum, e_dZip, nm0f, nm0o, nm0d, bo0f, bo0o, bo0d, mv0f, mv0o, mv0d, nm1f, nm1o, nm1d, bo1f, bo1o, bo1d, mv1f, mv1o, mv1d, nm2f, nm2o, nm2d, bo2f, bo2o, bo2d, mv2f, mv2o, mv2d, nm3f, nm3o, nm3d, bo3f, bo3o, bo3d, mv3f, mv3o, mv3d, nm4f, nm4o, nm4d, bo4f, bo4o, bo4d, mv4f, mv4o, mv4d, nm5f, nm5o, nm5d, bo5f, bo5o, bo5d, mv5f, mv5o, mv5d, nm6f, nm6o, nm6d, bo6f, bo6o, bo6d, mv6f, mv6o, mv6d, nm7f, nm7o, nm7d, bo7f, bo7o, bo7d, mv7f, mv7o, mv7d, nm8f, nm8o, nm8d, bo8f, bo8o, bo8d, mv8f, mv8o, mv8d, nm9f, nm9o, nm9d, bo9f, bo9o, bo9d, mv9f, mv9o, mv9d, nm10f, nm10o, nm10d, bo10f, bo10o, bo10d, mv10f, mv10o, mv10d, nm11f, nm11o, nm11d, bo11f, bo11o, bo11d, mv11f, mv11o, mv11d, nm12f, nm12o, nm12d, bo12f, bo12o, bo12d, mv12f, mv12o, mv12d, nm13f, nm13o, nm13d, bo13f, bo13o, bo13d, mv13f, mv13o, mv13d, nm14f, nm14o, nm14d, bo14f, bo14o, bo14d, mv14f, mv14o, mv14d, nm15f, nm15o, nm15d, bo15f, bo15o, bo15d, mv15f, mv15o, mv15d, nm16f, bo16f, mv16f, nm16o, bo16o, mv16o, nm16d, bo16d, mv16d, nm17f, bo17f, mv17f, nm17o, bo17o, mv17o, nm17d, bo17d, mv17d, nm18f, bo18f, mv18f, nm18o, bo18o, mv18o, nm18d, bo18d, mv18d, nm19f, bo19f, mv19f, nm19o, bo19o, mv19o, nm19d, bo19d, mv19d, nm20f, bo20f, mv20f, nm20o, bo20o, mv20o, nm20d, bo20d, mv20d, nm21f, bo21f, mv21f, nm21o, bo21o, mv21o, nm21d, bo21d, mv21d, nm22f, bo22f, mv22f, nm22o, bo22o, mv22o, nm22d, bo22d, mv22d, nm23f, bo23f, mv23f, nm23o, bo23o, mv23o, nm23d, bo23d, mv23d, d_fr, fz_fr, isFr_fr, free_fr, d_ow, fz_ow, isFr_ow, free_ow, d_od, fz_od, isFr_od, free_od, d_bo, fz_bo, isFr_bo, free_bo, d_bd, fz_bd, isFr_bd, free_bd, w_add_i, w_add_s, w_add_l, w_add_t, w_sub, w_mul_i, w_mul_s, w_mul_l, w_mul_t, w_mod, w_fdv, w_pow, w_le_i, w_gt_i, w_ge_i, w_le_s, w_gt_s, w_ge_s, w_lt_i, w_lt_s, w_eq, w_ne, w_is_b, w_isN_b, w_in_l, w_nin_l, w_ix_l, w_ix_t, w_ix_s, w_sl_l, w_sl_t, w_sl_s, w_len_l, w_len_t, w_len_s, w_list_l, w_list_t, w_tuple_l, w_tuple_t, w_str, w_int_i, w_int_b, w_int_s, w_max2, w_max_l, w_min2, w_min_l, w_all, w_any, w_sorted_l, w_sorted_t, w_split, w_join, w_in_t, w_nin_t, w_in_ts, w_nin_ts, e_draw, e_cok_int, e_cok_bl, e_cok_str, List.map_cons, List.map_nil, List.all_cons, List.all_nil, List.length_cons, List.length_nil, List.getElem?_cons_zero, List.getElem?_cons_succ, List.set_cons_zero, List.set_cons_succ, retD, Tg.put, puts, wipeE, true_and, and_true, and_self, Bool.and_true, Bool.true_and, exists_eq_left', exists_eq_left, R.fr.injEq, R.ow.injEq, Option.some.injEq, D.bl.injEq, D.int.injEq, D.str.injEq, D.lst.injEq, D.tup.injEq, decide_eq_true_eq, if_true, exists_eq', Bool.not_true, Bool.not_false, ite_true, ite_false, if_false, Bool.false_eq_true]
      rw [sort_ints]
      refine ⟨srt_ints _, ?_⟩
      rw [el]
      refine comp_filterF (fun v => decide (x ≤ v)) (fun v => .str (istr v)) rfl (fun v hv P hP => ?_) ?_
      · refine ⟨_, rfl, ?_⟩
        try simp only [e_dSeq, e_dNext, e_dSet, e_dRet, e_dDrop, e_dIfS, e_dTgS, e_dC, e_dBin, e_dTst, e_dChn, e_dAnd, e_dOr, e_dNot, e_dAndV, e_dOrV, e_dNotV, e_dIf, e_dNil, e_dCons, e_dLst, e_dTup, e_dCB, e_dCall, e_dYes, e_dApp, e_dAug, e_dAugM, e_dIsi, e_dIsi2, e_dSl, e_dNoP, e_dPart, e_dM1, e_dFor, e_dLC, e_dIt, e_dRng1, e_dZipM, e_dRngN, e_dRev, e_dPar0, w_maxT, e_dSrtSet, e_dItS, e_dPar2, e_dPar3, e_par2, e_par3, e_dCallD, e_dCallK, e_dRng2, e_dEnum, e_dZip, nm0f, nm0o, nm0d, bo0f, bo0o, bo0d, mv0f, mv0o, mv0d, nm1f, nm1o, nm1d, bo1f, bo1o, bo1d, mv1f, mv1o, mv1d, nm2f, nm2o, nm2d, bo2f, bo2o, bo2d, mv2f, mv2o, mv2d, nm3f, nm3o, nm3d, bo3f, bo3o, bo3d, mv3f, mv3o, mv3d, nm4f, nm4o, nm4d, bo4f, bo4o, bo4d, mv4f, mv4o, mv4d, nm5f, nm5o, nm5d, bo5f, bo5o, bo5d, mv5f, mv5o, mv5d, nm6f, nm6o, nm6d, bo6f, bo6o, bo6d, mv6f, mv6o, mv6d, nm7f, nm7o, nm7d, bo7f, bo7o, bo7d, mv7f, mv7o, mv7d, nm8f, nm8o, nm8d, bo8f, bo8o, bo8d, mv8f, mv8o, mv8d, nm9f, nm9o, nm9d, bo9f, bo9o, bo9d, mv9f, mv9o, mv9d, nm10f, nm10o, nm10d, bo10f, bo10o, bo10d, mv10f, mv10o, mv10d, nm11f, nm11o, nm11d, bo11f, bo11o, bo11d, mv11f, mv11o, mv11d, nm12f, nm12o, nm12d, bo12f, bo12o, bo12d, mv12f, mv12o, mv12d, nm13f, nm13o, nm13d, bo13f, bo13o, bo13d, mv13f, mv13o, mv13d, nm14f, nm14o, nm14d, bo14f, bo14o, bo14d, mv14f, mv14o, mv14d, nm15f, nm15o, nm15d, bo15f, bo15o, bo15d, mv15f, mv15o, mv15d, nm16f, bo16f, mv16f, nm16o, bo16o, mv16o, nm16d, bo16d, mv16d, nm17f, bo17f, mv17f, nm17o, bo17o, mv17o, nm17d, bo17d, mv17d, nm18f, bo18f, mv18f, nm18o, bo18o, mv18o, nm18d, bo18d, mv18d, nm19f, bo19f, mv19f, nm19o, bo19o, mv19o, nm19d, bo19d, mv19d, nm20f, bo20f, mv20f, nm20o, bo20o, mv20o, nm20d, bo20d, mv20d, nm21f, bo21f, mv21f, nm21o, bo21o, mv21o, nm21d, bo21d, mv21d, nm22f, bo22f, mv22f, nm22o, bo22o, mv22o, nm22d, bo22d, mv22d, nm23f, bo23f, mv23f, nm23o, bo23o, mv23o, nm23d, bo23d, mv23d, d_fr, fz_fr, isFr_fr, free_fr, d_ow, fz_ow, isFr_ow, free_ow, d_od, fz_od, isFr_od, free_od, d_bo, fz_bo, isFr_bo, free_bo, d_bd, fz_bd, isFr_bd, free_bd, w_add_i, w_add_s, w_add_l, w_add_t, w_sub, w_mul_i, w_mul_s, w_mul_l, w_mul_t, w_mod, w_fdv, w_pow, w_le_i, w_gt_i, w_ge_i, w_le_s, w_gt_s, w_ge_s, w_lt_i, w_lt_s, w_eq, w_ne, w_is_b, w_isN_b, w_in_l, w_nin_l, w_ix_l, w_ix_t, w_ix_s, w_sl_l, w_sl_t, w_sl_s, w_len_l, w_len_t, w_len_s, w_list_l, w_list_t, w_tuple_l, w_tuple_t, w_str, w_int_i, w_int_b, w_int_s, w_max2, w_max_l, w_min2, w_min_l, w_all, w_any, w_sorted_l, w_sorted_t, w_split, w_join, w_in_t, w_nin_t, w_in_ts, w_nin_ts, e_draw, e_cok_int, e_cok_bl, e_cok_str, List.map_cons, List.map_nil, List.all_cons, List.all_nil, List.length_cons, List.length_nil, List.getElem?_cons_zero, List.getElem?_cons_succ, List.set_cons_zero, List.set_cons_succ, retD, Tg.put, puts, wipeE, true_and, and_true, and_self, Bool.and_true, Bool.true_and, exists_eq_left', exists_eq_left, R.fr.injEq, R.ow.injEq, Option.some.injEq, D.bl.injEq, D.int.injEq, D.str.injEq, D.lst.injEq, D.tup.injEq, decide_eq_true_eq, if_true, exists_eq', Bool.not_true, Bool.not_false, ite_true, ite_false, if_false, Bool.false_eq_true]
        refine ite_k (fun c => ⟨log_small (num v hv), ?_⟩) fun c => ?_
        · simpa [c] using hP
        · simpa [c] using hP
      have ef : (isort vs).filter (fun v => decide (x ≤ v)) = (isort vs).drop pre.length := by rw [ex]; exact filter_drop st hk
      have es : (((isort vs).drop pre.length).map fun v => D.str (istr v)) = (((isort vs).drop pre.length).map istr).map D.str := by rw [List.map_map]; rfl
      rw [ef, es]
      try simp only [e_dSeq, e_dNext, e_dSet, e_dRet, e_dDrop, e_dIfS, e_dTgS, e_dC, e_dBin, e_dTst, e_dChn, e_dAnd, e_dOr, e_dNot, e_dAndV, e_dOrV, e_dNotV, e_dIf, e_dNil, e_dCons, e_dLst, e_dTup, e_dCB, e_dCall, e_dYes, e_dApp, e_dAug, e_dAugM, e_dIsi, e_dIsi2, e_dSl, e_dNoP, e_dPart, e_dM1, e_dFor, e_dLC, e_dIt, e_dRng1, e_dZipM, e_dRngN, e_dRev, e_dPar0, w_maxT, e_dSrtSet, e_dItS, e_dPar2, e_dPar3, e_par2, e_par3, e_dCallD, e_dCallK, e_dRng2, e_dEnum, e_dZip, nm0f, nm0o, nm0d, bo0f, bo0o, bo0d, mv0f, mv0o, mv0d, nm1f, nm1o, nm1d, bo1f, bo1o, bo1d, mv1f, mv1o, mv1d, nm2f, nm2o, nm2d, bo2f, bo2o, bo2d, mv2f, mv2o, mv2d, nm3f, nm3o, nm3d, bo3f, bo3o, bo3d, mv3f, mv3o, mv3d, nm4f, nm4o, nm4d, bo4f, bo4o, bo4d, mv4f, mv4o, mv4d, nm5f, nm5o, nm5d, bo5f, bo5o, bo5d, mv5f, mv5o, mv5d, nm6f, nm6o, nm6d, bo6f, bo6o, bo6d, mv6f, mv6o, mv6d, nm7f, nm7o, nm7d, bo7f, bo7o, bo7d, mv7f, mv7o, mv7d, nm8f, nm8o, nm8d, bo8f, bo8o, bo8d, mv8f, mv8o, mv8d, nm9f, nm9o, nm9d, bo9f, bo9o, bo9d, mv9f, mv9o, mv9d, nm10f, nm10o, nm10d, bo10f, bo10o, bo10d, mv10f, mv10o, mv10d, nm11f, nm11o, nm11d, bo11f, bo11o, bo11d, mv11f, mv11o, mv11d, nm12f, nm12o, nm12d, bo12f, bo12o, bo12d, mv12f, mv12o, mv12d, nm13f, nm13o, nm13d, bo13f, bo13o, bo13d, mv13f, mv13o, mv13d, nm14f, nm14o, nm14d, bo14f, bo14o, bo14d, mv14f, mv14o, mv14d, nm15f, nm15o, nm15d, bo15f, bo15o, bo15d, mv15f, mv15o, mv15d, nm16f, bo16f, mv16f, nm16o, bo16o, mv16o, nm16d, bo16d, mv16d, nm17f, bo17f, mv17f, nm17o, bo17o, mv17o, nm17d, bo17d, mv17d, nm18f, bo18f, mv18f, nm18o, bo18o, mv18o, nm18d, bo18d, mv18d, nm19f, bo19f, mv19f, nm19o, bo19o, mv19o, nm19d, bo19d, mv19d, nm20f, bo20f, mv20f, nm20o, bo20o, mv20o, nm20d, bo20d, mv20d, nm21f, bo21f, mv21f, nm21o, bo21o, mv21o, nm21d, bo21d, mv21d, nm22f, bo22f, mv22f, nm22o, bo22o, mv22o, nm22d, bo22d, mv22d, nm23f, bo23f, mv23f, nm23o, bo23o, mv23o, nm23d, bo23d, mv23d, d_fr, fz_fr, isFr_fr, free_fr, d_ow, fz_ow, isFr_ow, free_ow, d_od, fz_od, isFr_od, free_od, d_bo, fz_bo, isFr_bo, free_bo, d_bd, fz_bd, isFr_bd, free_bd, w_add_i, w_add_s, w_add_l, w_add_t, w_sub, w_mul_i, w_mul_s, w_mul_l, w_mul_t, w_mod, w_fdv, w_pow, w_le_i, w_gt_i, w_ge_i, w_le_s, w_gt_s, w_ge_s, w_lt_i, w_lt_s, w_eq, w_ne, w_is_b, w_isN_b, w_in_l, w_nin_l, w_ix_l, w_ix_t, w_ix_s, w_sl_l, w_sl_t, w_sl_s, w_len_l, w_len_t, w_len_s, w_list_l, w_list_t, w_tuple_l, w_tuple_t, w_str, w_int_i, w_int_b, w_int_s, w_max2, w_max_l, w_min2, w_min_l, w_all, w_any, w_sorted_l, w_sorted_t, w_split, w_join, w_in_t, w_nin_t, w_in_ts, w_nin_ts, e_draw, e_cok_int, e_cok_bl, e_cok_str, List.map_cons, List.map_nil, List.all_cons, List.all_nil, List.length_cons, List.length_nil, List.getElem?_cons_zero, List.getElem?_cons_succ, List.set_cons_zero, List.set_cons_succ, retD, Tg.put, puts, wipeE, true_and, and_true, and_self, Bool.and_true, Bool.true_and, exists_eq_left', exists_eq_left, R.fr.injEq, R.ow.injEq, Option.some.injEq, D.bl.injEq, D.int.injEq, D.str.injEq, D.lst.injEq, D.tup.injEq, decide_eq_true_eq, if_true, exists_eq', Bool.not_true, Bool.not_false, ite_true, ite_false, if_false, Bool.false_eq_true]
      rw [sort_strs]
      have hch : ∀ l ∈ ((isort vs).drop pre.length).map istr, chs l := fun l hl => by
        obtain ⟨n, hn', rfl⟩ := List.mem_map.mp hl
        exact istr_chs (num n (List.mem_of_mem_drop hn')).1
      have hch2 : ∀ l ∈ (((isort vs).drop pre.length).map istr).mergeSort (fun a b => decide (a ≤ b)), chs l := fun l hl => hch l ((ssort_perm _).mem_iff.mp hl)
      refine ⟨srt_strs hch, shp_strs hch, shp_strs hch2, ?_⟩
      have ndS : (((isort vs).drop pre.length).map istr).Nodup := by
        rw [List.Nodup, List.pairwise_map]
        refine (List.Pairwise.and_mem.mp (st.sublist (List.drop_sublist _ _))).imp fun {a b} ⟨ha, hb, h⟩ e => ?_
        have := istr_inj (num a (List.mem_of_mem_drop ha)).1 (num b (List.mem_of_mem_drop hb)).1 e
        omega
      have key : (((isort vs).drop pre.length).map istr = (((isort vs).drop pre.length).map istr).mergeSort fun a b => decide (a ≤ b)) ↔ RS ((isort vs).drop pre.length) := (ssort_iff _).trans (pw_strict ndS).symm
      refine ite_k (fun c => ?_) fun c => ?_
      · have hrs := key.mp (of_decide_eq_true ((eqv_strs _ _).symm.trans c))
        refine q _ ⟨pre.length, x, rfl, ⟨hk, hrs, ?_⟩, by rw [ex]; exact List.getElem?_eq_getElem hk⟩
        by_cases h0 : pre.length = 0
        · exact .inl h0
        · refine .inr fun hlt => hno (fun e => h0 (by rw [e]; rfl)) ?_
          obtain ⟨m, hm⟩ : ∃ m, pre.length = m + 1 := ⟨pre.length - 1, by omega⟩
          simp only [hm, Nat.add_sub_cancel] at hlt hrs hk ⊢
          exact rs_step hk hrs hlt
      · have hrs : ¬ RS ((isort vs).drop pre.length) := fun h => c ((eqv_strs _ _).trans (decide_eq_true (key.mpr h)))
        exact ⟨_, _, fun _ => by rw [List.length_append]; exact hrs, rfl⟩
    · obtain ⟨x1, x2, hno, rfl⟩ := hI
      refine absurd ?_ (hno (List.length_pos_iff.mp (by omega)))
      rw [List.drop_eq_getElem_cons (by omega), List.drop_of_length_le (by omega)]
      exact List.pairwise_singleton _ _
theorem cal__law_rule {f : Addr} {fd : FuncData} {k : Nat} (F : Fun K "_law_rule" "_law_rule" s__law_rule f fd) (b : Binds K fd ["values"] []) (m : mg "_law_rule" = some (.ref f)) (kp : PySem.W.keepIn K (.ref f) = true) (B : Bl mg) : Cal P w K mg base (k + 1) "_law_rule" ["values"] f fd sp__law_rule := by
  refine ⟨fn_dl F sc__law_rule (fun ds Q h => ?len) fun cdv A outer s H E hr => ?body, ?mono, m, kp, b⟩
  case len =>
    obtain ⟨x, rfl, -⟩ := h; rfl
  case mono =>
    exact SP_mono
  case body =>
    have hu64 := hr.units; have hu100 : (A.deeper (envOfC "_law_rule" (defScope s__law_rule) s.heap.objs.size f cdv)).units + 100 < cLine := by have := hr.un; omega
    have hu65 : (A.deeper (envOfC "_law_rule" (defScope s__law_rule) s.heap.objs.size f cdv)).units + 65 < cLine := by omega
    have hu1 : (A.deeper (envOfC "_law_rule" (defScope s__law_rule) s.heap.objs.size f cdv)).units + 1 < cLine := by omega
    refine ⟨_, (qss_cons (qs_for PassesOwn.never rfl (qi_seq (qe_nm (i := 0))) (qg_nm (i := 1) sc__law_rule.nd)
    (qss_one (qs_for PassesOwn.never rfl (qi_seq (qe_nm (i := 0))) (qg_nm (i := 2) sc__law_rule.nd)
    (qss_one (qs_if (qw_and (qt_cmp opd_gt (qe_callB cd_len (by rfl) B.b_len bt_len (qa_cons (qe_callTy cd_str (by rfl) B.b_str bt_str (qa_cons (qe_bo (i := 2)) qa_nil)) qa_nil)) (qe_callB cd_len (by rfl) B.b_len bt_len (qa_cons (qe_callTy cd_str (by rfl) B.b_str bt_str (qa_cons (qe_bo (i := 1)) qa_nil)) qa_nil)) (by rfl)) (qw_and1 (qt_cmp opd_gt (qe_bo (i := 1)) (qe_callTy cd_int (by rfl) B.b_int bt_int (qa_cons (qe_sl (qe_callTy cd_str (by rfl) B.b_str bt_str (qa_cons (qe_bo (i := 2)) qa_nil)) qo_none (qo_some (qe_callB cd_len (by rfl) B.b_len bt_len (qa_cons (qe_callTy cd_str (by rfl) B.b_str bt_str (qa_cons (qe_bo (i := 1)) qa_nil)) qa_nil)))) qa_nil)) (by rfl)))).qt
    (qss_one (qs_ret qe_bl))
    qss_nil)))))
    (qss_one (qs_ret qe_bl))), fun ds Q h => ?_⟩
    obtain ⟨⟨t, vs⟩, rfl, hn, q⟩ := h
    dsimp only at hn q
    cases t with
    | true =>
      show (_ : TSd) (retD Q) [some (.fr (.tup (vs.map .int))), none, none]
      try simp only [e_dSeq, e_dNext, e_dSet, e_dRet, e_dDrop, e_dIfS, e_dTgS, e_dC, e_dBin, e_dTst, e_dChn, e_dAnd, e_dOr, e_dNot, e_dAndV, e_dOrV, e_dNotV, e_dIf, e_dNil, e_dCons, e_dLst, e_dTup, e_dCB, e_dCall, e_dYes, e_dApp, e_dAug, e_dAugM, e_dIsi, e_dIsi2, e_dSl, e_dNoP, e_dPart, e_dM1, e_dFor, e_dLC, e_dIt, e_dRng1, e_dZipM, e_dRngN, e_dRev, e_dPar0, w_maxT, e_dSrtSet, e_dItS, e_dPar2, e_dPar3, e_par2, e_par3, e_dCallD, e_dCallK, e_dRng2, e_dEnum, e_dZip, nm0f, nm0o, nm0d, bo0f, bo0o, bo0d, mv0f, mv0o, mv0d, nm1f, nm1o, nm1d, bo1f, bo1o, bo1d, mv1f, mv1o, mv1d, nm2f, nm2o, nm2d, bo2f, bo2o, bo2d, mv2f, mv2o, mv2d, nm3f, nm3o, nm3d, bo3f, bo3o, bo3d, mv3f, mv3o, mv3d, nm4f, nm4o, nm4d, bo4f, bo4o, bo4d, mv4f, mv4o, mv4d, nm5f, nm5o, nm5d, bo5f, bo5o, bo5d, mv5f, mv5o, mv5d, nm6f, nm6o, nm6d, bo6f, bo6o, bo6d, mv6f, mv6o, mv6d, nm7f, nm7o, nm7d, bo7f, bo7o, bo7d, mv7f, mv7o, mv7d, nm8f, nm8o, nm8d, bo8f, bo8o, bo8d, mv8f, mv8o, mv8d, nm9f, nm9o, nm9d, bo9f, bo9o, bo9d, mv9f, mv9o, mv9d, nm10f, nm10o, nm10d, bo10f, bo10o, bo10d, mv10f, mv10o, mv10d, nm11f, nm11o, nm11d, bo11f, bo11o, bo11d, mv11f, mv11o, mv11d, nm12f, nm12o, nm12d, bo12f, bo12o, bo12d, mv12f, mv12o, mv12d, nm13f, nm13o, nm13d, bo13f, bo13o, bo13d, mv13f, mv13o, mv13d, nm14f, nm14o, nm14d, bo14f, bo14o, bo14d, mv14f, mv14o, mv14d, nm15f, nm15o, nm15d, bo15f, bo15o, bo15d, mv15f, mv15o, mv15d, nm16f, bo16f, mv16f, nm16o, bo16o, mv16o, nm16d, bo16d, mv16d, nm17f, bo17f, mv17f, nm17o, bo17o, mv17o, nm17d, bo17d, mv17d, nm18f, bo18f, mv18f, nm18o, bo18o, mv18o, nm18d, bo18d, mv18d, nm19f, bo19f, mv19f, nm19o, bo19o, mv19o, nm19d, bo19d, mv19d, nm20f, bo20f, mv20f, nm20o, bo20o, mv20o, nm20d, bo20d, mv20d, nm21f, bo21f, mv21f, nm21o, bo21o, mv21o, nm21d, bo21d, mv21d, nm22f, bo22f, mv22f, nm22o, bo22o, mv22o, nm22d, bo22d, mv22d, nm23f, bo23f, mv23f, nm23o, bo23o, mv23o, nm23d, bo23d, mv23d, d_fr, fz_fr, isFr_fr, free_fr, d_ow, fz_ow, isFr_ow, free_ow, d_od, fz_od, isFr_od, free_od, d_bo, fz_bo, isFr_bo, free_bo, d_bd, fz_bd, isFr_bd, free_bd, w_add_i, w_add_s, w_add_l, w_add_t, w_sub, w_mul_i, w_mul_s, w_mul_l, w_mul_t, w_mod, w_fdv, w_pow, w_le_i, w_gt_i, w_ge_i, w_le_s, w_gt_s, w_ge_s, w_lt_i, w_lt_s, w_eq, w_ne, w_is_b, w_isN_b, w_in_l, w_nin_l, w_ix_l, w_ix_t, w_ix_s, w_sl_l, w_sl_t, w_sl_s, w_len_l, w_len_t, w_len_s, w_list_l, w_list_t, w_tuple_l, w_tuple_t, w_str, w_int_i, w_int_b, w_int_s, w_max2, w_max_l, w_min2, w_min_l, w_all, w_any, w_sorted_l, w_sorted_t, w_split, w_join, w_in_t, w_nin_t, w_in_ts, w_nin_ts, e_draw, e_cok_int, e_cok_bl, e_cok_str, List.map_cons, List.map_nil, List.all_cons, List.all_nil, List.length_cons, List.length_nil, List.getElem?_cons_zero, List.getElem?_cons_succ, List.set_cons_zero, List.set_cons_succ, retD, Tg.put, puts, wipeE, true_and, and_true, and_self, Bool.and_true, Bool.true_and, exists_eq_left', exists_eq_left, R.fr.injEq, R.ow.injEq, Option.some.injEq, D.bl.injEq, D.int.injEq, D.str.injEq, D.lst.injEq, D.tup.injEq, decide_eq_true_eq, if_true, exists_eq', Bool.not_true, Bool.not_false, ite_true, ite_false, if_false, Bool.false_eq_true]
      refine for_takeF (fun pre ε => ∃ x1 x2 : Option R, (∀ a ∈ pre, ∀ b ∈ vs, a < b → istr a < istr b) ∧ ε = [some (.fr (.tup (vs.map .int))), x1, x2]) ⟨none, none, by simp, rfl⟩ (fun pre a ha ε hI => ?_) (fun ε hI => ?_)
      · obtain ⟨x1, x2, hpre, rfl⟩ := hI
        obtain ⟨post, hpost⟩ := ha
        have ham : a ∈ vs := by rw [hpost]; simp
        refine ⟨_, rfl, ?_⟩
        try simp only [e_dSeq, e_dNext, e_dSet, e_dRet, e_dDrop, e_dIfS, e_dTgS, e_dC, e_dBin, e_dTst, e_dChn, e_dAnd, e_dOr, e_dNot, e_dAndV, e_dOrV, e_dNotV, e_dIf, e_dNil, e_dCons, e_dLst, e_dTup, e_dCB, e_dCall, e_dYes, e_dApp, e_dAug, e_dAugM, e_dIsi, e_dIsi2, e_dSl, e_dNoP, e_dPart, e_dM1, e_dFor, e_dLC, e_dIt, e_dRng1, e_dZipM, e_dRngN, e_dRev, e_dPar0, w_maxT, e_dSrtSet, e_dItS, e_dPar2, e_dPar3, e_par2, e_par3, e_dCallD, e_dCallK, e_dRng2, e_dEnum, e_dZip, nm0f, nm0o, nm0d, bo0f, bo0o, bo0d, mv0f, mv0o, mv0d, nm1f, nm1o, nm1d, bo1f, bo1o, bo1d, mv1f, mv1o, mv1d, nm2f, nm2o, nm2d, bo2f, bo2o, bo2d, mv2f, mv2o, mv2d, nm3f, nm3o, nm3d, bo3f, bo3o, bo3d, mv3f, mv3o, mv3d, nm4f, nm4o, nm4d, bo4f, bo4o, bo4d, mv4f, mv4o, mv4d, nm5f, nm5o, nm5d, bo5f, bo5o, bo5d, mv5f, mv5o, mv5d, nm6f, nm6o, nm6d, bo6f, bo6o, bo6d, mv6f, mv6o, mv6d, nm7f, nm7o, nm7d, bo7f, bo7o, bo7d, mv7f, mv7o, mv7d, nm8f, nm8o, nm8d, bo8f, bo8o, bo8d, mv8f, mv8o, mv8d, nm9f, nm9o, nm9d, bo9f, bo9o, bo9d, mv9f, mv9o, mv9d, nm10f, nm10o, nm10d, bo10f, bo10o, bo10d, mv10f, mv10o, mv10d, nm11f, nm11o, nm11d, bo11f, bo11o, bo11d, mv11f, mv11o, mv11d, nm12f, nm12o, nm12d, bo12f, bo12o, bo12d, mv12f, mv12o, mv12d, nm13f, nm13o, nm13d, bo13f, bo13o, bo13d, mv13f, mv13o, mv13d, nm14f, nm14o, nm14d, bo14f, bo14o, bo14d, mv14f, mv14o, mv14d, nm15f, nm15o, nm15d, bo15f, bo15o, bo15d, mv15f, mv15o, mv15d, nm16f, bo16f, mv16f, nm16o, bo16o, mv16o, nm16d, bo16d, mv16d, nm17f, bo17f, mv17f, nm17o, bo17o, mv17o, nm17d, bo17d, mv17d, nm18f, bo18f, mv18f, nm18o, bo18o, mv18o, nm18d, bo18d, mv18d, nm19f, bo19f, mv19f, nm19o, bo19o, mv19o, nm19d, bo19d, mv19d, nm20f, bo20f, mv20f, nm20o, bo20o, mv20o, nm20d, bo20d, mv20d, nm21f, bo21f, mv21f, nm21o, bo21o, mv21o, nm21d, bo21d, mv21d, nm22f, bo22f, mv22f, nm22o, bo22o, mv22o, nm22d, bo22d, mv22d, nm23f, bo23f, mv23f, nm23o, bo23o, mv23o, nm23d, bo23d, mv23d, d_fr, fz_fr, isFr_fr, free_fr, d_ow, fz_ow, isFr_ow, free_ow, d_od, fz_od, isFr_od, free_od, d_bo, fz_bo, isFr_bo, free_bo, d_bd, fz_bd, isFr_bd, free_bd, w_add_i, w_add_s, w_add_l, w_add_t, w_sub, w_mul_i, w_mul_s, w_mul_l, w_mul_t, w_mod, w_fdv, w_pow, w_le_i, w_gt_i, w_ge_i, w_le_s, w_gt_s, w_ge_s, w_lt_i, w_lt_s, w_eq, w_ne, w_is_b, w_isN_b, w_in_l, w_nin_l, w_ix_l, w_ix_t, w_ix_s, w_sl_l, w_sl_t, w_sl_s, w_len_l, w_len_t, w_len_s, w_list_l, w_list_t, w_tuple_l, w_tuple_t, w_str, w_int_i, w_int_b, w_int_s, w_max2, w_max_l, w_min2, w_min_l, w_all, w_any, w_sorted_l, w_sorted_t, w_split, w_join, w_in_t, w_nin_t, w_in_ts, w_nin_ts, e_draw, e_cok_int, e_cok_bl, e_cok_str, List.map_cons, List.map_nil, List.all_cons, List.all_nil, List.length_cons, List.length_nil, List.getElem?_cons_zero, List.getElem?_cons_succ, List.set_cons_zero, List.set_cons_succ, retD, Tg.put, puts, wipeE, true_and, and_true, and_self, Bool.and_true, Bool.true_and, exists_eq_left', exists_eq_left, R.fr.injEq, R.ow.injEq, Option.some.injEq, D.bl.injEq, D.int.injEq, D.str.injEq, D.lst.injEq, D.tup.injEq, decide_eq_true_eq, if_true, exists_eq', Bool.not_true, Bool.not_false, ite_true, ite_false, if_false, Bool.false_eq_true]
        refine for_takeF (fun pre2 ε => ∃ x2 : Option R, (∀ b ∈ pre2, a < b → istr a < istr b) ∧ ε = [some (.fr (.tup (vs.map .int))), some (.fr (.int a)), x2]) ⟨x2, by simp, rfl⟩ (fun pre2 b hb ε hI => ?_) (fun ε hI => ?_)
        · obtain ⟨x2, hpre2, rfl⟩ := hI
          obtain ⟨post2, hpost2⟩ := hb
          have hbm : b ∈ vs := by rw [hpost2]; simp
          obtain ⟨na, rfl⟩ : ∃ n : Nat, a = n := ⟨a.toNat, by have := (hn a ham).1; omega⟩
          obtain ⟨nb, rfl⟩ : ∃ n : Nat, b = n := ⟨b.toNat, by have := (hn b hbm).1; omega⟩
          have pa := hn _ ham
          have pb := hn _ hbm
          have a0 : 0 < na := by have := pa.1; omega
          have b0 : 0 < nb := by have := pb.1; omega
          have p17 : (10 : Int) ^ 17 = ((10 ^ 17 : Nat) : Int) := by decide
          have a1 : na < 10 ^ 18 := by have := pa.2; have h : 10 ^ 17 < 10 ^ 18 := by decide
                                       omega
          have b1 : nb < 10 ^ 18 := by have := pb.2; have h : 10 ^ 17 < 10 ^ 18 := by decide
                                       omega
          have la := istr_nd a0
          have lb := istr_nd b0
          have na1 := (nd_bd na a0).2.2
          have sa := nd_small a0 a1
          have sb := nd_small b0 b1
          refine ⟨_, rfl, ?_⟩
          try simp only [e_dSeq, e_dNext, e_dSet, e_dRet, e_dDrop, e_dIfS, e_dTgS, e_dC, e_dBin, e_dTst, e_dChn, e_dAnd, e_dOr, e_dNot, e_dAndV, e_dOrV, e_dNotV, e_dIf, e_dNil, e_dCons, e_dLst, e_dTup, e_dCB, e_dCall, e_dYes, e_dApp, e_dAug, e_dAugM, e_dIsi, e_dIsi2, e_dSl, e_dNoP, e_dPart, e_dM1, e_dFor, e_dLC, e_dIt, e_dRng1, e_dZipM, e_dRngN, e_dRev, e_dPar0, w_maxT, e_dSrtSet, e_dItS, e_dPar2, e_dPar3, e_par2, e_par3, e_dCallD, e_dCallK, e_dRng2, e_dEnum, e_dZip, nm0f, nm0o, nm0d, bo0f, bo0o, bo0d, mv0f, mv0o, mv0d, nm1f, nm1o, nm1d, bo1f, bo1o, bo1d, mv1f, mv1o, mv1d, nm2f, nm2o, nm2d, bo2f, bo2o, bo2d, mv2f, mv2o, mv2d, nm3f, nm3o, nm3d, bo3f, bo3o, bo3d, mv3f, mv3o, mv3d, nm4f, nm4o, nm4d, bo4f, bo4o, bo4d, mv4f, mv4o, mv4d, nm5f, nm5o, nm5d, bo5f, bo5o, bo5d, mv5f, mv5o, mv5d, nm6f, nm6o, nm6d, bo6f, bo6o, bo6d, mv6f, mv6o, mv6d, nm7f, nm7o, nm7d, bo7f, bo7o, bo7d, mv7f, mv7o, mv7d, nm8f, nm8o, nm8d, bo8f, bo8o, bo8d, mv8f, mv8o, mv8d, nm9f, nm9o, nm9d, bo9f, bo9o, bo9d, mv9f, mv9o, mv9d, nm10f, nm10o, nm10d, bo10f, bo10o, bo10d, mv10f, mv10o, mv10d, nm11f, nm11o, nm11d, bo11f, bo11o, bo11d, mv11f, mv11o, mv11d, nm12f, nm12o, nm12d, bo12f, bo12o, bo12d, mv12f, mv12o, mv12d, nm13f, nm13o, nm13d, bo13f, bo13o, bo13d, mv13f, mv13o, mv13d, nm14f, nm14o, nm14d, bo14f, bo14o, bo14d, mv14f, mv14o, mv14d, nm15f, nm15o, nm15d, bo15f, bo15o, bo15d, mv15f, mv15o, mv15d, nm16f, bo16f, mv16f, nm16o, bo16o, mv16o, nm16d, bo16d, mv16d, nm17f, bo17f, mv17f, nm17o, bo17o, mv17o, nm17d, bo17d, mv17d, nm18f, bo18f, mv18f, nm18o, bo18o, mv18o, nm18d, bo18d, mv18d, nm19f, bo19f, mv19f, nm19o, bo19o, mv19o, nm19d, bo19d, mv19d, nm20f, bo20f, mv20f, nm20o, bo20o, mv20o, nm20d, bo20d, mv20d, nm21f, bo21f, mv21f, nm21o, bo21o, mv21o, nm21d, bo21d, mv21d, nm22f, bo22f, mv22f, nm22o, bo22o, mv22o, nm22d, bo22d, mv22d, nm23f, bo23f, mv23f, nm23o, bo23o, mv23o, nm23d, bo23d, mv23d, d_fr, fz_fr, isFr_fr, free_fr, d_ow, fz_ow, isFr_ow, free_ow, d_od, fz_od, isFr_od, free_od, d_bo, fz_bo, isFr_bo, free_bo, d_bd, fz_bd, isFr_bd, free_bd, w_add_i, w_add_s, w_add_l, w_add_t, w_sub, w_mul_i, w_mul_s, w_mul_l, w_mul_t, w_mod, w_fdv, w_pow, w_le_i, w_gt_i, w_ge_i, w_le_s, w_gt_s, w_ge_s, w_lt_i, w_lt_s, w_eq, w_ne, w_is_b, w_isN_b, w_in_l, w_nin_l, w_ix_l, w_ix_t, w_ix_s, w_sl_l, w_sl_t, w_sl_s, w_len_l, w_len_t, w_len_s, w_list_l, w_list_t, w_tuple_l, w_tuple_t, w_str, w_int_i, w_int_b, w_int_s, w_max2, w_max_l, w_min2, w_min_l, w_all, w_any, w_sorted_l, w_sorted_t, w_split, w_join, w_in_t, w_nin_t, w_in_ts, w_nin_ts, e_draw, e_cok_int, e_cok_bl, e_cok_str, List.map_cons, List.map_nil, List.all_cons, List.all_nil, List.length_cons, List.length_nil, List.getElem?_cons_zero, List.getElem?_cons_succ, List.set_cons_zero, List.set_cons_succ, retD, Tg.put, puts, wipeE, true_and, and_true, and_self, Bool.and_true, Bool.true_and, exists_eq_left', exists_eq_left, R.fr.injEq, R.ow.injEq, Option.some.injEq, D.bl.injEq, D.int.injEq, D.str.injEq, D.lst.injEq, D.tup.injEq, decide_eq_true_eq, if_true, exists_eq', Bool.not_true, Bool.not_false, ite_true, ite_false, if_false, Bool.false_eq_true]
          rw [la, lb]
          have snoc : ((na : Int) < nb → istr (na : Int) < istr (nb : Int)) → ∀ b ∈ pre2 ++ [(nb : Int)], (na : Int) < b → istr (na : Int) < istr b := fun h b hb hlt => by
            rcases List.mem_append.mp hb with hb | hb
            · exact hpre2 b hb hlt
            · rw [List.mem_singleton.mp hb] at hlt ⊢; exact h hlt
          refine ⟨log_small (num_nat b1), by rw [sizeLine_eq]; omega, log_small (num_nat a1), by rw [sizeLine_eq]; omega, ite_k (fun c => ?_) fun c => ?_⟩
          · have c : nd na < nd nb := by omega
            refine ⟨log_small (num_nat b1), log_small (num_nat a1), by rw [sizeLine_eq]; omega, ?_⟩
            try simp only [e_dSeq, e_dNext, e_dSet, e_dRet, e_dDrop, e_dIfS, e_dTgS, e_dC, e_dBin, e_dTst, e_dChn, e_dAnd, e_dOr, e_dNot, e_dAndV, e_dOrV, e_dNotV, e_dIf, e_dNil, e_dCons, e_dLst, e_dTup, e_dCB, e_dCall, e_dYes, e_dApp, e_dAug, e_dAugM, e_dIsi, e_dIsi2, e_dSl, e_dNoP, e_dPart, e_dM1, e_dFor, e_dLC, e_dIt, e_dRng1, e_dZipM, e_dRngN, e_dRev, e_dPar0, w_maxT, e_dSrtSet, e_dItS, e_dPar2, e_dPar3, e_par2, e_par3, e_dCallD, e_dCallK, e_dRng2, e_dEnum, e_dZip, nm0f, nm0o, nm0d, bo0f, bo0o, bo0d, mv0f, mv0o, mv0d, nm1f, nm1o, nm1d, bo1f, bo1o, bo1d, mv1f, mv1o, mv1d, nm2f, nm2o, nm2d, bo2f, bo2o, bo2d, mv2f, mv2o, mv2d, nm3f, nm3o, nm3d, bo3f, bo3o, bo3d, mv3f, mv3o, mv3d, nm4f, nm4o, nm4d, bo4f, bo4o, bo4d, mv4f, mv4o, mv4d, nm5f, nm5o, nm5d, bo5f, bo5o, bo5d, mv5f, mv5o, mv5d, nm6f, nm6o, nm6d, bo6f, bo6o, bo6d, mv6f, mv6o, mv6d, nm7f, nm7o, nm7d, bo7f, bo7o, bo7d, mv7f, mv7o, mv7d, nm8f, nm8o, nm8d, bo8f, bo8o, bo8d, mv8f, mv8o, mv8d, nm9f, nm9o, nm9d, bo9f, bo9o, bo9d, mv9f, mv9o, mv9d, nm10f, nm10o, nm10d, bo10f, bo10o, bo10d, mv10f, mv10o, mv10d, nm11f, nm11o, nm11d, bo11f, bo11o, bo11d, mv11f, mv11o, mv11d, nm12f, nm12o, nm12d, bo12f, bo12o, bo12d, mv12f, mv12o, mv12d, nm13f, nm13o, nm13d, bo13f, bo13o, bo13d, mv13f, mv13o, mv13d, nm14f, nm14o, nm14d, bo14f, bo14o, bo14d, mv14f, mv14o, mv14d, nm15f, nm15o, nm15d, bo15f, bo15o, bo15d, mv15f, mv15o, mv15d, nm16f, bo16f, mv16f, nm16o, bo16o, mv16o, nm16d, bo16d, mv16d, nm17f, bo17f, mv17f, nm17o, bo17o, mv17o, nm17d, bo17d, mv17d, nm18f, bo18f, mv18f, nm18o, bo18o, mv18o, nm18d, bo18d, mv18d, nm19f, bo19f, mv19f, nm19o, bo19o, mv19o, nm19d, bo19d, mv19d, nm20f, bo20f, mv20f, nm20o, bo20o, mv20o, nm20d, bo20d, mv20d, nm21f, bo21f, mv21f, nm21o, bo21o, mv21o, nm21d, bo21d, mv21d, nm22f, bo22f, mv22f, nm22o, bo22o, mv22o, nm22d, bo22d, mv22d, nm23f, bo23f, mv23f, nm23o, bo23o, mv23o, nm23d, bo23d, mv23d, d_fr, fz_fr, isFr_fr, free_fr, d_ow, fz_ow, isFr_ow, free_ow, d_od, fz_od, isFr_od, free_od, d_bo, fz_bo, isFr_bo, free_bo, d_bd, fz_bd, isFr_bd, free_bd, w_add_i, w_add_s, w_add_l, w_add_t, w_sub, w_mul_i, w_mul_s, w_mul_l, w_mul_t, w_mod, w_fdv, w_pow, w_le_i, w_gt_i, w_ge_i, w_le_s, w_gt_s, w_ge_s, w_lt_i, w_lt_s, w_eq, w_ne, w_is_b, w_isN_b, w_in_l, w_nin_l, w_ix_l, w_ix_t, w_ix_s, w_sl_l, w_sl_t, w_sl_s, w_len_l, w_len_t, w_len_s, w_list_l, w_list_t, w_tuple_l, w_tuple_t, w_str, w_int_i, w_int_b, w_int_s, w_max2, w_max_l, w_min2, w_min_l, w_all, w_any, w_sorted_l, w_sorted_t, w_split, w_join, w_in_t, w_nin_t, w_in_ts, w_nin_ts, e_draw, e_cok_int, e_cok_bl, e_cok_str, List.map_cons, List.map_nil, List.all_cons, List.all_nil, List.length_cons, List.length_nil, List.getElem?_cons_zero, List.getElem?_cons_succ, List.set_cons_zero, List.set_cons_succ, retD, Tg.put, puts, wipeE, true_and, and_true, and_self, Bool.and_true, Bool.true_and, exists_eq_left', exists_eq_left, R.fr.injEq, R.ow.injEq, Option.some.injEq, D.bl.injEq, D.int.injEq, D.str.injEq, D.lst.injEq, D.tup.injEq, decide_eq_true_eq, if_true, exists_eq', Bool.not_true, Bool.not_false, ite_true, ite_false, if_false, Bool.false_eq_true]
            rw [cut_num b0 na1 (by omega)]
            have hq : nb / 10 ^ (nd nb - nd na) < 10 ^ 18 := Nat.lt_of_le_of_lt (Nat.div_le_self _ _) b1
            have hq0 : 0 < nb / 10 ^ (nd nb - nd na) := by
              rw [Nat.div_pos_iff]
              exact ⟨pow_pos _, Nat.le_trans (pow_mono (by omega)) (nd_bd nb b0).1⟩
            refine ⟨by rw [sizeLine_eq]; omega, _, int_istr (num_nat hq), by rw [istr_nd hq0]; have := nd_small hq0 hq; omega, ?_⟩
            have key := rule_iff a0 b0 c
            refine ite_k (fun c2 => ?_) fun c2 => ?_
            · refine q _ ⟨false, rfl, fun z => (by cases z), fun z => ?_⟩
              have := long_lt a0 b0 c
              exact absurd (z _ ham _ hbm (by omega)) (key.mp (by omega))
            · refine ⟨_, snoc fun _ => ?_, rfl⟩
              by_cases h : istr (na : Int) < istr (nb : Int)
              · exact h
              · exact absurd (key.mpr h) (by omega)
          · exact ⟨_, snoc fun h => short_lt a0 (by omega) (by omega), rfl⟩
        · obtain ⟨x2, hpre2, rfl⟩ := hI
          refine ⟨_, _, fun z hz => ?_, rfl⟩
          rcases List.mem_append.mp hz with hz | hz
          · exact hpre z hz
          · rw [List.mem_singleton.mp hz]; exact hpre2
      · obtain ⟨x1, x2, hpre, rfl⟩ := hI
        try simp only [e_dSeq, e_dNext, e_dSet, e_dRet, e_dDrop, e_dIfS, e_dTgS, e_dC, e_dBin, e_dTst, e_dChn, e_dAnd, e_dOr, e_dNot, e_dAndV, e_dOrV, e_dNotV, e_dIf, e_dNil, e_dCons, e_dLst, e_dTup, e_dCB, e_dCall, e_dYes, e_dApp, e_dAug, e_dAugM, e_dIsi, e_dIsi2, e_dSl, e_dNoP, e_dPart, e_dM1, e_dFor, e_dLC, e_dIt, e_dRng1, e_dZipM, e_dRngN, e_dRev, e_dPar0, w_maxT, e_dSrtSet, e_dItS, e_dPar2, e_dPar3, e_par2, e_par3, e_dCallD, e_dCallK, e_dRng2, e_dEnum, e_dZip, nm0f, nm0o, nm0d, bo0f, bo0o, bo0d, mv0f, mv0o, mv0d, nm1f, nm1o, nm1d, bo1f, bo1o, bo1d, mv1f, mv1o, mv1d, nm2f, nm2o, nm2d, bo2f, bo2o, bo2d, mv2f, mv2o, mv2d, nm3f, nm3o, nm3d, bo3f, bo3o, bo3d, mv3f, mv3o, mv3d, nm4f, nm4o, nm4d, bo4f, bo4o, bo4d, mv4f, mv4o, mv4d, nm5f, nm5o, nm5d, bo5f, bo5o, bo5d, mv5f, mv5o, mv5d, nm6f, nm6o, nm6d, bo6f, bo6o, bo6d, mv6f, mv6o, mv6d, nm7f, nm7o, nm7d, bo7f, bo7o, bo7d, mv7f, mv7o, mv7d, nm8f, nm8o, nm8d, bo8f, bo8o, bo8d, mv8f, mv8o, mv8d, nm9f, nm9o, nm9d, bo9f, bo9o, bo9d, mv9f, mv9o, mv9d, nm10f, nm10o, nm10d, bo10f, bo10o, bo10d, mv10f, mv10o, mv10d, nm11f, nm11o, nm11d, bo11f, bo11o, bo11d, mv11f, mv11o, mv11d, nm12f, nm12o, nm12d, bo12f, bo12o, bo12d, mv12f, mv12o, mv12d, nm13f, nm13o, nm13d, bo13f, bo13o, bo13d, mv13f, mv13o, mv13d, nm14f, nm14o, nm14d, bo14f, bo14o, bo14d, mv14f, mv14o, mv14d, nm15f, nm15o, nm15d, bo15f, bo15o, bo15d, mv15f, mv15o, mv15d, nm16f, bo16f, mv16f, nm16o, bo16o, mv16o, nm16d, bo16d, mv16d, nm17f, bo17f, mv17f, nm17o, bo17o, mv17o, nm17d, bo17d, mv17d, nm18f, bo18f, mv18f, nm18o, bo18o, mv18o, nm18d, bo18d, mv18d, nm19f, bo19f, mv19f, nm19o, bo19o, mv19o, nm19d, bo19d, mv19d, nm20f, bo20f, mv20f, nm20o, bo20o, mv20o, nm20d, bo20d, mv20d, nm21f, bo21f, mv21f, nm21o, bo21o, mv21o, nm21d, bo21d, mv21d, nm22f, bo22f, mv22f, nm22o, bo22o, mv22o, nm22d, bo22d, mv22d, nm23f, bo23f, mv23f, nm23o, bo23o, mv23o, nm23d, bo23d, mv23d, d_fr, fz_fr, isFr_fr, free_fr, d_ow, fz_ow, isFr_ow, free_ow, d_od, fz_od, isFr_od, free_od, d_bo, fz_bo, isFr_bo, free_bo, d_bd, fz_bd, isFr_bd, free_bd, w_add_i, w_add_s, w_add_l, w_add_t, w_sub, w_mul_i, w_mul_s, w_mul_l, w_mul_t, w_mod, w_fdv, w_pow, w_le_i, w_gt_i, w_ge_i, w_le_s, w_gt_s, w_ge_s, w_lt_i, w_lt_s, w_eq, w_ne, w_is_b, w_isN_b, w_in_l, w_nin_l, w_ix_l, w_ix_t, w_ix_s, w_sl_l, w_sl_t, w_sl_s, w_len_l, w_len_t, w_len_s, w_list_l, w_list_t, w_tuple_l, w_tuple_t, w_str, w_int_i, w_int_b, w_int_s, w_max2, w_max_l, w_min2, w_min_l, w_all, w_any, w_sorted_l, w_sorted_t, w_split, w_join, w_in_t, w_nin_t, w_in_ts, w_nin_ts, e_draw, e_cok_int, e_cok_bl, e_cok_str, List.map_cons, List.map_nil, List.all_cons, List.all_nil, List.length_cons, List.length_nil, List.getElem?_cons_zero, List.getElem?_cons_succ, List.set_cons_zero, List.set_cons_succ, retD, Tg.put, puts, wipeE, true_and, and_true, and_self, Bool.and_true, Bool.true_and, exists_eq_left', exists_eq_left, R.fr.injEq, R.ow.injEq, Option.some.injEq, D.bl.injEq, D.int.injEq, D.str.injEq, D.lst.injEq, D.tup.injEq, decide_eq_true_eq, if_true, exists_eq', Bool.not_true, Bool.not_false, ite_true, ite_false, if_false, Bool.false_eq_true]
        exact q _ ⟨true, rfl, fun _ => hpre, fun _ => rfl⟩
    | false =>
      show (_ : TSd) (retD Q) [some (.fr (.lst (vs.map .int))), none, none]
      try simp only [e_dSeq, e_dNext, e_dSet, e_dRet, e_dDrop, e_dIfS, e_dTgS, e_dC, e_dBin, e_dTst, e_dChn, e_dAnd, e_dOr, e_dNot, e_dAndV, e_dOrV, e_dNotV, e_dIf, e_dNil, e_dCons, e_dLst, e_dTup, e_dCB, e_dCall, e_dYes, e_dApp, e_dAug, e_dAugM, e_dIsi, e_dIsi2, e_dSl, e_dNoP, e_dPart, e_dM1, e_dFor, e_dLC, e_dIt, e_dRng1, e_dZipM, e_dRngN, e_dRev, e_dPar0, w_maxT, e_dSrtSet, e_dItS, e_dPar2, e_dPar3, e_par2, e_par3, e_dCallD, e_dCallK, e_dRng2, e_dEnum, e_dZip, nm0f, nm0o, nm0d, bo0f, bo0o, bo0d, mv0f, mv0o, mv0d, nm1f, nm1o, nm1d, bo1f, bo1o, bo1d, mv1f, mv1o, mv1d, nm2f, nm2o, nm2d, bo2f, bo2o, bo2d, mv2f, mv2o, mv2d, nm3f, nm3o, nm3d, bo3f, bo3o, bo3d, mv3f, mv3o, mv3d, nm4f, nm4o, nm4d, bo4f, bo4o, bo4d, mv4f, mv4o, mv4d, nm5f, nm5o, nm5d, bo5f, bo5o, bo5d, mv5f, mv5o, mv5d, nm6f, nm6o, nm6d, bo6f, bo6o, bo6d, mv6f, mv6o, mv6d, nm7f, nm7o, nm7d, bo7f, bo7o, bo7d, mv7f, mv7o, mv7d, nm8f, nm8o, nm8d, bo8f, bo8o, bo8d, mv8f, mv8o, mv8d, nm9f, nm9o, nm9d, bo9f, bo9o, bo9d, mv9f, mv9o, mv9d, nm10f, nm10o, nm10d, bo10f, bo10o, bo10d, mv10f, mv10o, mv10d, nm11f, nm11o, nm11d, bo11f, bo11o, bo11d, mv11f, mv11o, mv11d, nm12f, nm12o, nm12d, bo12f, bo12o, bo12d, mv12f, mv12o, mv12d, nm13f, nm13o, nm13d, bo13f, bo13o, bo13d, mv13f, mv13o, mv13d, nm14f, nm14o, nm14d, bo14f, bo14o, bo14d, mv14f, mv14o, mv14d, nm15f, nm15o, nm15d, bo15f, bo15o, bo15d, mv15f, mv15o, mv15d, nm16f, bo16f, mv16f, nm16o, bo16o, mv16o, nm16d, bo16d, mv16d, nm17f, bo17f, mv17f, nm17o, bo17o, mv17o, nm17d, bo17d, mv17d, nm18f, bo18f, mv18f, nm18o, bo18o, mv18o, nm18d, bo18d, mv18d, nm19f, bo19f, mv19f, nm19o, bo19o, mv19o, nm19d, bo19d, mv19d, nm20f, bo20f, mv20f, nm20o, bo20o, mv20o, nm20d, bo20d, mv20d, nm21f, bo21f, mv21f, nm21o, bo21o, mv21o, nm21d, bo21d, mv21d, nm22f, bo22f, mv22f, nm22o, bo22o, mv22o, nm22d, bo22d, mv22d, nm23f, bo23f, mv23f, nm23o, bo23o, mv23o, nm23d, bo23d, mv23d, d_fr, fz_fr, isFr_fr, free_fr, d_ow, fz_ow, isFr_ow, free_ow, d_od, fz_od, isFr_od, free_od, d_bo, fz_bo, isFr_bo, free_bo, d_bd, fz_bd, isFr_bd, free_bd, w_add_i, w_add_s, w_add_l, w_add_t, w_sub, w_mul_i, w_mul_s, w_mul_l, w_mul_t, w_mod, w_fdv, w_pow, w_le_i, w_gt_i, w_ge_i, w_le_s, w_gt_s, w_ge_s, w_lt_i, w_lt_s, w_eq, w_ne, w_is_b, w_isN_b, w_in_l, w_nin_l, w_ix_l, w_ix_t, w_ix_s, w_sl_l, w_sl_t, w_sl_s, w_len_l, w_len_t, w_len_s, w_list_l, w_list_t, w_tuple_l, w_tuple_t, w_str, w_int_i, w_int_b, w_int_s, w_max2, w_max_l, w_min2, w_min_l, w_all, w_any, w_sorted_l, w_sorted_t, w_split, w_join, w_in_t, w_nin_t, w_in_ts, w_nin_ts, e_draw, e_cok_int, e_cok_bl, e_cok_str, List.map_cons, List.map_nil, List.all_cons, List.all_nil, List.length_cons, List.length_nil, List.getElem?_cons_zero, List.getElem?_cons_succ, List.set_cons_zero, List.set_cons_succ, retD, Tg.put, puts, wipeE, true_and, and_true, and_self, Bool.and_true, Bool.true_and, exists_eq_left', exists_eq_left, R.fr.injEq, R.ow.injEq, Option.some.injEq, D.bl.injEq, D.int.injEq, D.str.injEq, D.lst.injEq, D.tup.injEq, decide_eq_true_eq, if_true, exists_eq', Bool.not_true, Bool.not_false, ite_true, ite_false, if_false, Bool.false_eq_true]
      refine for_takeF (fun pre ε => ∃ x1 x2 : Option R, (∀ a ∈ pre, ∀ b ∈ vs, a < b → istr a < istr b) ∧ ε = [some (.fr (.lst (vs.map .int))), x1, x2]) ⟨none, none, by simp, rfl⟩ (fun pre a ha ε hI => ?_) (fun ε hI => ?_)
      · obtain ⟨x1, x2, hpre, rfl⟩ := hI
        obtain ⟨post, hpost⟩ := ha
        have ham : a ∈ vs := by rw [hpost]; simp
        refine ⟨_, rfl, ?_⟩
        try simp only [e_dSeq, e_dNext, e_dSet, e_dRet, e_dDrop, e_dIfS, e_dTgS, e_dC, e_dBin, e_dTst, e_dChn, e_dAnd, e_dOr, e_dNot, e_dAndV, e_dOrV, e_dNotV, e_dIf, e_dNil, e_dCons, e_dLst, e_dTup, e_dCB, e_dCall, e_dYes, e_dApp, e_dAug, e_dAugM, e_dIsi, e_dIsi2, e_dSl, e_dNoP, e_dPart, e_dM1, e_dFor, e_dLC, e_dIt, e_dRng1, e_dZipM, e_dRngN, e_dRev, e_dPar0, w_maxT, e_dSrtSet, e_dItS, e_dPar2, e_dPar3, e_par2, e_par3, e_dCallD, e_dCallK, e_dRng2, e_dEnum, e_dZip, nm0f, nm0o, nm0d, bo0f, bo0o, bo0d, mv0f, mv0o, mv0d, nm1f, nm1o, nm1d, bo1f, bo1o, bo1d, mv1f, mv1o, mv1d, nm2f, nm2o, nm2d, bo2f, bo2o, bo2d, mv2f, mv2o, mv2d, nm3f, nm3o, nm3d, bo3f, bo3o, bo3d, mv3f, mv3o, mv3d, nm4f, nm4o, nm4d, bo4f, bo4o, bo4d, mv4f, mv4o, mv4d, nm5f, nm5o, nm5d, bo5f, bo5o, bo5d, mv5f, mv5o, mv5d, nm6f, nm6o, nm6d, bo6f, bo6o, bo6d, mv6f, mv6o, mv6d, nm7f, nm7o, nm7d, bo7f, bo7o, bo7d, mv7f, mv7o, mv7d, nm8f, nm8o, nm8d, bo8f, bo8o, bo8d, mv8f, mv8o, mv8d, nm9f, nm9o, nm9d, bo9f, bo9o, bo9d, mv9f, mv9o, mv9d, nm10f, nm10o, nm10d, bo10f, bo10o, bo10d, mv10f, mv10o, mv10d, nm11f, nm11o, nm11d, bo11f, bo11o, bo11d, mv11f, mv11o, mv11d, nm12f, nm12o, nm12d, bo12f, bo12o, bo12d, mv12f, mv12o, mv12d, nm13f, nm13o, nm13d, bo13f, bo13o, bo13d, mv13f, mv13o, mv13d, nm14f, nm14o, nm14d, bo14f, bo14o, bo14d, mv14f, mv14o, mv14d, nm15f, nm15o, nm15d, bo15f, bo15o, bo15d, mv15f, mv15o, mv15d, nm16f, bo16f, mv16f, nm16o, bo16o, mv16o, nm16d, bo16d, mv16d, nm17f, bo17f, mv17f, nm17o, bo17o, mv17o, nm17d, bo17d, mv17d, nm18f, bo18f, mv18f, nm18o, bo18o, mv18o, nm18d, bo18d, mv18d, nm19f, bo19f, mv19f, nm19o, bo19o, mv19o, nm19d, bo19d, mv19d, nm20f, bo20f, mv20f, nm20o, bo20o, mv20o, nm20d, bo20d, mv20d, nm21f, bo21f, mv21f, nm21o, bo21o, mv21o, nm21d, bo21d, mv21d, nm22f, bo22f, mv22f, nm22o, bo22o, mv22o, nm22d, bo22d, mv22d, nm23f, bo23f, mv23f, nm23o, bo23o, mv23o, nm23d, bo23d, mv23d, d_fr, fz_fr, isFr_fr, free_fr, d_ow, fz_ow, isFr_ow, free_ow, d_od, fz_od, isFr_od, free_od, d_bo, fz_bo, isFr_bo, free_bo, d_bd, fz_bd, isFr_bd, free_bd, w_add_i, w_add_s, w_add_l, w_add_t, w_sub, w_mul_i, w_mul_s, w_mul_l, w_mul_t, w_mod, w_fdv, w_pow, w_le_i, w_gt_i, w_ge_i, w_le_s, w_gt_s, w_ge_s, w_lt_i, w_lt_s, w_eq, w_ne, w_is_b, w_isN_b, w_in_l, w_nin_l, w_ix_l, w_ix_t, w_ix_s, w_sl_l, w_sl_t, w_sl_s, w_len_l, w_len_t, w_len_s, w_list_l, w_list_t, w_tuple_l, w_tuple_t, w_str, w_int_i, w_int_b, w_int_s, w_max2, w_max_l, w_min2, w_min_l, w_all, w_any, w_sorted_l, w_sorted_t, w_split, w_join, w_in_t, w_nin_t, w_in_ts, w_nin_ts, e_draw, e_cok_int, e_cok_bl, e_cok_str, List.map_cons, List.map_nil, List.all_cons, List.all_nil, List.length_cons, List.length_nil, List.getElem?_cons_zero, List.getElem?_cons_succ, List.set_cons_zero, List.set_cons_succ, retD, Tg.put, puts, wipeE, true_and, and_true, and_self, Bool.and_true, Bool.true_and, exists_eq_left', exists_eq_left, R.fr.injEq, R.ow.injEq, Option.some.injEq, D.bl.injEq, D.int.injEq, D.str.injEq, D.lst.injEq, D.tup.injEq, decide_eq_true_eq, if_true, exists_eq', Bool.not_true, Bool.not_false, ite_true, ite_false, if_false, Bool.false_eq_true]
        refine for_takeF (fun pre2 ε => ∃ x2 : Option R, (∀ b ∈ pre2, a < b → istr a < istr b) ∧ ε = [some (.fr (.lst (vs.map .int))), some (.fr (.int a)), x2]) ⟨x2, by simp, rfl⟩ (fun pre2 b hb ε hI => ?_) (fun ε hI => ?_)
        · obtain ⟨x2, hpre2, rfl⟩ := hI
          obtain ⟨post2, hpost2⟩ := hb
          have hbm : b ∈ vs := by rw [hpost2]; simp
          obtain ⟨na, rfl⟩ : ∃ n : Nat, a = n := ⟨a.toNat, by have := (hn a ham).1; omega⟩
          obtain ⟨nb, rfl⟩ : ∃ n : Nat, b = n := ⟨b.toNat, by have := (hn b hbm).1; omega⟩
          have pa := hn _ ham
          have pb := hn _ hbm
          have a0 : 0 < na := by have := pa.1; omega
          have b0 : 0 < nb := by have := pb.1; omega
          have p17 : (10 : Int) ^ 17 = ((10 ^ 17 : Nat) : Int) := by decide
          have a1 : na < 10 ^ 18 := by have := pa.2; have h : 10 ^ 17 < 10 ^ 18 := by decide
                                       omega
          have b1 : nb < 10 ^ 18 := by have := pb.2; have h : 10 ^ 17 < 10 ^ 18 := by decide
                                       omega
          have la := istr_nd a0
          have lb := istr_nd b0
          have na1 := (nd_bd na a0).2.2
          have sa := nd_small a0 a1
          have sb := nd_small b0 b1
          refine ⟨_, rfl, ?_⟩
          try simp only [e_dSeq, e_dNext, e_dSet, e_dRet, e_dDrop, e_dIfS, e_dTgS, e_dC, e_dBin, e_dTst, e_dChn, e_dAnd, e_dOr, e_dNot, e_dAndV, e_dOrV, e_dNotV, e_dIf, e_dNil, e_dCons, e_dLst, e_dTup, e_dCB, e_dCall, e_dYes, e_dApp, e_dAug, e_dAugM, e_dIsi, e_dIsi2, e_dSl, e_dNoP, e_dPart, e_dM1, e_dFor, e_dLC, e_dIt, e_dRng1, e_dZipM, e_dRngN, e_dRev, e_dPar0, w_maxT, e_dSrtSet, e_dItS, e_dPar2, e_dPar3, e_par2, e_par3, e_dCallD, e_dCallK, e_dRng2, e_dEnum, e_dZip, nm0f, nm0o, nm0d, bo0f, bo0o, bo0d, mv0f, mv0o, mv0d, nm1f, nm1o, nm1d, bo1f, bo1o, bo1d, mv1f, mv1o, mv1d, nm2f, nm2o, nm2d, bo2f, bo2o, bo2d, mv2f, mv2o, mv2d, nm3f, nm3o, nm3d, bo3f, bo3o, bo3d, mv3f, mv3o, mv3d, nm4f, nm4o, nm4d, bo4f, bo4o, bo4d, mv4f, mv4o, mv4d, nm5f, nm5o, nm5d, bo5f, bo5o, bo5d, mv5f, mv5o, mv5d, nm6f, nm6o, nm6d, bo6f, bo6o, bo6d, mv6f, mv6o, mv6d, nm7f, nm7o, nm7d, bo7f, bo7o, bo7d, mv7f, mv7o, mv7d, nm8f, nm8o, nm8d, bo8f, bo8o, bo8d, mv8f, mv8o, mv8d, nm9f, nm9o, nm9d, bo9f, bo9o, bo9d, mv9f, mv9o, mv9d, nm10f, nm10o, nm10d, bo10f, bo10o, bo10d, mv10f, mv10o, mv10d, nm11f, nm11o, nm11d, bo11f, bo11o, bo11d, mv11f, mv11o, mv11d, nm12f, nm12o, nm12d, bo12f, bo12o, bo12d, mv12f, mv12o, mv12d, nm13f, nm13o, nm13d, bo13f, bo13o, bo13d, mv13f, mv13o, mv13d, nm14f, nm14o, nm14d, bo14f, bo14o, bo14d, mv14f, mv14o, mv14d, nm15f, nm15o, nm15d, bo15f, bo15o, bo15d, mv15f, mv15o, mv15d, nm16f, bo16f, mv16f, nm16o, bo16o, mv16o, nm16d, bo16d, mv16d, nm17f, bo17f, mv17f, nm17o, bo17o, mv17o, nm17d, bo17d, mv17d, nm18f, bo18f, mv18f, nm18o, bo18o, mv18o, nm18d, bo18d, mv18d, nm19f, bo19f, mv19f, nm19o, bo19o, mv19o, nm19d, bo19d, mv19d, nm20f, bo20f, mv20f, nm20o, bo20o, mv20o, nm20d, bo20d, mv20d, nm21f, bo21f, mv21f, nm21o, bo21o, mv21o, nm21d, bo21d, mv21d, nm22f, bo22f, mv22f, nm22o, bo22o, mv22o, nm22d, bo22d, mv22d, nm23f, bo23f, mv23f, nm23o, bo23o, mv23o, nm23d, bo23d, mv23d, d_fr, fz_fr, isFr_fr, free_fr, d_ow, fz_ow, isFr_ow, free_ow, d_od, fz_od, isFr_od, free_od, d_bo, fz_bo, isFr_bo, free_bo, d_bd, fz_bd, isFr_bd, free_bd, w_add_i, w_add_s, w_add_l, w_add_t, w_sub, w_mul_i, w_mul_s, w_mul_l, w_mul_t, w_mod, w_fdv, w_pow, w_le_i, w_gt_i, w_ge_i, w_le_s, w_gt_s, w_ge_s, w_lt_i, w_lt_s, w_eq, w_ne, w_is_b, w_isN_b, w_in_l, w_nin_l, w_ix_l, w_ix_t, w_ix_s, w_sl_l, w_sl_t, w_sl_s, w_len_l, w_len_t, w_len_s, w_list_l, w_list_t, w_tuple_l, w_tuple_t, w_str, w_int_i, w_int_b, w_int_s, w_max2, w_max_l, w_min2, w_min_l, w_all, w_any, w_sorted_l, w_sorted_t, w_split, w_join, w_in_t, w_nin_t, w_in_ts, w_nin_ts, e_draw, e_cok_int, e_cok_bl, e_cok_str, List.map_cons, List.map_nil, List.all_cons, List.all_nil, List.length_cons, List.length_nil, List.getElem?_cons_zero, List.getElem?_cons_succ, List.set_cons_zero, List.set_cons_succ, retD, Tg.put, puts, wipeE, true_and, and_true, and_self, Bool.and_true, Bool.true_and, exists_eq_left', exists_eq_left, R.fr.injEq, R.ow.injEq, Option.some.injEq, D.bl.injEq, D.int.injEq, D.str.injEq, D.lst.injEq, D.tup.injEq, decide_eq_true_eq, if_true, exists_eq', Bool.not_true, Bool.not_false, ite_true, ite_false, if_false, Bool.false_eq_true]
          rw [la, lb]
          have snoc : ((na : Int) < nb → istr (na : Int) < istr (nb : Int)) → ∀ b ∈ pre2 ++ [(nb : Int)], (na : Int) < b → istr (na : Int) < istr b := fun h b hb hlt => by
            rcases List.mem_append.mp hb with hb | hb
            · exact hpre2 b hb hlt
            · rw [List.mem_singleton.mp hb] at hlt ⊢; exact h hlt
          refine ⟨log_small (num_nat b1), by rw [sizeLine_eq]; omega, log_small (num_nat a1), by rw [sizeLine_eq]; omega, ite_k (fun c => ?_) fun c => ?_⟩
          · have c : nd na < nd nb := by omega
            refine ⟨log_small (num_nat b1), log_small (num_nat a1), by rw [sizeLine_eq]; omega, ?_⟩
            try simp only [e_dSeq, e_dNext, e_dSet, e_dRet, e_dDrop, e_dIfS, e_dTgS, e_dC, e_dBin, e_dTst, e_dChn, e_dAnd, e_dOr, e_dNot, e_dAndV, e_dOrV, e_dNotV, e_dIf, e_dNil, e_dCons, e_dLst, e_dTup, e_dCB, e_dCall, e_dYes, e_dApp, e_dAug, e_dAugM, e_dIsi, e_dIsi2, e_dSl, e_dNoP, e_dPart, e_dM1, e_dFor, e_dLC, e_dIt, e_dRng1, e_dZipM, e_dRngN, e_dRev, e_dPar0, w_maxT, e_dSrtSet, e_dItS, e_dPar2, e_dPar3, e_par2, e_par3, e_dCallD, e_dCallK, e_dRng2, e_dEnum, e_dZip, nm0f, nm0o, nm0d, bo0f, bo0o, bo0d, mv0f, mv0o, mv0d, nm1f, nm1o, nm1d, bo1f, bo1o, bo1d, mv1f, mv1o, mv1d, nm2f, nm2o, nm2d, bo2f, bo2o, bo2d, mv2f, mv2o, mv2d, nm3f, nm3o, nm3d, bo3f, bo3o, bo3d, mv3f, mv3o, mv3d, nm4f, nm4o, nm4d, bo4f, bo4o, bo4d, mv4f, mv4o, mv4d, nm5f, nm5o, nm5d, bo5f, bo5o, bo5d, mv5f, mv5o, mv5d, nm6f, nm6o, nm6d, bo6f, bo6o, bo6d, mv6f, mv6o, mv6d, nm7f, nm7o, nm7d, bo7f, bo7o, bo7d, mv7f, mv7o, mv7d, nm8f, nm8o, nm8d, bo8f, bo8o, bo8d, mv8f, mv8o, mv8d, nm9f, nm9o, nm9d, bo9f, bo9o, bo9d, mv9f, mv9o, mv9d, nm10f, nm10o, nm10d, bo10f, bo10o, bo10d, mv10f, mv10o, mv10d, nm11f, nm11o, nm11d, bo11f, bo11o, bo11d, mv11f, mv11o, mv11d, nm12f, nm12o, nm12d, bo12f, bo12o, bo12d, mv12f, mv12o, mv12d, nm13f, nm13o, nm13d, bo13f, bo13o, bo13d, mv13f, mv13o, mv13d, nm14f, nm14o, nm14d, bo14f, bo14o, bo14d, mv14f, mv14o, mv14d, nm15f, nm15o, nm15d, bo15f, bo15o, bo15d, mv15f, mv15o, mv15d, nm16f, bo16f, mv16f, nm16o, bo16o, mv16o, nm16d, bo16d, mv16d, nm17f, bo17f, mv17f, nm17o, bo17o, mv17o, nm17d, bo17d, mv17d, nm18f, bo18f, mv18f, nm18o, bo18o, mv18o, nm18d, bo18d, mv18d, nm19f, bo19f, mv19f, nm19o, bo19o, mv19o, nm19d, bo19d, mv19d, nm20f, bo20f, mv20f, nm20o, bo20o, mv20o, nm20d, bo20d, mv20d, nm21f, bo21f, mv21f, nm21o, bo21o, mv21o, nm21d, bo21d, mv21d, nm22f, bo22f, mv22f, nm22o, bo22o, mv22o, nm22d, bo22d, mv22d, nm23f, bo23f, mv23f, nm23o, bo23o, mv23o, nm23d, bo23d, mv23d, d_fr, fz_fr, isFr_fr, free_fr, d_ow, fz_ow, isFr_ow, free_ow, d_od, fz_od, isFr_od, free_od, d_bo, fz_bo, isFr_bo, free_bo, d_bd, fz_bd, isFr_bd, free_bd, w_add_i, w_add_s, w_add_l, w_add_t, w_sub, w_mul_i, w_mul_s, w_mul_l, w_mul_t, w_mod, w_fdv, w_pow, w_le_i, w_gt_i, w_ge_i, w_le_s, w_gt_s, w_ge_s, w_lt_i, w_lt_s, w_eq, w_ne, w_is_b, w_isN_b, w_in_l, w_nin_l, w_ix_l, w_ix_t, w_ix_s, w_sl_l, w_sl_t, w_sl_s, w_len_l, w_len_t, w_len_s, w_list_l, w_list_t, w_tuple_l, w_tuple_t, w_str, w_int_i, w_int_b, w_int_s, w_max2, w_max_l, w_min2, w_min_l, w_all, w_any, w_sorted_l, w_sorted_t, w_split, w_join, w_in_t, w_nin_t, w_in_ts, w_nin_ts, e_draw, e_cok_int, e_cok_bl, e_cok_str, List.map_cons, List.map_nil, List.all_cons, List.all_nil, List.length_cons, List.length_nil, List.getElem?_cons_zero, List.getElem?_cons_succ, List.set_cons_zero, List.set_cons_succ, retD, Tg.put, puts, wipeE, true_and, and_true, and_self, Bool.and_true, Bool.true_and, exists_eq_left', exists_eq_left, R.fr.injEq, R.ow.injEq, Option.some.injEq, D.bl.injEq, D.int.injEq, D.str.injEq, D.lst.injEq, D.tup.injEq, decide_eq_true_eq, if_true, exists_eq', Bool.not_true, Bool.not_false, ite_true, ite_false, if_false, Bool.false_eq_true]
            rw [cut_num b0 na1 (by omega)]
            have hq : nb / 10 ^ (nd nb - nd na) < 10 ^ 18 := Nat.lt_of_le_of_lt (Nat.div_le_self _ _) b1
            have hq0 : 0 < nb / 10 ^ (nd nb - nd na) := by
              rw [Nat.div_pos_iff]
              exact ⟨pow_pos _, Nat.le_trans (pow_mono (by omega)) (nd_bd nb b0).1⟩
            refine ⟨by rw [sizeLine_eq]; omega, _, int_istr (num_nat hq), by rw [istr_nd hq0]; have := nd_small hq0 hq; omega, ?_⟩
            have key := rule_iff a0 b0 c
            refine ite_k (fun c2 => ?_) fun c2 => ?_
            · refine q _ ⟨false, rfl, fun z => (by cases z), fun z => ?_⟩
              have := long_lt a0 b0 c
              exact absurd (z _ ham _ hbm (by omega)) (key.mp (by omega))
            · refine ⟨_, snoc fun _ => ?_, rfl⟩
              by_cases h : istr (na : Int) < istr (nb : Int)
              · exact h
              · exact absurd (key.mpr h) (by omega)
          · exact ⟨_, snoc fun h => short_lt a0 (by omega) (by omega), rfl⟩
        · obtain ⟨x2, hpre2, rfl⟩ := hI
          refine ⟨_, _, fun z hz => ?_, rfl⟩
          rcases List.mem_append.mp hz with hz | hz
          · exact hpre z hz
          · rw [List.mem_singleton.mp hz]; exact hpre2
      · obtain ⟨x1, x2, hpre, rfl⟩ := hI
        try simp only [e_dSeq, e_dNext, e_dSet, e_dRet, e_dDrop, e_dIfS, e_dTgS, e_dC, e_dBin, e_dTst, e_dChn, e_dAnd, e_dOr, e_dNot, e_dAndV, e_dOrV, e_dNotV, e_dIf, e_dNil, e_dCons, e_dLst, e_dTup, e_dCB, e_dCall, e_dYes, e_dApp, e_dAug, e_dAugM, e_dIsi, e_dIsi2, e_dSl, e_dNoP, e_dPart, e_dM1, e_dFor, e_dLC, e_dIt, e_dRng1, e_dZipM, e_dRngN, e_dRev, e_dPar0, w_maxT, e_dSrtSet, e_dItS, e_dPar2, e_dPar3, e_par2, e_par3, e_dCallD, e_dCallK, e_dRng2, e_dEnum, e_dZip, nm0f, nm0o, nm0d, bo0f, bo0o, bo0d, mv0f, mv0o, mv0d, nm1f, nm1o, nm1d, bo1f, bo1o, bo1d, mv1f, mv1o, mv1d, nm2f, nm2o, nm2d, bo2f, bo2o, bo2d, mv2f, mv2o, mv2d, nm3f, nm3o, nm3d, bo3f, bo3o, bo3d, mv3f, mv3o, mv3d, nm4f, nm4o, nm4d, bo4f, bo4o, bo4d, mv4f, mv4o, mv4d, nm5f, nm5o, nm5d, bo5f, bo5o, bo5d, mv5f, mv5o, mv5d, nm6f, nm6o, nm6d, bo6f, bo6o, bo6d, mv6f, mv6o, mv6d, nm7f, nm7o, nm7d, bo7f, bo7o, bo7d, mv7f, mv7o, mv7d, nm8f, nm8o, nm8d, bo8f, bo8o, bo8d, mv8f, mv8o, mv8d, nm9f, nm9o, nm9d, bo9f, bo9o, bo9d, mv9f, mv9o, mv9d, nm10f, nm10o, nm10d, bo10f, bo10o, bo10d, mv10f, mv10o, mv10d, nm11f, nm11o, nm11d, bo11f, bo11o, bo11d, mv11f, mv11o, mv11d, nm12f, nm12o, nm12d, bo12f, bo12o, bo12d, mv12f, mv12o, mv12d, nm13f, nm13o, nm13d, bo13f, bo13o, bo13d, mv13f, mv13o, mv13d, nm14f, nm14o, nm14d, bo14f, bo14o, bo14d, mv14f, mv14o, mv14d, nm15f, nm15o, nm15d, bo15f, bo15o, bo15d, mv15f, mv15o, mv15d, nm16f, bo16f, mv16f, nm16o, bo16o, mv16o, nm16d, bo16d, mv16d, nm17f, bo17f, mv17f, nm17o, bo17o, mv17o, nm17d, bo17d, mv17d, nm18f, bo18f, mv18f, nm18o, bo18o, mv18o, nm18d, bo18d, mv18d, nm19f, bo19f, mv19f, nm19o, bo19o, mv19o, nm19d, bo19d, mv19d, nm20f, bo20f, mv20f, nm20o, bo20o, mv20o, nm20d, bo20d, mv20d, nm21f, bo21f, mv21f, nm21o, bo21o, mv21o, nm21d, bo21d, mv21d, nm22f, bo22f, mv22f, nm22o, bo22o, mv22o, nm22d, bo22d, mv22d, nm23f, bo23f, mv23f, nm23o, bo23o, mv23o, nm23d, bo23d, mv23d, d_fr, fz_fr, isFr_fr, free_fr, d_ow, fz_ow, isFr_ow, free_ow, d_od, fz_od, isFr_od, free_od, d_bo, fz_bo, isFr_bo, free_bo, d_bd, fz_bd, isFr_bd, free_bd, w_add_i, w_add_s, w_add_l, w_add_t, w_sub, w_mul_i, w_mul_s, w_mul_l, w_mul_t, w_mod, w_fdv, w_pow, w_le_i, w_gt_i, w_ge_i, w_le_s, w_gt_s, w_ge_s, w_lt_i, w_lt_s, w_eq, w_ne, w_is_b, w_isN_b, w_in_l, w_nin_l, w_ix_l, w_ix_t, w_ix_s, w_sl_l, w_sl_t, w_sl_s, w_len_l, w_len_t, w_len_s, w_list_l, w_list_t, w_tuple_l, w_tuple_t, w_str, w_int_i, w_int_b, w_int_s, w_max2, w_max_l, w_min2, w_min_l, w_all, w_any, w_sorted_l, w_sorted_t, w_split, w_join, w_in_t, w_nin_t, w_in_ts, w_nin_ts, e_draw, e_cok_int, e_cok_bl, e_cok_str, List.map_cons, List.map_nil, List.all_cons, List.all_nil, List.length_cons, List.length_nil, List.getElem?_cons_zero, List.getElem?_cons_succ, List.set_cons_zero, List.set_cons_succ, retD, Tg.put, puts, wipeE, true_and, and_true, and_self, Bool.and_true, Bool.true_and, exists_eq_left', exists_eq_left, R.fr.injEq, R.ow.injEq, Option.some.injEq, D.bl.injEq, D.int.injEq, D.str.injEq, D.lst.injEq, D.tup.injEq, decide_eq_true_eq, if_true, exists_eq', Bool.not_true, Bool.not_false, ite_true, ite_false, if_false, Bool.false_eq_true]
        exact q _ ⟨true, rfl, fun _ => hpre, fun _ => rfl⟩
theorem cal__law_all_agree {f : Addr} {fd : FuncData} {f__law_rule : Addr} {fd__law_rule : FuncData} {f__law_all_agree : Addr} {fd__law_all_agree : FuncData} {k n : Nat} (F : Fun K "_law_all_agree" "_law_all_agree" s__law_all_agree f fd) (b : Binds K fd ["rows"] []) (m : mg "_law_all_agree" = some (.ref f)) (kp : PySem.W.keepIn K (.ref f) = true) (B : Bl mg) (C__law_rule : Cal P w K mg base k "_law_rule" ["values"] f__law_rule fd__law_rule sp__law_rule) (C__law_all_agree : Cal P w K mg base k "_law_all_agree" ["rows"] f__law_all_agree fd__law_all_agree (sp__law_all_agree n)) : Cal P w K mg base (k + 1) "_law_all_agree" ["rows"] f fd (sp__law_all_agree (n + 1)) := by
  refine ⟨fn_dl F sc__law_all_agree (fun ds Q h => ?len) fun cdv A outer s H E hr => ?body, ?mono, m, kp, b⟩
  case len =>
    obtain ⟨x, rfl, -⟩ := h; rfl
  case mono =>
    exact SP_mono
  case body =>
    have hu64 := hr.units; have hu100 : (A.deeper (envOfC "_law_all_agree" (defScope s__law_all_agree) s.heap.objs.size f cdv)).units + 100 < cLine := by have := hr.un; omega
    have hu65 : (A.deeper (envOfC "_law_all_agree" (defScope s__law_all_agree) s.heap.objs.size f cdv)).units + 65 < cLine := by omega
    have hu1 : (A.deeper (envOfC "_law_all_agree" (defScope s__law_all_agree) s.heap.objs.size f cdv)).units + 1 < cLine := by omega
    refine ⟨_, (qss_cons (qs_setLc (i := 1) [("row", 3)] rfl sc__law_all_agree.nd (qi_seq (qe_nm (i := 0))) (blkOk_by (by rfl)) (fun s H C cl fp => (qg_nm (i := 3) sc__law_all_agree.nd)) (fun s H C cl fp => (qts_one (qt_cmp (opd_ne hu64) (qe_bo (i := 3)) (qe_tup qa_nil) (by rfl)))) (fun s H C cl fp => (qe_nm (i := 3))) (sw_true rfl rfl rfl (by decide +kernel)))
    (qss_cons (qs_if (qt_not (qt_bool (qe_callC C__law_rule hr (by rfl) (qa_cons (qe_lc [("row", 3)] rfl sc__law_all_agree.nd (qi_seq (qe_nm (i := 1))) (blkOk_by (by rfl)) (fun s H C cl fp => (qg_nm (i := 3) sc__law_all_agree.nd)) (fun s H C cl fp => qts_nil) (fun s H C cl fp => (qe_ix hu1 (qe_bo (i := 3)) qe_int))) qa_nil))))
    (qss_one (qs_ret qe_bl))
    qss_nil)
    (qss_cons (qs_for PassesOwn.never rfl (qi_seq (qe_srtSet (by rfl) B.b_sorted (by rfl) B.b_set (qe_lc [("row", 3)] rfl sc__law_all_agree.nd (qi_seq (qe_nm (i := 1))) (blkOk_by (by rfl)) (fun s H C cl fp => (qg_nm (i := 3) sc__law_all_agree.nd)) (fun s H C cl fp => qts_nil) (fun s H C cl fp => (qe_ix hu1 (qe_bo (i := 3)) qe_int))))) (qg_nm (i := 2) sc__law_all_agree.nd)
    (qss_one (qs_if (qt_not (qt_bool (qe_callC C__law_all_agree hr (by rfl) (qa_cons (qe_lc [("row", 3)] rfl sc__law_all_agree.nd (qi_seq (qe_nm (i := 1))) (blkOk_by (by rfl)) (fun s H C cl fp => (qg_nm (i := 3) sc__law_all_agree.nd)) (fun s H C cl fp => (qts_one (qt_cmp (opd_eq hu64) (qe_ix hu1 (qe_bo (i := 3)) qe_int) (qe_bo (i := 2)) (by rfl)))) (fun s H C cl fp => (qe_sl (qe_bo (i := 3)) (qo_some qe_int) qo_none))) qa_nil))))
    (qss_one (qs_ret qe_bl))
    qss_nil)))
    (qss_one (qs_ret qe_bl))))), fun ds Q h => ?_⟩
    obtain ⟨rows, rfl, ⟨-, hl, hr0⟩, q⟩ := h
    show (_ : TSd) (retD Q) [some (.fr (.lst (rows.map rowD))), none, none, none]
    try simp only [e_dSeq, e_dNext, e_dSet, e_dRet, e_dDrop, e_dIfS, e_dTgS, e_dC, e_dBin, e_dTst, e_dChn, e_dAnd, e_dOr, e_dNot, e_dAndV, e_dOrV, e_dNotV, e_dIf, e_dNil, e_dCons, e_dLst, e_dTup, e_dCB, e_dCall, e_dYes, e_dApp, e_dAug, e_dAugM, e_dIsi, e_dIsi2, e_dSl, e_dNoP, e_dPart, e_dM1, e_dFor, e_dLC, e_dIt, e_dRng1, e_dZipM, e_dRngN, e_dRev, e_dPar0, w_maxT, e_dSrtSet, e_dItS, e_dPar2, e_dPar3, e_par2, e_par3, e_dCallD, e_dCallK, e_dRng2, e_dEnum, e_dZip, nm0f, nm0o, nm0d, bo0f, bo0o, bo0d, mv0f, mv0o, mv0d, nm1f, nm1o, nm1d, bo1f, bo1o, bo1d, mv1f, mv1o, mv1d, nm2f, nm2o, nm2d, bo2f, bo2o, bo2d, mv2f, mv2o, mv2d, nm3f, nm3o, nm3d, bo3f, bo3o, bo3d, mv3f, mv3o, mv3d, nm4f, nm4o, nm4d, bo4f, bo4o, bo4d, mv4f, mv4o, mv4d, nm5f, nm5o, nm5d, bo5f, bo5o, bo5d, mv5f, mv5o, mv5d, nm6f, nm6o, nm6d, bo6f, bo6o, bo6d, mv6f, mv6o, mv6d, nm7f, nm7o, nm7d, bo7f, bo7o, bo7d, mv7f, mv7o, mv7d, nm8f, nm8o, nm8d, bo8f, bo8o, bo8d, mv8f, mv8o, mv8d, nm9f, nm9o, nm9d, bo9f, bo9o, bo9d, mv9f, mv9o, mv9d, nm10f, nm10o, nm10d, bo10f, bo10o, bo10d, mv10f, mv10o, mv10d, nm11f, nm11o, nm11d, bo11f, bo11o, bo11d, mv11f, mv11o, mv11d, nm12f, nm12o, nm12d, bo12f, bo12o, bo12d, mv12f, mv12o, mv12d, nm13f, nm13o, nm13d, bo13f, bo13o, bo13d, mv13f, mv13o, mv13d, nm14f, nm14o, nm14d, bo14f, bo14o, bo14d, mv14f, mv14o, mv14d, nm15f, nm15o, nm15d, bo15f, bo15o, bo15d, mv15f, mv15o, mv15d, nm16f, bo16f, mv16f, nm16o, bo16o, mv16o, nm16d, bo16d, mv16d, nm17f, bo17f, mv17f, nm17o, bo17o, mv17o, nm17d, bo17d, mv17d, nm18f, bo18f, mv18f, nm18o, bo18o, mv18o, nm18d, bo18d, mv18d, nm19f, bo19f, mv19f, nm19o, bo19o, mv19o, nm19d, bo19d, mv19d, nm20f, bo20f, mv20f, nm20o, bo20o, mv20o, nm20d, bo20d, mv20d, nm21f, bo21f, mv21f, nm21o, bo21o, mv21o, nm21d, bo21d, mv21d, nm22f, bo22f, mv22f, nm22o, bo22o, mv22o, nm22d, bo22d, mv22d, nm23f, bo23f, mv23f, nm23o, bo23o, mv23o, nm23d, bo23d, mv23d, d_fr, fz_fr, isFr_fr, free_fr, d_ow, fz_ow, isFr_ow, free_ow, d_od, fz_od, isFr_od, free_od, d_bo, fz_bo, isFr_bo, free_bo, d_bd, fz_bd, isFr_bd, free_bd, w_add_i, w_add_s, w_add_l, w_add_t, w_sub, w_mul_i, w_mul_s, w_mul_l, w_mul_t, w_mod, w_fdv, w_pow, w_le_i, w_gt_i, w_ge_i, w_le_s, w_gt_s, w_ge_s, w_lt_i, w_lt_s, w_eq, w_ne, w_is_b, w_isN_b, w_in_l, w_nin_l, w_ix_l, w_ix_t, w_ix_s, w_sl_l, w_sl_t, w_sl_s, w_len_l, w_len_t, w_len_s, w_list_l, w_list_t, w_tuple_l, w_tuple_t, w_str, w_int_i, w_int_b, w_int_s, w_max2, w_max_l, w_min2, w_min_l, w_all, w_any, w_sorted_l, w_sorted_t, w_split, w_join, w_in_t, w_nin_t, w_in_ts, w_nin_ts, e_draw, e_cok_int, e_cok_bl, e_cok_str, List.map_cons, List.map_nil, List.all_cons, List.all_nil, List.length_cons, List.length_nil, List.getElem?_cons_zero, List.getElem?_cons_succ, List.set_cons_zero, List.set_cons_succ, retD, Tg.put, puts, wipeE, true_and, and_true, and_self, Bool.and_true, Bool.true_and, exists_eq_left', exists_eq_left, R.fr.injEq, R.ow.injEq, Option.some.injEq, D.bl.injEq, D.int.injEq, D.str.injEq, D.lst.injEq, D.tup.injEq, decide_eq_true_eq, if_true, exists_eq', Bool.not_true, Bool.not_false, ite_true, ite_false, if_false, Bool.false_eq_true]
    refine comp_filterF (fun r : List Int => decide (r ≠ [])) rowD rfl (fun r hm P hP => ?_) ?_
    · refine ⟨_, rfl, ?_⟩
      try simp only [e_dSeq, e_dNext, e_dSet, e_dRet, e_dDrop, e_dIfS, e_dTgS, e_dC, e_dBin, e_dTst, e_dChn, e_dAnd, e_dOr, e_dNot, e_dAndV, e_dOrV, e_dNotV, e_dIf, e_dNil, e_dCons, e_dLst, e_dTup, e_dCB, e_dCall, e_dYes, e_dApp, e_dAug, e_dAugM, e_dIsi, e_dIsi2, e_dSl, e_dNoP, e_dPart, e_dM1, e_dFor, e_dLC, e_dIt, e_dRng1, e_dZipM, e_dRngN, e_dRev, e_dPar0, w_maxT, e_dSrtSet, e_dItS, e_dPar2, e_dPar3, e_par2, e_par3, e_dCallD, e_dCallK, e_dRng2, e_dEnum, e_dZip, nm0f, nm0o, nm0d, bo0f, bo0o, bo0d, mv0f, mv0o, mv0d, nm1f, nm1o, nm1d, bo1f, bo1o, bo1d, mv1f, mv1o, mv1d, nm2f, nm2o, nm2d, bo2f, bo2o, bo2d, mv2f, mv2o, mv2d, nm3f, nm3o, nm3d, bo3f, bo3o, bo3d, mv3f, mv3o, mv3d, nm4f, nm4o, nm4d, bo4f, bo4o, bo4d, mv4f, mv4o, mv4d, nm5f, nm5o, nm5d, bo5f, bo5o, bo5d, mv5f, mv5o, mv5d, nm6f, nm6o, nm6d, bo6f, bo6o, bo6d, mv6f, mv6o, mv6d, nm7f, nm7o, nm7d, bo7f, bo7o, bo7d, mv7f, mv7o, mv7d, nm8f, nm8o, nm8d, bo8f, bo8o, bo8d, mv8f, mv8o, mv8d, nm9f, nm9o, nm9d, bo9f, bo9o, bo9d, mv9f, mv9o, mv9d, nm10f, nm10o, nm10d, bo10f, bo10o, bo10d, mv10f, mv10o, mv10d, nm11f, nm11o, nm11d, bo11f, bo11o, bo11d, mv11f, mv11o, mv11d, nm12f, nm12o, nm12d, bo12f, bo12o, bo12d, mv12f, mv12o, mv12d, nm13f, nm13o, nm13d, bo13f, bo13o, bo13d, mv13f, mv13o, mv13d, nm14f, nm14o, nm14d, bo14f, bo14o, bo14d, mv14f, mv14o, mv14d, nm15f, nm15o, nm15d, bo15f, bo15o, bo15d, mv15f, mv15o, mv15d, nm16f, bo16f, mv16f, nm16o, bo16o, mv16o, nm16d, bo16d, mv16d, nm17f, bo17f, mv17f, nm17o, bo17o, mv17o, nm17d, bo17d, mv17d, nm18f, bo18f, mv18f, nm18o, bo18o, mv18o, nm18d, bo18d, mv18d, nm19f, bo19f, mv19f, nm19o, bo19o, mv19o, nm19d, bo19d, mv19d, nm20f, bo20f, mv20f, nm20o, bo20o, mv20o, nm20d, bo20d, mv20d, nm21f, bo21f, mv21f, nm21o, bo21o, mv21o, nm21d, bo21d, mv21d, nm22f, bo22f, mv22f, nm22o, bo22o, mv22o, nm22d, bo22d, mv22d, nm23f, bo23f, mv23f, nm23o, bo23o, mv23o, nm23d, bo23d, mv23d, d_fr, fz_fr, isFr_fr, free_fr, d_ow, fz_ow, isFr_ow, free_ow, d_od, fz_od, isFr_od, free_od, d_bo, fz_bo, isFr_bo, free_bo, d_bd, fz_bd, isFr_bd, free_bd, w_add_i, w_add_s, w_add_l, w_add_t, w_sub, w_mul_i, w_mul_s, w_mul_l, w_mul_t, w_mod, w_fdv, w_pow, w_le_i, w_gt_i, w_ge_i, w_le_s, w_gt_s, w_ge_s, w_lt_i, w_lt_s, w_eq, w_ne, w_is_b, w_isN_b, w_in_l, w_nin_l, w_ix_l, w_ix_t, w_ix_s, w_sl_l, w_sl_t, w_sl_s, w_len_l, w_len_t, w_len_s, w_list_l, w_list_t, w_tuple_l, w_tuple_t, w_str, w_int_i, w_int_b, w_int_s, w_max2, w_max_l, w_min2, w_min_l, w_all, w_any, w_sorted_l, w_sorted_t, w_split, w_join, w_in_t, w_nin_t, w_in_ts, w_nin_ts, e_draw, e_cok_int, e_cok_bl, e_cok_str, List.map_cons, List.map_nil, List.all_cons, List.all_nil, List.length_cons, List.length_nil, List.getElem?_cons_zero, List.getElem?_cons_succ, List.set_cons_zero, List.set_cons_succ, retD, Tg.put, puts, wipeE, true_and, and_true, and_self, Bool.and_true, Bool.true_and, exists_eq_left', exists_eq_left, R.fr.injEq, R.ow.injEq, Option.some.injEq, D.bl.injEq, D.int.injEq, D.str.injEq, D.lst.injEq, D.tup.injEq, decide_eq_true_eq, if_true, exists_eq', Bool.not_true, Bool.not_false, ite_true, ite_false, if_false, Bool.false_eq_true]
      have e : D.eqv (rowD r) (.tup []) = decide (r = []) := rowD_inj r []
      refine ⟨Nat.zero_le _, (lay_row r).shp, (lay_row []).shp, ?_⟩
      rw [e]
      refine ite_k (fun c => ?_) fun c => ?_
      · have c : r ≠ [] := by simpa using c
        simpa [c] using hP
      · have c : r = [] := by simpa using c
        simpa [c] using hP
    rw [show rows.filter (fun r : List Int => decide (r ≠ [])) = someR rows from rfl]
    have sl : (someR rows).length ≤ rows.length := List.length_filter_le _ _
    have un : ∀ r ∈ someR rows, ∃ a x, r = a :: x ∧ a :: x ∈ rows := fun r hr => by
      have h := List.mem_filter.mp hr
      cases r with
      | nil => simp at h
      | cons a x => exact ⟨a, x, rfl, h.1⟩
    have hat : ∀ r ∈ someR rows, atI (r.map D.int) (0 : Int) = some (.int (hd0 r)) := fun r hr => by
      obtain ⟨a, x, rfl, _⟩ := un r hr
      exact atI_nat (xs := (a :: x).map D.int) (j := 0) rfl
    have hpos : ∀ n ∈ (someR rows).map hd0, PosI n := fun n hn => by
      obtain ⟨r, hr, rfl⟩ := List.mem_map.mp hn
      obtain ⟨a, x, rfl, h1⟩ := un r hr
      have := (hr0 _ h1).2 a List.mem_cons_self
      exact ⟨this.1, by show a < 10 ^ 17; have := this.2; omega⟩
    try simp only [e_dSeq, e_dNext, e_dSet, e_dRet, e_dDrop, e_dIfS, e_dTgS, e_dC, e_dBin, e_dTst, e_dChn, e_dAnd, e_dOr, e_dNot, e_dAndV, e_dOrV, e_dNotV, e_dIf, e_dNil, e_dCons, e_dLst, e_dTup, e_dCB, e_dCall, e_dYes, e_dApp, e_dAug, e_dAugM, e_dIsi, e_dIsi2, e_dSl, e_dNoP, e_dPart, e_dM1, e_dFor, e_dLC, e_dIt, e_dRng1, e_dZipM, e_dRngN, e_dRev, e_dPar0, w_maxT, e_dSrtSet, e_dItS, e_dPar2, e_dPar3, e_par2, e_par3, e_dCallD, e_dCallK, e_dRng2, e_dEnum, e_dZip, nm0f, nm0o, nm0d, bo0f, bo0o, bo0d, mv0f, mv0o, mv0d, nm1f, nm1o, nm1d, bo1f, bo1o, bo1d, mv1f, mv1o, mv1d, nm2f, nm2o, nm2d, bo2f, bo2o, bo2d, mv2f, mv2o, mv2d, nm3f, nm3o, nm3d, bo3f, bo3o, bo3d, mv3f, mv3o, mv3d, nm4f, nm4o, nm4d, bo4f, bo4o, bo4d, mv4f, mv4o, mv4d, nm5f, nm5o, nm5d, bo5f, bo5o, bo5d, mv5f, mv5o, mv5d, nm6f, nm6o, nm6d, bo6f, bo6o, bo6d, mv6f, mv6o, mv6d, nm7f, nm7o, nm7d, bo7f, bo7o, bo7d, mv7f, mv7o, mv7d, nm8f, nm8o, nm8d, bo8f, bo8o, bo8d, mv8f, mv8o, mv8d, nm9f, nm9o, nm9d, bo9f, bo9o, bo9d, mv9f, mv9o, mv9d, nm10f, nm10o, nm10d, bo10f, bo10o, bo10d, mv10f, mv10o, mv10d, nm11f, nm11o, nm11d, bo11f, bo11o, bo11d, mv11f, mv11o, mv11d, nm12f, nm12o, nm12d, bo12f, bo12o, bo12d, mv12f, mv12o, mv12d, nm13f, nm13o, nm13d, bo13f, bo13o, bo13d, mv13f, mv13o, mv13d, nm14f, nm14o, nm14d, bo14f, bo14o, bo14d, mv14f, mv14o, mv14d, nm15f, nm15o, nm15d, bo15f, bo15o, bo15d, mv15f, mv15o, mv15d, nm16f, bo16f, mv16f, nm16o, bo16o, mv16o, nm16d, bo16d, mv16d, nm17f, bo17f, mv17f, nm17o, bo17o, mv17o, nm17d, bo17d, mv17d, nm18f, bo18f, mv18f, nm18o, bo18o, mv18o, nm18d, bo18d, mv18d, nm19f, bo19f, mv19f, nm19o, bo19o, mv19o, nm19d, bo19d, mv19d, nm20f, bo20f, mv20f, nm20o, bo20o, mv20o, nm20d, bo20d, mv20d, nm21f, bo21f, mv21f, nm21o, bo21o, mv21o, nm21d, bo21d, mv21d, nm22f, bo22f, mv22f, nm22o, bo22o, mv22o, nm22d, bo22d, mv22d, nm23f, bo23f, mv23f, nm23o, bo23o, mv23o, nm23d, bo23d, mv23d, d_fr, fz_fr, isFr_fr, free_fr, d_ow, fz_ow, isFr_ow, free_ow, d_od, fz_od, isFr_od, free_od, d_bo, fz_bo, isFr_bo, free_bo, d_bd, fz_bd, isFr_bd, free_bd, w_add_i, w_add_s, w_add_l, w_add_t, w_sub, w_mul_i, w_mul_s, w_mul_l, w_mul_t, w_mod, w_fdv, w_pow, w_le_i, w_gt_i, w_ge_i, w_le_s, w_gt_s, w_ge_s, w_lt_i, w_lt_s, w_eq, w_ne, w_is_b, w_isN_b, w_in_l, w_nin_l, w_ix_l, w_ix_t, w_ix_s, w_sl_l, w_sl_t, w_sl_s, w_len_l, w_len_t, w_len_s, w_list_l, w_list_t, w_tuple_l, w_tuple_t, w_str, w_int_i, w_int_b, w_int_s, w_max2, w_max_l, w_min2, w_min_l, w_all, w_any, w_sorted_l, w_sorted_t, w_split, w_join, w_in_t, w_nin_t, w_in_ts, w_nin_ts, e_draw, e_cok_int, e_cok_bl, e_cok_str, List.map_cons, List.map_nil, List.all_cons, List.all_nil, List.length_cons, List.length_nil, List.getElem?_cons_zero, List.getElem?_cons_succ, List.set_cons_zero, List.set_cons_succ, retD, Tg.put, puts, wipeE, true_and, and_true, and_self, Bool.and_true, Bool.true_and, exists_eq_left', exists_eq_left, R.fr.injEq, R.ow.injEq, Option.some.injEq, D.bl.injEq, D.int.injEq, D.str.injEq, D.lst.injEq, D.tup.injEq, decide_eq_true_eq, if_true, exists_eq', Bool.not_true, Bool.not_false, ite_true, ite_false, if_false, Bool.false_eq_true]
    refine comp_mapF (fun r => .int (hd0 r)) rfl (fun r hm P hP => ?_) ?_
    · refine ⟨_, rfl, ?_⟩
      try simp only [e_dSeq, e_dNext, e_dSet, e_dRet, e_dDrop, e_dIfS, e_dTgS, e_dC, e_dBin, e_dTst, e_dChn, e_dAnd, e_dOr, e_dNot, e_dAndV, e_dOrV, e_dNotV, e_dIf, e_dNil, e_dCons, e_dLst, e_dTup, e_dCB, e_dCall, e_dYes, e_dApp, e_dAug, e_dAugM, e_dIsi, e_dIsi2, e_dSl, e_dNoP, e_dPart, e_dM1, e_dFor, e_dLC, e_dIt, e_dRng1, e_dZipM, e_dRngN, e_dRev, e_dPar0, w_maxT, e_dSrtSet, e_dItS, e_dPar2, e_dPar3, e_par2, e_par3, e_dCallD, e_dCallK, e_dRng2, e_dEnum, e_dZip, nm0f, nm0o, nm0d, bo0f, bo0o, bo0d, mv0f, mv0o, mv0d, nm1f, nm1o, nm1d, bo1f, bo1o, bo1d, mv1f, mv1o, mv1d, nm2f, nm2o, nm2d, bo2f, bo2o, bo2d, mv2f, mv2o, mv2d, nm3f, nm3o, nm3d, bo3f, bo3o, bo3d, mv3f, mv3o, mv3d, nm4f, nm4o, nm4d, bo4f, bo4o, bo4d, mv4f, mv4o, mv4d, nm5f, nm5o, nm5d, bo5f, bo5o, bo5d, mv5f, mv5o, mv5d, nm6f, nm6o, nm6d, bo6f, bo6o, bo6d, mv6f, mv6o, mv6d, nm7f, nm7o, nm7d, bo7f, bo7o, bo7d, mv7f, mv7o, mv7d, nm8f, nm8o, nm8d, bo8f, bo8o, bo8d, mv8f, mv8o, mv8d, nm9f, nm9o, nm9d, bo9f, bo9o, bo9d, mv9f, mv9o, mv9d, nm10f, nm10o, nm10d, bo10f, bo10o, bo10d, mv10f, mv10o, mv10d, nm11f, nm11o, nm11d, bo11f, bo11o, bo11d, mv11f, mv11o, mv11d, nm12f, nm12o, nm12d, bo12f, bo12o, bo12d, mv12f, mv12o, mv12d, nm13f, nm13o, nm13d, bo13f, bo13o, bo13d, mv13f, mv13o, mv13d, nm14f, nm14o, nm14d, bo14f, bo14o, bo14d, mv14f, mv14o, mv14d, nm15f, nm15o, nm15d, bo15f, bo15o, bo15d, mv15f, mv15o, mv15d, nm16f, bo16f, mv16f, nm16o, bo16o, mv16o, nm16d, bo16d, mv16d, nm17f, bo17f, mv17f, nm17o, bo17o, mv17o, nm17d, bo17d, mv17d, nm18f, bo18f, mv18f, nm18o, bo18o, mv18o, nm18d, bo18d, mv18d, nm19f, bo19f, mv19f, nm19o, bo19o, mv19o, nm19d, bo19d, mv19d, nm20f, bo20f, mv20f, nm20o, bo20o, mv20o, nm20d, bo20d, mv20d, nm21f, bo21f, mv21f, nm21o, bo21o, mv21o, nm21d, bo21d, mv21d, nm22f, bo22f, mv22f, nm22o, bo22o, mv22o, nm22d, bo22d, mv22d, nm23f, bo23f, mv23f, nm23o, bo23o, mv23o, nm23d, bo23d, mv23d, d_fr, fz_fr, isFr_fr, free_fr, d_ow, fz_ow, isFr_ow, free_ow, d_od, fz_od, isFr_od, free_od, d_bo, fz_bo, isFr_bo, free_bo, d_bd, fz_bd, isFr_bd, free_bd, w_add_i, w_add_s, w_add_l, w_add_t, w_sub, w_mul_i, w_mul_s, w_mul_l, w_mul_t, w_mod, w_fdv, w_pow, w_le_i, w_gt_i, w_ge_i, w_le_s, w_gt_s, w_ge_s, w_lt_i, w_lt_s, w_eq, w_ne, w_is_b, w_isN_b, w_in_l, w_nin_l, w_ix_l, w_ix_t, w_ix_s, w_sl_l, w_sl_t, w_sl_s, w_len_l, w_len_t, w_len_s, w_list_l, w_list_t, w_tuple_l, w_tuple_t, w_str, w_int_i, w_int_b, w_int_s, w_max2, w_max_l, w_min2, w_min_l, w_all, w_any, w_sorted_l, w_sorted_t, w_split, w_join, w_in_t, w_nin_t, w_in_ts, w_nin_ts, e_draw, e_cok_int, e_cok_bl, e_cok_str, List.map_cons, List.map_nil, List.all_cons, List.all_nil, List.length_cons, List.length_nil, List.getElem?_cons_zero, List.getElem?_cons_succ, List.set_cons_zero, List.set_cons_succ, retD, Tg.put, puts, wipeE, true_and, and_true, and_self, Bool.and_true, Bool.true_and, exists_eq_left', exists_eq_left, R.fr.injEq, R.ow.injEq, Option.some.injEq, D.bl.injEq, D.int.injEq, D.str.injEq, D.lst.injEq, D.tup.injEq, decide_eq_true_eq, if_true, exists_eq', Bool.not_true, Bool.not_false, ite_true, ite_false, if_false, Bool.false_eq_true]
      exact ⟨_, hat r hm, trivial, hP⟩
    have eh : ((someR rows).map fun r => D.int (hd0 r)) = ((someR rows).map hd0).map D.int := by rw [List.map_map]; rfl
    rw [eh]
    try simp only [e_dSeq, e_dNext, e_dSet, e_dRet, e_dDrop, e_dIfS, e_dTgS, e_dC, e_dBin, e_dTst, e_dChn, e_dAnd, e_dOr, e_dNot, e_dAndV, e_dOrV, e_dNotV, e_dIf, e_dNil, e_dCons, e_dLst, e_dTup, e_dCB, e_dCall, e_dYes, e_dApp, e_dAug, e_dAugM, e_dIsi, e_dIsi2, e_dSl, e_dNoP, e_dPart, e_dM1, e_dFor, e_dLC, e_dIt, e_dRng1, e_dZipM, e_dRngN, e_dRev, e_dPar0, w_maxT, e_dSrtSet, e_dItS, e_dPar2, e_dPar3, e_par2, e_par3, e_dCallD, e_dCallK, e_dRng2, e_dEnum, e_dZip, nm0f, nm0o, nm0d, bo0f, bo0o, bo0d, mv0f, mv0o, mv0d, nm1f, nm1o, nm1d, bo1f, bo1o, bo1d, mv1f, mv1o, mv1d, nm2f, nm2o, nm2d, bo2f, bo2o, bo2d, mv2f, mv2o, mv2d, nm3f, nm3o, nm3d, bo3f, bo3o, bo3d, mv3f, mv3o, mv3d, nm4f, nm4o, nm4d, bo4f, bo4o, bo4d, mv4f, mv4o, mv4d, nm5f, nm5o, nm5d, bo5f, bo5o, bo5d, mv5f, mv5o, mv5d, nm6f, nm6o, nm6d, bo6f, bo6o, bo6d, mv6f, mv6o, mv6d, nm7f, nm7o, nm7d, bo7f, bo7o, bo7d, mv7f, mv7o, mv7d, nm8f, nm8o, nm8d, bo8f, bo8o, bo8d, mv8f, mv8o, mv8d, nm9f, nm9o, nm9d, bo9f, bo9o, bo9d, mv9f, mv9o, mv9d, nm10f, nm10o, nm10d, bo10f, bo10o, bo10d, mv10f, mv10o, mv10d, nm11f, nm11o, nm11d, bo11f, bo11o, bo11d, mv11f, mv11o, mv11d, nm12f, nm12o, nm12d, bo12f, bo12o, bo12d, mv12f, mv12o, mv12d, nm13f, nm13o, nm13d, bo13f, bo13o, bo13d, mv13f, mv13o, mv13d, nm14f, nm14o, nm14d, bo14f, bo14o, bo14d, mv14f, mv14o, mv14d, nm15f, nm15o, nm15d, bo15f, bo15o, bo15d, mv15f, mv15o, mv15d, nm16f, bo16f, mv16f, nm16o, bo16o, mv16o, nm16d, bo16d, mv16d, nm17f, bo17f, mv17f, nm17o, bo17o, mv17o, nm17d, bo17d, mv17d, nm18f, bo18f, mv18f, nm18o, bo18o, mv18o, nm18d, bo18d, mv18d, nm19f, bo19f, mv19f, nm19o, bo19o, mv19o, nm19d, bo19d, mv19d, nm20f, bo20f, mv20f, nm20o, bo20o, mv20o, nm20d, bo20d, mv20d, nm21f, bo21f, mv21f, nm21o, bo21o, mv21o, nm21d, bo21d, mv21d, nm22f, bo22f, mv22f, nm22o, bo22o, mv22o, nm22d, bo22d, mv22d, nm23f, bo23f, mv23f, nm23o, bo23o, mv23o, nm23d, bo23d, mv23d, d_fr, fz_fr, isFr_fr, free_fr, d_ow, fz_ow, isFr_ow, free_ow, d_od, fz_od, isFr_od, free_od, d_bo, fz_bo, isFr_bo, free_bo, d_bd, fz_bd, isFr_bd, free_bd, w_add_i, w_add_s, w_add_l, w_add_t, w_sub, w_mul_i, w_mul_s, w_mul_l, w_mul_t, w_mod, w_fdv, w_pow, w_le_i, w_gt_i, w_ge_i, w_le_s, w_gt_s, w_ge_s, w_lt_i, w_lt_s, w_eq, w_ne, w_is_b, w_isN_b, w_in_l, w_nin_l, w_ix_l, w_ix_t, w_ix_s, w_sl_l, w_sl_t, w_sl_s, w_len_l, w_len_t, w_len_s, w_list_l, w_list_t, w_tuple_l, w_tuple_t, w_str, w_int_i, w_int_b, w_int_s, w_max2, w_max_l, w_min2, w_min_l, w_all, w_any, w_sorted_l, w_sorted_t, w_split, w_join, w_in_t, w_nin_t, w_in_ts, w_nin_ts, e_draw, e_cok_int, e_cok_bl, e_cok_str, List.map_cons, List.map_nil, List.all_cons, List.all_nil, List.length_cons, List.length_nil, List.getElem?_cons_zero, List.getElem?_cons_succ, List.set_cons_zero, List.set_cons_succ, retD, Tg.put, puts, wipeE, true_and, and_true, and_self, Bool.and_true, Bool.true_and, exists_eq_left', exists_eq_left, R.fr.injEq, R.ow.injEq, Option.some.injEq, D.bl.injEq, D.int.injEq, D.str.injEq, D.lst.injEq, D.tup.injEq, decide_eq_true_eq, if_true, exists_eq', Bool.not_true, Bool.not_false, ite_true, ite_false, if_false, Bool.false_eq_true]
    refine ⟨(false, (someR rows).map hd0), rfl, hpos, ?_⟩
    rintro r ⟨b, rfl, hb⟩
    dsimp only at hb
    try simp only [e_dSeq, e_dNext, e_dSet, e_dRet, e_dDrop, e_dIfS, e_dTgS, e_dC, e_dBin, e_dTst, e_dChn, e_dAnd, e_dOr, e_dNot, e_dAndV, e_dOrV, e_dNotV, e_dIf, e_dNil, e_dCons, e_dLst, e_dTup, e_dCB, e_dCall, e_dYes, e_dApp, e_dAug, e_dAugM, e_dIsi, e_dIsi2, e_dSl, e_dNoP, e_dPart, e_dM1, e_dFor, e_dLC, e_dIt, e_dRng1, e_dZipM, e_dRngN, e_dRev, e_dPar0, w_maxT, e_dSrtSet, e_dItS, e_dPar2, e_dPar3, e_par2, e_par3, e_dCallD, e_dCallK, e_dRng2, e_dEnum, e_dZip, nm0f, nm0o, nm0d, bo0f, bo0o, bo0d, mv0f, mv0o, mv0d, nm1f, nm1o, nm1d, bo1f, bo1o, bo1d, mv1f, mv1o, mv1d, nm2f, nm2o, nm2d, bo2f, bo2o, bo2d, mv2f, mv2o, mv2d, nm3f, nm3o, nm3d, bo3f, bo3o, bo3d, mv3f, mv3o, mv3d, nm4f, nm4o, nm4d, bo4f, bo4o, bo4d, mv4f, mv4o, mv4d, nm5f, nm5o, nm5d, bo5f, bo5o, bo5d, mv5f, mv5o, mv5d, nm6f, nm6o, nm6d, bo6f, bo6o, bo6d, mv6f, mv6o, mv6d, nm7f, nm7o, nm7d, bo7f, bo7o, bo7d, mv7f, mv7o, mv7d, nm8f, nm8o, nm8d, bo8f, bo8o, bo8d, mv8f, mv8o, mv8d, nm9f, nm9o, nm9d, bo9f, bo9o, bo9d, mv9f, mv9o, mv9d, nm10f, nm10o, nm10d, bo10f, bo10o, bo10d, mv10f, mv10o, mv10d, nm11f, nm11o, nm11d, bo11f, bo11o, bo11d, mv11f, mv11o, mv11d, nm12f, nm12o, nm12d, bo12f, bo12o, bo12d, mv12f, mv12o, mv12d, nm13f, nm13o, nm13d, bo13f, bo13o, bo13d, mv13f, mv13o, mv13d, nm14f, nm14o, nm14d, bo14f, bo14o, bo14d, mv14f, mv14o, mv14d, nm15f, nm15o, nm15d, bo15f, bo15o, bo15d, mv15f, mv15o, mv15d, nm16f, bo16f, mv16f, nm16o, bo16o, mv16o, nm16d, bo16d, mv16d, nm17f, bo17f, mv17f, nm17o, bo17o, mv17o, nm17d, bo17d, mv17d, nm18f, bo18f, mv18f, nm18o, bo18o, mv18o, nm18d, bo18d, mv18d, nm19f, bo19f, mv19f, nm19o, bo19o, mv19o, nm19d, bo19d, mv19d, nm20f, bo20f, mv20f, nm20o, bo20o, mv20o, nm20d, bo20d, mv20d, nm21f, bo21f, mv21f, nm21o, bo21o, mv21o, nm21d, bo21d, mv21d, nm22f, bo22f, mv22f, nm22o, bo22o, mv22o, nm22d, bo22d, mv22d, nm23f, bo23f, mv23f, nm23o, bo23o, mv23o, nm23d, bo23d, mv23d, d_fr, fz_fr, isFr_fr, free_fr, d_ow, fz_ow, isFr_ow, free_ow, d_od, fz_od, isFr_od, free_od, d_bo, fz_bo, isFr_bo, free_bo, d_bd, fz_bd, isFr_bd, free_bd, w_add_i, w_add_s, w_add_l, w_add_t, w_sub, w_mul_i, w_mul_s, w_mul_l, w_mul_t, w_mod, w_fdv, w_pow, w_le_i, w_gt_i, w_ge_i, w_le_s, w_gt_s, w_ge_s, w_lt_i, w_lt_s, w_eq, w_ne, w_is_b, w_isN_b, w_in_l, w_nin_l, w_ix_l, w_ix_t, w_ix_s, w_sl_l, w_sl_t, w_sl_s, w_len_l, w_len_t, w_len_s, w_list_l, w_list_t, w_tuple_l, w_tuple_t, w_str, w_int_i, w_int_b, w_int_s, w_max2, w_max_l, w_min2, w_min_l, w_all, w_any, w_sorted_l, w_sorted_t, w_split, w_join, w_in_t, w_nin_t, w_in_ts, w_nin_ts, e_draw, e_cok_int, e_cok_bl, e_cok_str, List.map_cons, List.map_nil, List.all_cons, List.all_nil, List.length_cons, List.length_nil, List.getElem?_cons_zero, List.getElem?_cons_succ, List.set_cons_zero, List.set_cons_succ, retD, Tg.put, puts, wipeE, true_and, and_true, and_self, Bool.and_true, Bool.true_and, exists_eq_left', exists_eq_left, R.fr.injEq, R.ow.injEq, Option.some.injEq, D.bl.injEq, D.int.injEq, D.str.injEq, D.lst.injEq, D.tup.injEq, decide_eq_true_eq, if_true, exists_eq', Bool.not_true, Bool.not_false, ite_true, ite_false, if_false, Bool.false_eq_true]
    have split := ag_split rows
    cases b with
    | false => exact q _ ⟨false, rfl, fun z => (by cases z), fun z => absurd (hb.mpr (split.mp z).1) (by simp)⟩
    | true =>
    have hAV := hb.mp rfl
    try simp only [e_dSeq, e_dNext, e_dSet, e_dRet, e_dDrop, e_dIfS, e_dTgS, e_dC, e_dBin, e_dTst, e_dChn, e_dAnd, e_dOr, e_dNot, e_dAndV, e_dOrV, e_dNotV, e_dIf, e_dNil, e_dCons, e_dLst, e_dTup, e_dCB, e_dCall, e_dYes, e_dApp, e_dAug, e_dAugM, e_dIsi, e_dIsi2, e_dSl, e_dNoP, e_dPart, e_dM1, e_dFor, e_dLC, e_dIt, e_dRng1, e_dZipM, e_dRngN, e_dRev, e_dPar0, w_maxT, e_dSrtSet, e_dItS, e_dPar2, e_dPar3, e_par2, e_par3, e_dCallD, e_dCallK, e_dRng2, e_dEnum, e_dZip, nm0f, nm0o, nm0d, bo0f, bo0o, bo0d, mv0f, mv0o, mv0d, nm1f, nm1o, nm1d, bo1f, bo1o, bo1d, mv1f, mv1o, mv1d, nm2f, nm2o, nm2d, bo2f, bo2o, bo2d, mv2f, mv2o, mv2d, nm3f, nm3o, nm3d, bo3f, bo3o, bo3d, mv3f, mv3o, mv3d, nm4f, nm4o, nm4d, bo4f, bo4o, bo4d, mv4f, mv4o, mv4d, nm5f, nm5o, nm5d, bo5f, bo5o, bo5d, mv5f, mv5o, mv5d, nm6f, nm6o, nm6d, bo6f, bo6o, bo6d, mv6f, mv6o, mv6d, nm7f, nm7o, nm7d, bo7f, bo7o, bo7d, mv7f, mv7o, mv7d, nm8f, nm8o, nm8d, bo8f, bo8o, bo8d, mv8f, mv8o, mv8d, nm9f, nm9o, nm9d, bo9f, bo9o, bo9d, mv9f, mv9o, mv9d, nm10f, nm10o, nm10d, bo10f, bo10o, bo10d, mv10f, mv10o, mv10d, nm11f, nm11o, nm11d, bo11f, bo11o, bo11d, mv11f, mv11o, mv11d, nm12f, nm12o, nm12d, bo12f, bo12o, bo12d, mv12f, mv12o, mv12d, nm13f, nm13o, nm13d, bo13f, bo13o, bo13d, mv13f, mv13o, mv13d, nm14f, nm14o, nm14d, bo14f, bo14o, bo14d, mv14f, mv14o, mv14d, nm15f, nm15o, nm15d, bo15f, bo15o, bo15d, mv15f, mv15o, mv15d, nm16f, bo16f, mv16f, nm16o, bo16o, mv16o, nm16d, bo16d, mv16d, nm17f, bo17f, mv17f, nm17o, bo17o, mv17o, nm17d, bo17d, mv17d, nm18f, bo18f, mv18f, nm18o, bo18o, mv18o, nm18d, bo18d, mv18d, nm19f, bo19f, mv19f, nm19o, bo19o, mv19o, nm19d, bo19d, mv19d, nm20f, bo20f, mv20f, nm20o, bo20o, mv20o, nm20d, bo20d, mv20d, nm21f, bo21f, mv21f, nm21o, bo21o, mv21o, nm21d, bo21d, mv21d, nm22f, bo22f, mv22f, nm22o, bo22o, mv22o, nm22d, bo22d, mv22d, nm23f, bo23f, mv23f, nm23o, bo23o, mv23o, nm23d, bo23d, mv23d, d_fr, fz_fr, isFr_fr, free_fr, d_ow, fz_ow, isFr_ow, free_ow, d_od, fz_od, isFr_od, free_od, d_bo, fz_bo, isFr_bo, free_bo, d_bd, fz_bd, isFr_bd, free_bd, w_add_i, w_add_s, w_add_l, w_add_t, w_sub, w_mul_i, w_mul_s, w_mul_l, w_mul_t, w_mod, w_fdv, w_pow, w_le_i, w_gt_i, w_ge_i, w_le_s, w_gt_s, w_ge_s, w_lt_i, w_lt_s, w_eq, w_ne, w_is_b, w_isN_b, w_in_l, w_nin_l, w_ix_l, w_ix_t, w_ix_s, w_sl_l, w_sl_t, w_sl_s, w_len_l, w_len_t, w_len_s, w_list_l, w_list_t, w_tuple_l, w_tuple_t, w_str, w_int_i, w_int_b, w_int_s, w_max2, w_max_l, w_min2, w_min_l, w_all, w_any, w_sorted_l, w_sorted_t, w_split, w_join, w_in_t, w_nin_t, w_in_ts, w_nin_ts, e_draw, e_cok_int, e_cok_bl, e_cok_str, List.map_cons, List.map_nil, List.all_cons, List.all_nil, List.length_cons, List.length_nil, List.getElem?_cons_zero, List.getElem?_cons_succ, List.set_cons_zero, List.set_cons_succ, retD, Tg.put, puts, wipeE, true_and, and_true, and_self, Bool.and_true, Bool.true_and, exists_eq_left', exists_eq_left, R.fr.injEq, R.ow.injEq, Option.some.injEq, D.bl.injEq, D.int.injEq, D.str.injEq, D.lst.injEq, D.tup.injEq, decide_eq_true_eq, if_true, exists_eq', Bool.not_true, Bool.not_false, ite_true, ite_false, if_false, Bool.false_eq_true]
    refine comp_mapF (fun r => .int (hd0 r)) rfl (fun r hm P hP => ?_) ?_
    · refine ⟨_, rfl, ?_⟩
      try simp only [e_dSeq, e_dNext, e_dSet, e_dRet, e_dDrop, e_dIfS, e_dTgS, e_dC, e_dBin, e_dTst, e_dChn, e_dAnd, e_dOr, e_dNot, e_dAndV, e_dOrV, e_dNotV, e_dIf, e_dNil, e_dCons, e_dLst, e_dTup, e_dCB, e_dCall, e_dYes, e_dApp, e_dAug, e_dAugM, e_dIsi, e_dIsi2, e_dSl, e_dNoP, e_dPart, e_dM1, e_dFor, e_dLC, e_dIt, e_dRng1, e_dZipM, e_dRngN, e_dRev, e_dPar0, w_maxT, e_dSrtSet, e_dItS, e_dPar2, e_dPar3, e_par2, e_par3, e_dCallD, e_dCallK, e_dRng2, e_dEnum, e_dZip, nm0f, nm0o, nm0d, bo0f, bo0o, bo0d, mv0f, mv0o, mv0d, nm1f, nm1o, nm1d, bo1f, bo1o, bo1d, mv1f, mv1o, mv1d, nm2f, nm2o, nm2d, bo2f, bo2o, bo2d, mv2f, mv2o, mv2d, nm3f, nm3o, nm3d, bo3f, bo3o, bo3d, mv3f, mv3o, mv3d, nm4f, nm4o, nm4d, bo4f, bo4o, bo4d, mv4f, mv4o, mv4d, nm5f, nm5o, nm5d, bo5f, bo5o, bo5d, mv5f, mv5o, mv5d, nm6f, nm6o, nm6d, bo6f, bo6o, bo6d, mv6f, mv6o, mv6d, nm7f, nm7o, nm7d, bo7f, bo7o, bo7d, mv7f, mv7o, mv7d, nm8f, nm8o, nm8d, bo8f, bo8o, bo8d, mv8f, mv8o, mv8d, nm9f, nm9o, nm9d, bo9f, bo9o, bo9d, mv9f, mv9o, mv9d, nm10f, nm10o, nm10d, bo10f, bo10o, bo10d, mv10f, mv10o, mv10d, nm11f, nm11o, nm11d, bo11f, bo11o, bo11d, mv11f, mv11o, mv11d, nm12f, nm12o, nm12d, bo12f, bo12o, bo12d, mv12f, mv12o, mv12d, nm13f, nm13o, nm13d, bo13f, bo13o, bo13d, mv13f, mv13o, mv13d, nm14f, nm14o, nm14d, bo14f, bo14o, bo14d, mv14f, mv14o, mv14d, nm15f, nm15o, nm15d, bo15f, bo15o, bo15d, mv15f, mv15o, mv15d, nm16f, bo16f, mv16f, nm16o, bo16o, mv16o, nm16d, bo16d, mv16d, nm17f, bo17f, mv17f, nm17o, bo17o, mv17o, nm17d, bo17d, mv17d, nm18f, bo18f, mv18f, nm18o, bo18o, mv18o, nm18d, bo18d, mv18d, nm19f, bo19f, mv19f, nm19o, bo19o, mv19o, nm19d, bo19d, mv19d, nm20f, bo20f, mv20f, nm20o, bo20o, mv20o, nm20d, bo20d, mv20d, nm21f, bo21f, mv21f, nm21o, bo21o, mv21o, nm21d, bo21d, mv21d, nm22f, bo22f, mv22f, nm22o, bo22o, mv22o, nm22d, bo22d, mv22d, nm23f, bo23f, mv23f, nm23o, bo23o, mv23o, nm23d, bo23d, mv23d, d_fr, fz_fr, isFr_fr, free_fr, d_ow, fz_ow, isFr_ow, free_ow, d_od, fz_od, isFr_od, free_od, d_bo, fz_bo, isFr_bo, free_bo, d_bd, fz_bd, isFr_bd, free_bd, w_add_i, w_add_s, w_add_l, w_add_t, w_sub, w_mul_i, w_mul_s, w_mul_l, w_mul_t, w_mod, w_fdv, w_pow, w_le_i, w_gt_i, w_ge_i, w_le_s, w_gt_s, w_ge_s, w_lt_i, w_lt_s, w_eq, w_ne, w_is_b, w_isN_b, w_in_l, w_nin_l, w_ix_l, w_ix_t, w_ix_s, w_sl_l, w_sl_t, w_sl_s, w_len_l, w_len_t, w_len_s, w_list_l, w_list_t, w_tuple_l, w_tuple_t, w_str, w_int_i, w_int_b, w_int_s, w_max2, w_max_l, w_min2, w_min_l, w_all, w_any, w_sorted_l, w_sorted_t, w_split, w_join, w_in_t, w_nin_t, w_in_ts, w_nin_ts, e_draw, e_cok_int, e_cok_bl, e_cok_str, List.map_cons, List.map_nil, List.all_cons, List.all_nil, List.length_cons, List.length_nil, List.getElem?_cons_zero, List.getElem?_cons_succ, List.set_cons_zero, List.set_cons_succ, retD, Tg.put, puts, wipeE, true_and, and_true, and_self, Bool.and_true, Bool.true_and, exists_eq_left', exists_eq_left, R.fr.injEq, R.ow.injEq, Option.some.injEq, D.bl.injEq, D.int.injEq, D.str.injEq, D.lst.injEq, D.tup.injEq, decide_eq_true_eq, if_true, exists_eq', Bool.not_true, Bool.not_false, ite_true, ite_false, if_false, Bool.false_eq_true]
      exact ⟨_, hat r hm, trivial, hP⟩
    rw [eh]
    try simp only [e_dSeq, e_dNext, e_dSet, e_dRet, e_dDrop, e_dIfS, e_dTgS, e_dC, e_dBin, e_dTst, e_dChn, e_dAnd, e_dOr, e_dNot, e_dAndV, e_dOrV, e_dNotV, e_dIf, e_dNil, e_dCons, e_dLst, e_dTup, e_dCB, e_dCall, e_dYes, e_dApp, e_dAug, e_dAugM, e_dIsi, e_dIsi2, e_dSl, e_dNoP, e_dPart, e_dM1, e_dFor, e_dLC, e_dIt, e_dRng1, e_dZipM, e_dRngN, e_dRev, e_dPar0, w_maxT, e_dSrtSet, e_dItS, e_dPar2, e_dPar3, e_par2, e_par3, e_dCallD, e_dCallK, e_dRng2, e_dEnum, e_dZip, nm0f, nm0o, nm0d, bo0f, bo0o, bo0d, mv0f, mv0o, mv0d, nm1f, nm1o, nm1d, bo1f, bo1o, bo1d, mv1f, mv1o, mv1d, nm2f, nm2o, nm2d, bo2f, bo2o, bo2d, mv2f, mv2o, mv2d, nm3f, nm3o, nm3d, bo3f, bo3o, bo3d, mv3f, mv3o, mv3d, nm4f, nm4o, nm4d, bo4f, bo4o, bo4d, mv4f, mv4o, mv4d, nm5f, nm5o, nm5d, bo5f, bo5o, bo5d, mv5f, mv5o, mv5d, nm6f, nm6o, nm6d, bo6f, bo6o, bo6d, mv6f, mv6o, mv6d, nm7f, nm7o, nm7d, bo7f, bo7o, bo7d, mv7f, mv7o, mv7d, nm8f, nm8o, nm8d, bo8f, bo8o, bo8d, mv8f, mv8o, mv8d, nm9f, nm9o, nm9d, bo9f, bo9o, bo9d, mv9f, mv9o, mv9d, nm10f, nm10o, nm10d, bo10f, bo10o, bo10d, mv10f, mv10o, mv10d, nm11f, nm11o, nm11d, bo11f, bo11o, bo11d, mv11f, mv11o, mv11d, nm12f, nm12o, nm12d, bo12f, bo12o, bo12d, mv12f, mv12o, mv12d, nm13f, nm13o, nm13d, bo13f, bo13o, bo13d, mv13f, mv13o, mv13d, nm14f, nm14o, nm14d, bo14f, bo14o, bo14d, mv14f, mv14o, mv14d, nm15f, nm15o, nm15d, bo15f, bo15o, bo15d, mv15f, mv15o, mv15d, nm16f, bo16f, mv16f, nm16o, bo16o, mv16o, nm16d, bo16d, mv16d, nm17f, bo17f, mv17f, nm17o, bo17o, mv17o, nm17d, bo17d, mv17d, nm18f, bo18f, mv18f, nm18o, bo18o, mv18o, nm18d, bo18d, mv18d, nm19f, bo19f, mv19f, nm19o, bo19o, mv19o, nm19d, bo19d, mv19d, nm20f, bo20f, mv20f, nm20o, bo20o, mv20o, nm20d, bo20d, mv20d, nm21f, bo21f, mv21f, nm21o, bo21o, mv21o, nm21d, bo21d, mv21d, nm22f, bo22f, mv22f, nm22o, bo22o, mv22o, nm22d, bo22d, mv22d, nm23f, bo23f, mv23f, nm23o, bo23o, mv23o, nm23d, bo23d, mv23d, d_fr, fz_fr, isFr_fr, free_fr, d_ow, fz_ow, isFr_ow, free_ow, d_od, fz_od, isFr_od, free_od, d_bo, fz_bo, isFr_bo, free_bo, d_bd, fz_bd, isFr_bd, free_bd, w_add_i, w_add_s, w_add_l, w_add_t, w_sub, w_mul_i, w_mul_s, w_mul_l, w_mul_t, w_mod, w_fdv, w_pow, w_le_i, w_gt_i, w_ge_i, w_le_s, w_gt_s, w_ge_s, w_lt_i, w_lt_s, w_eq, w_ne, w_is_b, w_isN_b, w_in_l, w_nin_l, w_ix_l, w_ix_t, w_ix_s, w_sl_l, w_sl_t, w_sl_s, w_len_l, w_len_t, w_len_s, w_list_l, w_list_t, w_tuple_l, w_tuple_t, w_str, w_int_i, w_int_b, w_int_s, w_max2, w_max_l, w_min2, w_min_l, w_all, w_any, w_sorted_l, w_sorted_t, w_split, w_join, w_in_t, w_nin_t, w_in_ts, w_nin_ts, e_draw, e_cok_int, e_cok_bl, e_cok_str, List.map_cons, List.map_nil, List.all_cons, List.all_nil, List.length_cons, List.length_nil, List.getElem?_cons_zero, List.getElem?_cons_succ, List.set_cons_zero, List.set_cons_succ, retD, Tg.put, puts, wipeE, true_and, and_true, and_self, Bool.and_true, Bool.true_and, exists_eq_left', exists_eq_left, R.fr.injEq, R.ow.injEq, Option.some.injEq, D.bl.injEq, D.int.injEq, D.str.injEq, D.lst.injEq, D.tup.injEq, decide_eq_true_eq, if_true, exists_eq', Bool.not_true, Bool.not_false, ite_true, ite_false, if_false, Bool.false_eq_true]
    refine ⟨_, rfl, by rw [List.length_map]; omega, fun out o1 o2 => ?_⟩
    refine for_takeF (fun pre ε => ∃ x2 : Option R, (∀ f ∈ pre, AG (tailsR rows f)) ∧ ε = [some (.fr (.lst (rows.map rowD))), some (.fr (.lst ((someR rows).map rowD))), x2, none]) ⟨none, by simp, rfl⟩ (fun pre f hf ε hI => ?_) (fun ε hI => ?_)
    · obtain ⟨x2, hpre, rfl⟩ := hI
      obtain ⟨post, hpost⟩ := hf
      have hfm : f ∈ (someR rows).map hd0 := (o2 f).mp (by rw [hpost]; simp)
      refine ⟨_, rfl, ?_⟩
      try simp only [e_dSeq, e_dNext, e_dSet, e_dRet, e_dDrop, e_dIfS, e_dTgS, e_dC, e_dBin, e_dTst, e_dChn, e_dAnd, e_dOr, e_dNot, e_dAndV, e_dOrV, e_dNotV, e_dIf, e_dNil, e_dCons, e_dLst, e_dTup, e_dCB, e_dCall, e_dYes, e_dApp, e_dAug, e_dAugM, e_dIsi, e_dIsi2, e_dSl, e_dNoP, e_dPart, e_dM1, e_dFor, e_dLC, e_dIt, e_dRng1, e_dZipM, e_dRngN, e_dRev, e_dPar0, w_maxT, e_dSrtSet, e_dItS, e_dPar2, e_dPar3, e_par2, e_par3, e_dCallD, e_dCallK, e_dRng2, e_dEnum, e_dZip, nm0f, nm0o, nm0d, bo0f, bo0o, bo0d, mv0f, mv0o, mv0d, nm1f, nm1o, nm1d, bo1f, bo1o, bo1d, mv1f, mv1o, mv1d, nm2f, nm2o, nm2d, bo2f, bo2o, bo2d, mv2f, mv2o, mv2d, nm3f, nm3o, nm3d, bo3f, bo3o, bo3d, mv3f, mv3o, mv3d, nm4f, nm4o, nm4d, bo4f, bo4o, bo4d, mv4f, mv4o, mv4d, nm5f, nm5o, nm5d, bo5f, bo5o, bo5d, mv5f, mv5o, mv5d, nm6f, nm6o, nm6d, bo6f, bo6o, bo6d, mv6f, mv6o, mv6d, nm7f, nm7o, nm7d, bo7f, bo7o, bo7d, mv7f, mv7o, mv7d, nm8f, nm8o, nm8d, bo8f, bo8o, bo8d, mv8f, mv8o, mv8d, nm9f, nm9o, nm9d, bo9f, bo9o, bo9d, mv9f, mv9o, mv9d, nm10f, nm10o, nm10d, bo10f, bo10o, bo10d, mv10f, mv10o, mv10d, nm11f, nm11o, nm11d, bo11f, bo11o, bo11d, mv11f, mv11o, mv11d, nm12f, nm12o, nm12d, bo12f, bo12o, bo12d, mv12f, mv12o, mv12d, nm13f, nm13o, nm13d, bo13f, bo13o, bo13d, mv13f, mv13o, mv13d, nm14f, nm14o, nm14d, bo14f, bo14o, bo14d, mv14f, mv14o, mv14d, nm15f, nm15o, nm15d, bo15f, bo15o, bo15d, mv15f, mv15o, mv15d, nm16f, bo16f, mv16f, nm16o, bo16o, mv16o, nm16d, bo16d, mv16d, nm17f, bo17f, mv17f, nm17o, bo17o, mv17o, nm17d, bo17d, mv17d, nm18f, bo18f, mv18f, nm18o, bo18o, mv18o, nm18d, bo18d, mv18d, nm19f, bo19f, mv19f, nm19o, bo19o, mv19o, nm19d, bo19d, mv19d, nm20f, bo20f, mv20f, nm20o, bo20o, mv20o, nm20d, bo20d, mv20d, nm21f, bo21f, mv21f, nm21o, bo21o, mv21o, nm21d, bo21d, mv21d, nm22f, bo22f, mv22f, nm22o, bo22o, mv22o, nm22d, bo22d, mv22d, nm23f, bo23f, mv23f, nm23o, bo23o, mv23o, nm23d, bo23d, mv23d, d_fr, fz_fr, isFr_fr, free_fr, d_ow, fz_ow, isFr_ow, free_ow, d_od, fz_od, isFr_od, free_od, d_bo, fz_bo, isFr_bo, free_bo, d_bd, fz_bd, isFr_bd, free_bd, w_add_i, w_add_s, w_add_l, w_add_t, w_sub, w_mul_i, w_mul_s, w_mul_l, w_mul_t, w_mod, w_fdv, w_pow, w_le_i, w_gt_i, w_ge_i, w_le_s, w_gt_s, w_ge_s, w_lt_i, w_lt_s, w_eq, w_ne, w_is_b, w_isN_b, w_in_l, w_nin_l, w_ix_l, w_ix_t, w_ix_s, w_sl_l, w_sl_t, w_sl_s, w_len_l, w_len_t, w_len_s, w_list_l, w_list_t, w_tuple_l, w_tuple_t, w_str, w_int_i, w_int_b, w_int_s, w_max2, w_max_l, w_min2, w_min_l, w_all, w_any, w_sorted_l, w_sorted_t, w_split, w_join, w_in_t, w_nin_t, w_in_ts, w_nin_ts, e_draw, e_cok_int, e_cok_bl, e_cok_str, List.map_cons, List.map_nil, List.all_cons, List.all_nil, List.length_cons, List.length_nil, List.getElem?_cons_zero, List.getElem?_cons_succ, List.set_cons_zero, List.set_cons_succ, retD, Tg.put, puts, wipeE, true_and, and_true, and_self, Bool.and_true, Bool.true_and, exists_eq_left', exists_eq_left, R.fr.injEq, R.ow.injEq, Option.some.injEq, D.bl.injEq, D.int.injEq, D.str.injEq, D.lst.injEq, D.tup.injEq, decide_eq_true_eq, if_true, exists_eq', Bool.not_true, Bool.not_false, ite_true, ite_false, if_false, Bool.false_eq_true]
      refine comp_filterF (fun r : List Int => decide (hd0 r = f)) (fun r => rowD r.tail) rfl (fun r hm P hP => ?_) ?_
      · refine ⟨_, rfl, ?_⟩
        try simp only [e_dSeq, e_dNext, e_dSet, e_dRet, e_dDrop, e_dIfS, e_dTgS, e_dC, e_dBin, e_dTst, e_dChn, e_dAnd, e_dOr, e_dNot, e_dAndV, e_dOrV, e_dNotV, e_dIf, e_dNil, e_dCons, e_dLst, e_dTup, e_dCB, e_dCall, e_dYes, e_dApp, e_dAug, e_dAugM, e_dIsi, e_dIsi2, e_dSl, e_dNoP, e_dPart, e_dM1, e_dFor, e_dLC, e_dIt, e_dRng1, e_dZipM, e_dRngN, e_dRev, e_dPar0, w_maxT, e_dSrtSet, e_dItS, e_dPar2, e_dPar3, e_par2, e_par3, e_dCallD, e_dCallK, e_dRng2, e_dEnum, e_dZip, nm0f, nm0o, nm0d, bo0f, bo0o, bo0d, mv0f, mv0o, mv0d, nm1f, nm1o, nm1d, bo1f, bo1o, bo1d, mv1f, mv1o, mv1d, nm2f, nm2o, nm2d, bo2f, bo2o, bo2d, mv2f, mv2o, mv2d, nm3f, nm3o, nm3d, bo3f, bo3o, bo3d, mv3f, mv3o, mv3d, nm4f, nm4o, nm4d, bo4f, bo4o, bo4d, mv4f, mv4o, mv4d, nm5f, nm5o, nm5d, bo5f, bo5o, bo5d, mv5f, mv5o, mv5d, nm6f, nm6o, nm6d, bo6f, bo6o, bo6d, mv6f, mv6o, mv6d, nm7f, nm7o, nm7d, bo7f, bo7o, bo7d, mv7f, mv7o, mv7d, nm8f, nm8o, nm8d, bo8f, bo8o, bo8d, mv8f, mv8o, mv8d, nm9f, nm9o, nm9d, bo9f, bo9o, bo9d, mv9f, mv9o, mv9d, nm10f, nm10o, nm10d, bo10f, bo10o, bo10d, mv10f, mv10o, mv10d, nm11f, nm11o, nm11d, bo11f, bo11o, bo11d, mv11f, mv11o, mv11d, nm12f, nm12o, nm12d, bo12f, bo12o, bo12d, mv12f, mv12o, mv12d, nm13f, nm13o, nm13d, bo13f, bo13o, bo13d, mv13f, mv13o, mv13d, nm14f, nm14o, nm14d, bo14f, bo14o, bo14d, mv14f, mv14o, mv14d, nm15f, nm15o, nm15d, bo15f, bo15o, bo15d, mv15f, mv15o, mv15d, nm16f, bo16f, mv16f, nm16o, bo16o, mv16o, nm16d, bo16d, mv16d, nm17f, bo17f, mv17f, nm17o, bo17o, mv17o, nm17d, bo17d, mv17d, nm18f, bo18f, mv18f, nm18o, bo18o, mv18o, nm18d, bo18d, mv18d, nm19f, bo19f, mv19f, nm19o, bo19o, mv19o, nm19d, bo19d, mv19d, nm20f, bo20f, mv20f, nm20o, bo20o, mv20o, nm20d, bo20d, mv20d, nm21f, bo21f, mv21f, nm21o, bo21o, mv21o, nm21d, bo21d, mv21d, nm22f, bo22f, mv22f, nm22o, bo22o, mv22o, nm22d, bo22d, mv22d, nm23f, bo23f, mv23f, nm23o, bo23o, mv23o, nm23d, bo23d, mv23d, d_fr, fz_fr, isFr_fr, free_fr, d_ow, fz_ow, isFr_ow, free_ow, d_od, fz_od, isFr_od, free_od, d_bo, fz_bo, isFr_bo, free_bo, d_bd, fz_bd, isFr_bd, free_bd, w_add_i, w_add_s, w_add_l, w_add_t, w_sub, w_mul_i, w_mul_s, w_mul_l, w_mul_t, w_mod, w_fdv, w_pow, w_le_i, w_gt_i, w_ge_i, w_le_s, w_gt_s, w_ge_s, w_lt_i, w_lt_s, w_eq, w_ne, w_is_b, w_isN_b, w_in_l, w_nin_l, w_ix_l, w_ix_t, w_ix_s, w_sl_l, w_sl_t, w_sl_s, w_len_l, w_len_t, w_len_s, w_list_l, w_list_t, w_tuple_l, w_tuple_t, w_str, w_int_i, w_int_b, w_int_s, w_max2, w_max_l, w_min2, w_min_l, w_all, w_any, w_sorted_l, w_sorted_t, w_split, w_join, w_in_t, w_nin_t, w_in_ts, w_nin_ts, e_draw, e_cok_int, e_cok_bl, e_cok_str, List.map_cons, List.map_nil, List.all_cons, List.all_nil, List.length_cons, List.length_nil, List.getElem?_cons_zero, List.getElem?_cons_succ, List.set_cons_zero, List.set_cons_succ, retD, Tg.put, puts, wipeE, true_and, and_true, and_self, Bool.and_true, Bool.true_and, exists_eq_left', exists_eq_left, R.fr.injEq, R.ow.injEq, Option.some.injEq, D.bl.injEq, D.int.injEq, D.str.injEq, D.lst.injEq, D.tup.injEq, decide_eq_true_eq, if_true, exists_eq', Bool.not_true, Bool.not_false, ite_true, ite_false, if_false, Bool.false_eq_true]
        refine ⟨_, hat r hm, ?_⟩
        try simp only [e_dSeq, e_dNext, e_dSet, e_dRet, e_dDrop, e_dIfS, e_dTgS, e_dC, e_dBin, e_dTst, e_dChn, e_dAnd, e_dOr, e_dNot, e_dAndV, e_dOrV, e_dNotV, e_dIf, e_dNil, e_dCons, e_dLst, e_dTup, e_dCB, e_dCall, e_dYes, e_dApp, e_dAug, e_dAugM, e_dIsi, e_dIsi2, e_dSl, e_dNoP, e_dPart, e_dM1, e_dFor, e_dLC, e_dIt, e_dRng1, e_dZipM, e_dRngN, e_dRev, e_dPar0, w_maxT, e_dSrtSet, e_dItS, e_dPar2, e_dPar3, e_par2, e_par3, e_dCallD, e_dCallK, e_dRng2, e_dEnum, e_dZip, nm0f, nm0o, nm0d, bo0f, bo0o, bo0d, mv0f, mv0o, mv0d, nm1f, nm1o, nm1d, bo1f, bo1o, bo1d, mv1f, mv1o, mv1d, nm2f, nm2o, nm2d, bo2f, bo2o, bo2d, mv2f, mv2o, mv2d, nm3f, nm3o, nm3d, bo3f, bo3o, bo3d, mv3f, mv3o, mv3d, nm4f, nm4o, nm4d, bo4f, bo4o, bo4d, mv4f, mv4o, mv4d, nm5f, nm5o, nm5d, bo5f, bo5o, bo5d, mv5f, mv5o, mv5d, nm6f, nm6o, nm6d, bo6f, bo6o, bo6d, mv6f, mv6o, mv6d, nm7f, nm7o, nm7d, bo7f, bo7o, bo7d, mv7f, mv7o, mv7d, nm8f, nm8o, nm8d, bo8f, bo8o, bo8d, mv8f, mv8o, mv8d, nm9f, nm9o, nm9d, bo9f, bo9o, bo9d, mv9f, mv9o, mv9d, nm10f, nm10o, nm10d, bo10f, bo10o, bo10d, mv10f, mv10o, mv10d, nm11f, nm11o, nm11d, bo11f, bo11o, bo11d, mv11f, mv11o, mv11d, nm12f, nm12o, nm12d, bo12f, bo12o, bo12d, mv12f, mv12o, mv12d, nm13f, nm13o, nm13d, bo13f, bo13o, bo13d, mv13f, mv13o, mv13d, nm14f, nm14o, nm14d, bo14f, bo14o, bo14d, mv14f, mv14o, mv14d, nm15f, nm15o, nm15d, bo15f, bo15o, bo15d, mv15f, mv15o, mv15d, nm16f, bo16f, mv16f, nm16o, bo16o, mv16o, nm16d, bo16d, mv16d, nm17f, bo17f, mv17f, nm17o, bo17o, mv17o, nm17d, bo17d, mv17d, nm18f, bo18f, mv18f, nm18o, bo18o, mv18o, nm18d, bo18d, mv18d, nm19f, bo19f, mv19f, nm19o, bo19o, mv19o, nm19d, bo19d, mv19d, nm20f, bo20f, mv20f, nm20o, bo20o, mv20o, nm20d, bo20d, mv20d, nm21f, bo21f, mv21f, nm21o, bo21o, mv21o, nm21d, bo21d, mv21d, nm22f, bo22f, mv22f, nm22o, bo22o, mv22o, nm22d, bo22d, mv22d, nm23f, bo23f, mv23f, nm23o, bo23o, mv23o, nm23d, bo23d, mv23d, d_fr, fz_fr, isFr_fr, free_fr, d_ow, fz_ow, isFr_ow, free_ow, d_od, fz_od, isFr_od, free_od, d_bo, fz_bo, isFr_bo, free_bo, d_bd, fz_bd, isFr_bd, free_bd, w_add_i, w_add_s, w_add_l, w_add_t, w_sub, w_mul_i, w_mul_s, w_mul_l, w_mul_t, w_mod, w_fdv, w_pow, w_le_i, w_gt_i, w_ge_i, w_le_s, w_gt_s, w_ge_s, w_lt_i, w_lt_s, w_eq, w_ne, w_is_b, w_isN_b, w_in_l, w_nin_l, w_ix_l, w_ix_t, w_ix_s, w_sl_l, w_sl_t, w_sl_s, w_len_l, w_len_t, w_len_s, w_list_l, w_list_t, w_tuple_l, w_tuple_t, w_str, w_int_i, w_int_b, w_int_s, w_max2, w_max_l, w_min2, w_min_l, w_all, w_any, w_sorted_l, w_sorted_t, w_split, w_join, w_in_t, w_nin_t, w_in_ts, w_nin_ts, e_draw, e_cok_int, e_cok_bl, e_cok_str, List.map_cons, List.map_nil, List.all_cons, List.all_nil, List.length_cons, List.length_nil, List.getElem?_cons_zero, List.getElem?_cons_succ, List.set_cons_zero, List.set_cons_succ, retD, Tg.put, puts, wipeE, true_and, and_true, and_self, Bool.and_true, Bool.true_and, exists_eq_left', exists_eq_left, R.fr.injEq, R.ow.injEq, Option.some.injEq, D.bl.injEq, D.int.injEq, D.str.injEq, D.lst.injEq, D.tup.injEq, decide_eq_true_eq, if_true, exists_eq', Bool.not_true, Bool.not_false, ite_true, ite_false, if_false, Bool.false_eq_true]
        refine ⟨shp_int _, shp_int _, ?_⟩
        have ec : cut (r.map D.int) (some (1 : Int)) none = r.tail.map D.int := by
          rw [cut_map]
          exact congrArg _ ((cut_from r 1).trans (by cases r <;> rfl))
        refine ite_k (fun c => ?_) fun c => ?_
        · have c : hd0 r = f := of_decide_eq_true ((eqv_int _ _).symm.trans c)
          show wSl (.tup (r.map .int)) (some 1) none _
          try simp only [e_dSeq, e_dNext, e_dSet, e_dRet, e_dDrop, e_dIfS, e_dTgS, e_dC, e_dBin, e_dTst, e_dChn, e_dAnd, e_dOr, e_dNot, e_dAndV, e_dOrV, e_dNotV, e_dIf, e_dNil, e_dCons, e_dLst, e_dTup, e_dCB, e_dCall, e_dYes, e_dApp, e_dAug, e_dAugM, e_dIsi, e_dIsi2, e_dSl, e_dNoP, e_dPart, e_dM1, e_dFor, e_dLC, e_dIt, e_dRng1, e_dZipM, e_dRngN, e_dRev, e_dPar0, w_maxT, e_dSrtSet, e_dItS, e_dPar2, e_dPar3, e_par2, e_par3, e_dCallD, e_dCallK, e_dRng2, e_dEnum, e_dZip, nm0f, nm0o, nm0d, bo0f, bo0o, bo0d, mv0f, mv0o, mv0d, nm1f, nm1o, nm1d, bo1f, bo1o, bo1d, mv1f, mv1o, mv1d, nm2f, nm2o, nm2d, bo2f, bo2o, bo2d, mv2f, mv2o, mv2d, nm3f, nm3o, nm3d, bo3f, bo3o, bo3d, mv3f, mv3o, mv3d, nm4f, nm4o, nm4d, bo4f, bo4o, bo4d, mv4f, mv4o, mv4d, nm5f, nm5o, nm5d, bo5f, bo5o, bo5d, mv5f, mv5o, mv5d, nm6f, nm6o, nm6d, bo6f, bo6o, bo6d, mv6f, mv6o, mv6d, nm7f, nm7o, nm7d, bo7f, bo7o, bo7d, mv7f, mv7o, mv7d, nm8f, nm8o, nm8d, bo8f, bo8o, bo8d, mv8f, mv8o, mv8d, nm9f, nm9o, nm9d, bo9f, bo9o, bo9d, mv9f, mv9o, mv9d, nm10f, nm10o, nm10d, bo10f, bo10o, bo10d, mv10f, mv10o, mv10d, nm11f, nm11o, nm11d, bo11f, bo11o, bo11d, mv11f, mv11o, mv11d, nm12f, nm12o, nm12d, bo12f, bo12o, bo12d, mv12f, mv12o, mv12d, nm13f, nm13o, nm13d, bo13f, bo13o, bo13d, mv13f, mv13o, mv13d, nm14f, nm14o, nm14d, bo14f, bo14o, bo14d, mv14f, mv14o, mv14d, nm15f, nm15o, nm15d, bo15f, bo15o, bo15d, mv15f, mv15o, mv15d, nm16f, bo16f, mv16f, nm16o, bo16o, mv16o, nm16d, bo16d, mv16d, nm17f, bo17f, mv17f, nm17o, bo17o, mv17o, nm17d, bo17d, mv17d, nm18f, bo18f, mv18f, nm18o, bo18o, mv18o, nm18d, bo18d, mv18d, nm19f, bo19f, mv19f, nm19o, bo19o, mv19o, nm19d, bo19d, mv19d, nm20f, bo20f, mv20f, nm20o, bo20o, mv20o, nm20d, bo20d, mv20d, nm21f, bo21f, mv21f, nm21o, bo21o, mv21o, nm21d, bo21d, mv21d, nm22f, bo22f, mv22f, nm22o, bo22o, mv22o, nm22d, bo22d, mv22d, nm23f, bo23f, mv23f, nm23o, bo23o, mv23o, nm23d, bo23d, mv23d, d_fr, fz_fr, isFr_fr, free_fr, d_ow, fz_ow, isFr_ow, free_ow, d_od, fz_od, isFr_od, free_od, d_bo, fz_bo, isFr_bo, free_bo, d_bd, fz_bd, isFr_bd, free_bd, w_add_i, w_add_s, w_add_l, w_add_t, w_sub, w_mul_i, w_mul_s, w_mul_l, w_mul_t, w_mod, w_fdv, w_pow, w_le_i, w_gt_i, w_ge_i, w_le_s, w_gt_s, w_ge_s, w_lt_i, w_lt_s, w_eq, w_ne, w_is_b, w_isN_b, w_in_l, w_nin_l, w_ix_l, w_ix_t, w_ix_s, w_sl_l, w_sl_t, w_sl_s, w_len_l, w_len_t, w_len_s, w_list_l, w_list_t, w_tuple_l, w_tuple_t, w_str, w_int_i, w_int_b, w_int_s, w_max2, w_max_l, w_min2, w_min_l, w_all, w_any, w_sorted_l, w_sorted_t, w_split, w_join, w_in_t, w_nin_t, w_in_ts, w_nin_ts, e_draw, e_cok_int, e_cok_bl, e_cok_str, List.map_cons, List.map_nil, List.all_cons, List.all_nil, List.length_cons, List.length_nil, List.getElem?_cons_zero, List.getElem?_cons_succ, List.set_cons_zero, List.set_cons_succ, retD, Tg.put, puts, wipeE, true_and, and_true, and_self, Bool.and_true, Bool.true_and, exists_eq_left', exists_eq_left, R.fr.injEq, R.ow.injEq, Option.some.injEq, D.bl.injEq, D.int.injEq, D.str.injEq, D.lst.injEq, D.tup.injEq, decide_eq_true_eq, if_true, exists_eq', Bool.not_true, Bool.not_false, ite_true, ite_false, if_false, Bool.false_eq_true]
          rw [ec]
          simpa [c, rowD] using hP
        · have c : ¬ hd0 r = f := fun e => c ((eqv_int _ _).trans (decide_eq_true e))
          simpa [c] using hP
      have et : ((someR rows).filter fun r => decide (hd0 r = f)).map (fun r => rowD r.tail) = (tailsR rows f).map rowD := by unfold tailsR; rw [List.map_map]; rfl
      rw [et]
      try simp only [e_dSeq, e_dNext, e_dSet, e_dRet, e_dDrop, e_dIfS, e_dTgS, e_dC, e_dBin, e_dTst, e_dChn, e_dAnd, e_dOr, e_dNot, e_dAndV, e_dOrV, e_dNotV, e_dIf, e_dNil, e_dCons, e_dLst, e_dTup, e_dCB, e_dCall, e_dYes, e_dApp, e_dAug, e_dAugM, e_dIsi, e_dIsi2, e_dSl, e_dNoP, e_dPart, e_dM1, e_dFor, e_dLC, e_dIt, e_dRng1, e_dZipM, e_dRngN, e_dRev, e_dPar0, w_maxT, e_dSrtSet, e_dItS, e_dPar2, e_dPar3, e_par2, e_par3, e_dCallD, e_dCallK, e_dRng2, e_dEnum, e_dZip, nm0f, nm0o, nm0d, bo0f, bo0o, bo0d, mv0f, mv0o, mv0d, nm1f, nm1o, nm1d, bo1f, bo1o, bo1d, mv1f, mv1o, mv1d, nm2f, nm2o, nm2d, bo2f, bo2o, bo2d, mv2f, mv2o, mv2d, nm3f, nm3o, nm3d, bo3f, bo3o, bo3d, mv3f, mv3o, mv3d, nm4f, nm4o, nm4d, bo4f, bo4o, bo4d, mv4f, mv4o, mv4d, nm5f, nm5o, nm5d, bo5f, bo5o, bo5d, mv5f, mv5o, mv5d, nm6f, nm6o, nm6d, bo6f, bo6o, bo6d, mv6f, mv6o, mv6d, nm7f, nm7o, nm7d, bo7f, bo7o, bo7d, mv7f, mv7o, mv7d, nm8f, nm8o, nm8d, bo8f, bo8o, bo8d, mv8f, mv8o, mv8d, nm9f, nm9o, nm9d, bo9f, bo9o, bo9d, mv9f, mv9o, mv9d, nm10f, nm10o, nm10d, bo10f, bo10o, bo10d, mv10f, mv10o, mv10d, nm11f, nm11o, nm11d, bo11f, bo11o, bo11d, mv11f, mv11o, mv11d, nm12f, nm12o, nm12d, bo12f, bo12o, bo12d, mv12f, mv12o, mv12d, nm13f, nm13o, nm13d, bo13f, bo13o, bo13d, mv13f, mv13o, mv13d, nm14f, nm14o, nm14d, bo14f, bo14o, bo14d, mv14f, mv14o, mv14d, nm15f, nm15o, nm15d, bo15f, bo15o, bo15d, mv15f, mv15o, mv15d, nm16f, bo16f, mv16f, nm16o, bo16o, mv16o, nm16d, bo16d, mv16d, nm17f, bo17f, mv17f, nm17o, bo17o, mv17o, nm17d, bo17d, mv17d, nm18f, bo18f, mv18f, nm18o, bo18o, mv18o, nm18d, bo18d, mv18d, nm19f, bo19f, mv19f, nm19o, bo19o, mv19o, nm19d, bo19d, mv19d, nm20f, bo20f, mv20f, nm20o, bo20o, mv20o, nm20d, bo20d, mv20d, nm21f, bo21f, mv21f, nm21o, bo21o, mv21o, nm21d, bo21d, mv21d, nm22f, bo22f, mv22f, nm22o, bo22o, mv22o, nm22d, bo22d, mv22d, nm23f, bo23f, mv23f, nm23o, bo23o, mv23o, nm23d, bo23d, mv23d, d_fr, fz_fr, isFr_fr, free_fr, d_ow, fz_ow, isFr_ow, free_ow, d_od, fz_od, isFr_od, free_od, d_bo, fz_bo, isFr_bo, free_bo, d_bd, fz_bd, isFr_bd, free_bd, w_add_i, w_add_s, w_add_l, w_add_t, w_sub, w_mul_i, w_mul_s, w_mul_l, w_mul_t, w_mod, w_fdv, w_pow, w_le_i, w_gt_i, w_ge_i, w_le_s, w_gt_s, w_ge_s, w_lt_i, w_lt_s, w_eq, w_ne, w_is_b, w_isN_b, w_in_l, w_nin_l, w_ix_l, w_ix_t, w_ix_s, w_sl_l, w_sl_t, w_sl_s, w_len_l, w_len_t, w_len_s, w_list_l, w_list_t, w_tuple_l, w_tuple_t, w_str, w_int_i, w_int_b, w_int_s, w_max2, w_max_l, w_min2, w_min_l, w_all, w_any, w_sorted_l, w_sorted_t, w_split, w_join, w_in_t, w_nin_t, w_in_ts, w_nin_ts, e_draw, e_cok_int, e_cok_bl, e_cok_str, List.map_cons, List.map_nil, List.all_cons, List.all_nil, List.length_cons, List.length_nil, List.getElem?_cons_zero, List.getElem?_cons_succ, List.set_cons_zero, List.set_cons_succ, retD, Tg.put, puts, wipeE, true_and, and_true, and_self, Bool.and_true, Bool.true_and, exists_eq_left', exists_eq_left, R.fr.injEq, R.ow.injEq, Option.some.injEq, D.bl.injEq, D.int.injEq, D.str.injEq, D.lst.injEq, D.tup.injEq, decide_eq_true_eq, if_true, exists_eq', Bool.not_true, Bool.not_false, ite_true, ite_false, if_false, Bool.false_eq_true]
      refine ⟨tailsR rows f, rfl, ⟨?_, ?_, fun r hr => ?_⟩, ?_⟩
      · obtain ⟨r, hr, _⟩ := List.mem_map.mp hfm
        obtain ⟨a, x, rfl, h1⟩ := un r hr
        have := (hr0 _ h1).1
        simp at this
        omega
      · unfold tailsR
        rw [List.length_map]
        have := List.length_filter_le (fun r => decide (hd0 r = f)) (someR rows)
        omega
      · obtain ⟨r', hr', rfl⟩ := List.mem_map.mp hr
        obtain ⟨a, x, rfl, h1⟩ := un r' (List.mem_filter.mp hr').1
        have := hr0 _ h1
        exact ⟨by have := this.1; simp at this ⊢; omega, fun n hn => this.2 n (List.mem_cons_of_mem _ hn)⟩
      rintro r ⟨b, rfl, hb2⟩
      try simp only [e_dSeq, e_dNext, e_dSet, e_dRet, e_dDrop, e_dIfS, e_dTgS, e_dC, e_dBin, e_dTst, e_dChn, e_dAnd, e_dOr, e_dNot, e_dAndV, e_dOrV, e_dNotV, e_dIf, e_dNil, e_dCons, e_dLst, e_dTup, e_dCB, e_dCall, e_dYes, e_dApp, e_dAug, e_dAugM, e_dIsi, e_dIsi2, e_dSl, e_dNoP, e_dPart, e_dM1, e_dFor, e_dLC, e_dIt, e_dRng1, e_dZipM, e_dRngN, e_dRev, e_dPar0, w_maxT, e_dSrtSet, e_dItS, e_dPar2, e_dPar3, e_par2, e_par3, e_dCallD, e_dCallK, e_dRng2, e_dEnum, e_dZip, nm0f, nm0o, nm0d, bo0f, bo0o, bo0d, mv0f, mv0o, mv0d, nm1f, nm1o, nm1d, bo1f, bo1o, bo1d, mv1f, mv1o, mv1d, nm2f, nm2o, nm2d, bo2f, bo2o, bo2d, mv2f, mv2o, mv2d, nm3f, nm3o, nm3d, bo3f, bo3o, bo3d, mv3f, mv3o, mv3d, nm4f, nm4o, nm4d, bo4f, bo4o, bo4d, mv4f, mv4o, mv4d, nm5f, nm5o, nm5d, bo5f, bo5o, bo5d, mv5f, mv5o, mv5d, nm6f, nm6o, nm6d, bo6f, bo6o, bo6d, mv6f, mv6o, mv6d, nm7f, nm7o, nm7d, bo7f, bo7o, bo7d, mv7f, mv7o, mv7d, nm8f, nm8o, nm8d, bo8f, bo8o, bo8d, mv8f, mv8o, mv8d, nm9f, nm9o, nm9d, bo9f, bo9o, bo9d, mv9f, mv9o, mv9d, nm10f, nm10o, nm10d, bo10f, bo10o, bo10d, mv10f, mv10o, mv10d, nm11f, nm11o, nm11d, bo11f, bo11o, bo11d, mv11f, mv11o, mv11d, nm12f, nm12o, nm12d, bo12f, bo12o, bo12d, mv12f, mv12o, mv12d, nm13f, nm13o, nm13d, bo13f, bo13o, bo13d, mv13f, mv13o, mv13d, nm14f, nm14o, nm14d, bo14f, bo14o, bo14d, mv14f, mv14o, mv14d, nm15f, nm15o, nm15d, bo15f, bo15o, bo15d, mv15f, mv15o, mv15d, nm16f, bo16f, mv16f, nm16o, bo16o, mv16o, nm16d, bo16d, mv16d, nm17f, bo17f, mv17f, nm17o, bo17o, mv17o, nm17d, bo17d, mv17d, nm18f, bo18f, mv18f, nm18o, bo18o, mv18o, nm18d, bo18d, mv18d, nm19f, bo19f, mv19f, nm19o, bo19o, mv19o, nm19d, bo19d, mv19d, nm20f, bo20f, mv20f, nm20o, bo20o, mv20o, nm20d, bo20d, mv20d, nm21f, bo21f, mv21f, nm21o, bo21o, mv21o, nm21d, bo21d, mv21d, nm22f, bo22f, mv22f, nm22o, bo22o, mv22o, nm22d, bo22d, mv22d, nm23f, bo23f, mv23f, nm23o, bo23o, mv23o, nm23d, bo23d, mv23d, d_fr, fz_fr, isFr_fr, free_fr, d_ow, fz_ow, isFr_ow, free_ow, d_od, fz_od, isFr_od, free_od, d_bo, fz_bo, isFr_bo, free_bo, d_bd, fz_bd, isFr_bd, free_bd, w_add_i, w_add_s, w_add_l, w_add_t, w_sub, w_mul_i, w_mul_s, w_mul_l, w_mul_t, w_mod, w_fdv, w_pow, w_le_i, w_gt_i, w_ge_i, w_le_s, w_gt_s, w_ge_s, w_lt_i, w_lt_s, w_eq, w_ne, w_is_b, w_isN_b, w_in_l, w_nin_l, w_ix_l, w_ix_t, w_ix_s, w_sl_l, w_sl_t, w_sl_s, w_len_l, w_len_t, w_len_s, w_list_l, w_list_t, w_tuple_l, w_tuple_t, w_str, w_int_i, w_int_b, w_int_s, w_max2, w_max_l, w_min2, w_min_l, w_all, w_any, w_sorted_l, w_sorted_t, w_split, w_join, w_in_t, w_nin_t, w_in_ts, w_nin_ts, e_draw, e_cok_int, e_cok_bl, e_cok_str, List.map_cons, List.map_nil, List.all_cons, List.all_nil, List.length_cons, List.length_nil, List.getElem?_cons_zero, List.getElem?_cons_succ, List.set_cons_zero, List.set_cons_succ, retD, Tg.put, puts, wipeE, true_and, and_true, and_self, Bool.and_true, Bool.true_and, exists_eq_left', exists_eq_left, R.fr.injEq, R.ow.injEq, Option.some.injEq, D.bl.injEq, D.int.injEq, D.str.injEq, D.lst.injEq, D.tup.injEq, decide_eq_true_eq, if_true, exists_eq', Bool.not_true, Bool.not_false, ite_true, ite_false, if_false, Bool.false_eq_true]
      cases b with
      | false => exact q _ ⟨false, rfl, fun z => (by cases z), fun z => absurd (hb2.mpr ((split.mp z).2 f hfm)) (by simp)⟩
      | true =>
        refine ⟨_, fun z hz => ?_, rfl⟩
        rcases List.mem_append.mp hz with hz | hz
        · exact hpre z hz
        · rw [List.mem_singleton.mp hz]; exact hb2.mp rfl
    · obtain ⟨x2, hpre, rfl⟩ := hI
      try simp only [e_dSeq, e_dNext, e_dSet, e_dRet, e_dDrop, e_dIfS, e_dTgS, e_dC, e_dBin, e_dTst, e_dChn, e_dAnd, e_dOr, e_dNot, e_dAndV, e_dOrV, e_dNotV, e_dIf, e_dNil, e_dCons, e_dLst, e_dTup, e_dCB, e_dCall, e_dYes, e_dApp, e_dAug, e_dAugM, e_dIsi, e_dIsi2, e_dSl, e_dNoP, e_dPart, e_dM1, e_dFor, e_dLC, e_dIt, e_dRng1, e_dZipM, e_dRngN, e_dRev, e_dPar0, w_maxT, e_dSrtSet, e_dItS, e_dPar2, e_dPar3, e_par2, e_par3, e_dCallD, e_dCallK, e_dRng2, e_dEnum, e_dZip, nm0f, nm0o, nm0d, bo0f, bo0o, bo0d, mv0f, mv0o, mv0d, nm1f, nm1o, nm1d, bo1f, bo1o, bo1d, mv1f, mv1o, mv1d, nm2f, nm2o, nm2d, bo2f, bo2o, bo2d, mv2f, mv2o, mv2d, nm3f, nm3o, nm3d, bo3f, bo3o, bo3d, mv3f, mv3o, mv3d, nm4f, nm4o, nm4d, bo4f, bo4o, bo4d, mv4f, mv4o, mv4d, nm5f, nm5o, nm5d, bo5f, bo5o, bo5d, mv5f, mv5o, mv5d, nm6f, nm6o, nm6d, bo6f, bo6o, bo6d, mv6f, mv6o, mv6d, nm7f, nm7o, nm7d, bo7f, bo7o, bo7d, mv7f, mv7o, mv7d, nm8f, nm8o, nm8d, bo8f, bo8o, bo8d, mv8f, mv8o, mv8d, nm9f, nm9o, nm9d, bo9f, bo9o, bo9d, mv9f, mv9o, mv9d, nm10f, nm10o, nm10d, bo10f, bo10o, bo10d, mv10f, mv10o, mv10d, nm11f, nm11o, nm11d, bo11f, bo11o, bo11d, mv11f, mv11o, mv11d, nm12f, nm12o, nm12d, bo12f, bo12o, bo12d, mv12f, mv12o, mv12d, nm13f, nm13o, nm13d, bo13f, bo13o, bo13d, mv13f, mv13o, mv13d, nm14f, nm14o, nm14d, bo14f, bo14o, bo14d, mv14f, mv14o, mv14d, nm15f, nm15o, nm15d, bo15f, bo15o, bo15d, mv15f, mv15o, mv15d, nm16f, bo16f, mv16f, nm16o, bo16o, mv16o, nm16d, bo16d, mv16d, nm17f, bo17f, mv17f, nm17o, bo17o, mv17o, nm17d, bo17d, mv17d, nm18f, bo18f, mv18f, nm18o, bo18o, mv18o, nm18d, bo18d, mv18d, nm19f, bo19f, mv19f, nm19o, bo19o, mv19o, nm19d, bo19d, mv19d, nm20f, bo20f, mv20f, nm20o, bo20o, mv20o, nm20d, bo20d, mv20d, nm21f, bo21f, mv21f, nm21o, bo21o, mv21o, nm21d, bo21d, mv21d, nm22f, bo22f, mv22f, nm22o, bo22o, mv22o, nm22d, bo22d, mv22d, nm23f, bo23f, mv23f, nm23o, bo23o, mv23o, nm23d, bo23d, mv23d, d_fr, fz_fr, isFr_fr, free_fr, d_ow, fz_ow, isFr_ow, free_ow, d_od, fz_od, isFr_od, free_od, d_bo, fz_bo, isFr_bo, free_bo, d_bd, fz_bd, isFr_bd, free_bd, w_add_i, w_add_s, w_add_l, w_add_t, w_sub, w_mul_i, w_mul_s, w_mul_l, w_mul_t, w_mod, w_fdv, w_pow, w_le_i, w_gt_i, w_ge_i, w_le_s, w_gt_s, w_ge_s, w_lt_i, w_lt_s, w_eq, w_ne, w_is_b, w_isN_b, w_in_l, w_nin_l, w_ix_l, w_ix_t, w_ix_s, w_sl_l, w_sl_t, w_sl_s, w_len_l, w_len_t, w_len_s, w_list_l, w_list_t, w_tuple_l, w_tuple_t, w_str, w_int_i, w_int_b, w_int_s, w_max2, w_max_l, w_min2, w_min_l, w_all, w_any, w_sorted_l, w_sorted_t, w_split, w_join, w_in_t, w_nin_t, w_in_ts, w_nin_ts, e_draw, e_cok_int, e_cok_bl, e_cok_str, List.map_cons, List.map_nil, List.all_cons, List.all_nil, List.length_cons, List.length_nil, List.getElem?_cons_zero, List.getElem?_cons_succ, List.set_cons_zero, List.set_cons_succ, retD, Tg.put, puts, wipeE, true_and, and_true, and_self, Bool.and_true, Bool.true_and, exists_eq_left', exists_eq_left, R.fr.injEq, R.ow.injEq, Option.some.injEq, D.bl.injEq, D.int.injEq, D.str.injEq, D.lst.injEq, D.tup.injEq, decide_eq_true_eq, if_true, exists_eq', Bool.not_true, Bool.not_false, ite_true, ite_false, if_false, Bool.false_eq_true]
      exact q _ ⟨true, rfl, fun _ => split.mpr ⟨hAV, fun f hf => hpre f ((o2 f).mpr hf)⟩, fun _ => rfl⟩
theorem ok_Law {f : Addr} {fd : FuncData} {f__law_singles : Addr} {fd__law_singles : FuncData} {f__law_like : Addr} {fd__law_like : FuncData} {f__law_rule : Addr} {fd__law_rule : FuncData} {f_is_agreeing : Addr} {fd_is_agreeing : FuncData} {f_threshold : Addr} {fd_threshold : FuncData} {f__law_least : Addr} {fd__law_least : FuncData} {f__law_rows : Addr} {fd__law_rows : FuncData} {f_agree : Addr} {fd_agree : FuncData} {f__law_plain : Addr} {fd__law_plain : FuncData} {f__law_all_agree : Addr} {fd__law_all_agree : FuncData} {k : Nat} (F : Fun K "law" "law" s_law f fd) (B : Bl mg) (C__law_singles : Cal P w K mg base k "_law_singles" ["tape", "most"] f__law_singles fd__law_singles sp__law_singles) (C__law_like : Cal P w K mg base k "_law_like" ["one", "two"] f__law_like fd__law_like (sp__law_like 8)) (C__law_rule : Cal P w K mg base k "_law_rule" ["values"] f__law_rule fd__law_rule sp__law_rule) (C_is_agreeing : Cal P w K mg base k "is_agreeing" ["values"] f_is_agreeing fd_is_agreeing sp_is_agreeing) (C_threshold : Cal P w K mg base k "threshold" ["values"] f_threshold fd_threshold sp_threshold) (C__law_least : Cal P w K mg base k "_law_least" ["values"] f__law_least fd__law_least sp__law_least) (C__law_rows : Cal P w K mg base k "_law_rows" ["tape", "most", "wide"] f__law_rows fd__law_rows sp__law_rows) (C_agree : Cal P w K mg base k "agree" ["names"] f_agree fd_agree sp_agree) (C__law_plain : Cal P w K mg base k "_law_plain" ["rows"] f__law_plain fd__law_plain sp__law_plain) (C__law_all_agree : Cal P w K mg base k "_law_all_agree" ["rows"] f__law_all_agree fd__law_all_agree (sp__law_all_agree 5)) : FnOk P w K mg base CX0 (k + 1) f fd ["script"] (spLaw K) := by
  refine ok_law F sc_law (s0 := defBody s_law |>.headD (.Pass ⟨0, 0, 0, 0⟩)) (rest := (defBody s_law).tail) rfl fun cdv A outer s H E hr => ?_
  have hu64 := hr.units
  have hu100 : (A.deeper (envOfC "law" (defScope s_law) s.heap.objs.size f cdv)).units + 100 < cLine := by have := hr.un; omega
  have hu65 : (A.deeper (envOfC "law" (defScope s_law) s.heap.objs.size f cdv)).units + 65 < cLine := by omega
  have hu1 : (A.deeper (envOfC "law" (defScope s_law) s.heap.objs.size f cdv)).units + 1 < cLine := by omega
  refine ⟨ps_set (i := 1) sc_law.nd rfl (.inl rfl) (pe_lst (pa_cons (pe_callTy call_list_of (by rfl) B.b_list bt_list (pa_cons (pv 0) pa_nil)) (pa_cons pe_int (pa_cons pe_int pa_nil)))), _, (qss_cons (qs_for PassesOwn.never rfl (qi_rng1 (by rfl) B.b_range (qa_cons qe_int qa_nil)) (qg_nm (i := 2) sc_law.nd)
    (qss_cons (qs_set (i := 3) sc_law.nd (qe_callC C__law_singles hr (by rfl) (qa_cons (qe_nm (i := 1)) (qa_cons qe_int qa_nil))))
    (qss_cons (qs_if (qt_not (qt_bool (qe_callC C__law_like hr (by rfl) (qa_cons (qe_callC C_is_agreeing hr (by rfl) (qa_cons (qe_nm (i := 3)) qa_nil)) (qa_cons (qe_callC C__law_rule hr (by rfl) (qa_cons (qe_nm (i := 3)) qa_nil)) qa_nil)))))
    (qss_one (qs_ret qe_bl))
    qss_nil)
    (qss_cons (qs_if (qt_cmp (opd_ne hu64) (qe_bo (i := 3)) (qe_tup qa_nil) (by rfl))
    (qss_cons (qs_set (i := 4) sc_law.nd (qe_callC C_threshold hr (by rfl) (qa_cons (qe_nm (i := 3)) qa_nil)))
    (qss_cons (qs_if (qt_not (qt_bool (qe_callC C__law_like hr (by rfl) (qa_cons (qe_bo (i := 4)) (qa_cons (qe_callC C__law_least hr (by rfl) (qa_cons (qe_nm (i := 3)) qa_nil)) qa_nil)))))
    (qss_one (qs_ret qe_bl))
    qss_nil)
    (qss_cons (qs_setLc (i := 5) [("value", 8)] rfl sc_law.nd (qi_seq (qe_nm (i := 3))) (blkOk_by (by rfl)) (fun s H C cl fp => (qg_nm (i := 8) sc_law.nd)) (fun s H C cl fp => (qts_one (qt_cmp opd_ge (qe_bo (i := 8)) (qe_bo (i := 4)) (by rfl)))) (fun s H C cl fp => (qe_nm (i := 8))) (sw_true rfl rfl rfl (by decide +kernel)))
    (qss_cons (qs_setLc (i := 6) [("value", 8)] rfl sc_law.nd (qi_seq (qe_nm (i := 3))) (blkOk_by (by rfl)) (fun s H C cl fp => (qg_nm (i := 8) sc_law.nd)) (fun s H C cl fp => (qts_one (qt_cmp (opd_lt hu64) (qe_bo (i := 8)) (qe_bo (i := 4)) (by rfl)))) (fun s H C cl fp => (qe_nm (i := 8))) (sw_true rfl rfl rfl (by decide +kernel)))
    (qss_one (qs_if (qw_or (qt_not (qt_bool (qe_callC C__law_rule hr (by rfl) (qa_cons (qe_nm (i := 5)) qa_nil)))) (qw_or1 (qw_and (qt_cmp (opd_ne hu64) (qe_bo (i := 6)) (qe_lst qa_nil) (by rfl)) (qw_and1 (qt_bool (qe_callC C__law_rule hr (by rfl) (qa_cons (qe_bin opd_add (qe_lst (qa_cons (qe_callB (cd_max rfl) (by rfl) B.b_max bt_max (qa_cons (qe_bo (i := 6)) qa_nil)) qa_nil)) (qe_bo (i := 5))) qa_nil))))).qt)).qt
    (qss_one (qs_ret qe_bl))
    qss_nil))))))
    qss_nil)
    (qss_cons (qs_set (i := 7) sc_law.nd (qe_callC C__law_rows hr (by rfl) (qa_cons (qe_nm (i := 1)) (qa_cons qe_int (qa_cons qe_int qa_nil)))))
    (qss_one (qs_if (qt_cmp (opd_ne hu64) (qe_callC C_agree hr (by rfl) (qa_cons (qe_callC C__law_plain hr (by rfl) (qa_cons (qe_nm (i := 7)) qa_nil)) qa_nil)) (qe_callC C__law_all_agree hr (by rfl) (qa_cons (qe_nm (i := 7)) qa_nil)) (by rfl))
    (qss_one (qs_ret qe_bl))
    qss_nil)))))))
    (qss_one (qs_ret (qe_and (qe_cmp opd_is (qe_callC C_is_agreeing hr (by rfl) (qa_cons (qe_tup (qa_cons qe_int (qa_cons qe_int (qa_cons qe_int qa_nil)))) qa_nil)) qe_bl (by rfl)) (qe_and (qe_cmp opd_is (qe_callC C_is_agreeing hr (by rfl) (qa_cons (qe_tup (qa_cons (qe_bin opd_pow qe_int qe_int) (qa_cons qe_int qa_nil))) qa_nil)) qe_bl (by rfl)) (qe_one (qe_cmp opd_is (qe_callC C_is_agreeing hr (by rfl) (qa_cons (qe_tup qa_nil) qa_nil)) qe_bl (by rfl)))))))), ?_⟩
  show (_ : TSd) lawD [none, some (.fr .tape), none, none, none, none, none, none, none]
  try simp only [e_dSeq, e_dNext, e_dSet, e_dRet, e_dDrop, e_dIfS, e_dTgS, e_dC, e_dBin, e_dTst, e_dChn, e_dAnd, e_dOr, e_dNot, e_dAndV, e_dOrV, e_dNotV, e_dIf, e_dNil, e_dCons, e_dLst, e_dTup, e_dCB, e_dCall, e_dYes, e_dApp, e_dAug, e_dAugM, e_dIsi, e_dIsi2, e_dSl, e_dNoP, e_dPart, e_dM1, e_dFor, e_dLC, e_dIt, e_dRng1, e_dZipM, e_dRngN, e_dRev, e_dPar0, w_maxT, e_dSrtSet, e_dItS, e_dPar2, e_dPar3, e_par2, e_par3, e_dCallD, e_dCallK, e_dRng2, e_dEnum, e_dZip, nm0f, nm0o, nm0d, bo0f, bo0o, bo0d, mv0f, mv0o, mv0d, nm1f, nm1o, nm1d, bo1f, bo1o, bo1d, mv1f, mv1o, mv1d, nm2f, nm2o, nm2d, bo2f, bo2o, bo2d, mv2f, mv2o, mv2d, nm3f, nm3o, nm3d, bo3f, bo3o, bo3d, mv3f, mv3o, mv3d, nm4f, nm4o, nm4d, bo4f, bo4o, bo4d, mv4f, mv4o, mv4d, nm5f, nm5o, nm5d, bo5f, bo5o, bo5d, mv5f, mv5o, mv5d, nm6f, nm6o, nm6d, bo6f, bo6o, bo6d, mv6f, mv6o, mv6d, nm7f, nm7o, nm7d, bo7f, bo7o, bo7d, mv7f, mv7o, mv7d, nm8f, nm8o, nm8d, bo8f, bo8o, bo8d, mv8f, mv8o, mv8d, nm9f, nm9o, nm9d, bo9f, bo9o, bo9d, mv9f, mv9o, mv9d, nm10f, nm10o, nm10d, bo10f, bo10o, bo10d, mv10f, mv10o, mv10d, nm11f, nm11o, nm11d, bo11f, bo11o, bo11d, mv11f, mv11o, mv11d, nm12f, nm12o, nm12d, bo12f, bo12o, bo12d, mv12f, mv12o, mv12d, nm13f, nm13o, nm13d, bo13f, bo13o, bo13d, mv13f, mv13o, mv13d, nm14f, nm14o, nm14d, bo14f, bo14o, bo14d, mv14f, mv14o, mv14d, nm15f, nm15o, nm15d, bo15f, bo15o, bo15d, mv15f, mv15o, mv15d, nm16f, bo16f, mv16f, nm16o, bo16o, mv16o, nm16d, bo16d, mv16d, nm17f, bo17f, mv17f, nm17o, bo17o, mv17o, nm17d, bo17d, mv17d, nm18f, bo18f, mv18f, nm18o, bo18o, mv18o, nm18d, bo18d, mv18d, nm19f, bo19f, mv19f, nm19o, bo19o, mv19o, nm19d, bo19d, mv19d, nm20f, bo20f, mv20f, nm20o, bo20o, mv20o, nm20d, bo20d, mv20d, nm21f, bo21f, mv21f, nm21o, bo21o, mv21o, nm21d, bo21d, mv21d, nm22f, bo22f, mv22f, nm22o, bo22o, mv22o, nm22d, bo22d, mv22d, nm23f, bo23f, mv23f, nm23o, bo23o, mv23o, nm23d, bo23d, mv23d, d_fr, fz_fr, isFr_fr, free_fr, d_ow, fz_ow, isFr_ow, free_ow, d_od, fz_od, isFr_od, free_od, d_bo, fz_bo, isFr_bo, free_bo, d_bd, fz_bd, isFr_bd, free_bd, w_add_i, w_add_s, w_add_l, w_add_t, w_sub, w_mul_i, w_mul_s, w_mul_l, w_mul_t, w_mod, w_fdv, w_pow, w_le_i, w_gt_i, w_ge_i, w_le_s, w_gt_s, w_ge_s, w_lt_i, w_lt_s, w_eq, w_ne, w_is_b, w_isN_b, w_in_l, w_nin_l, w_ix_l, w_ix_t, w_ix_s, w_sl_l, w_sl_t, w_sl_s, w_len_l, w_len_t, w_len_s, w_list_l, w_list_t, w_tuple_l, w_tuple_t, w_str, w_int_i, w_int_b, w_int_s, w_max2, w_max_l, w_min2, w_min_l, w_all, w_any, w_sorted_l, w_sorted_t, w_split, w_join, w_in_t, w_nin_t, w_in_ts, w_nin_ts, e_draw, e_cok_int, e_cok_bl, e_cok_str, List.map_cons, List.map_nil, List.all_cons, List.all_nil, List.length_cons, List.length_nil, List.getElem?_cons_zero, List.getElem?_cons_succ, List.set_cons_zero, List.set_cons_succ, retD, Tg.put, puts, wipeE, true_and, and_true, and_self, Bool.and_true, Bool.true_and, exists_eq_left', exists_eq_left, R.fr.injEq, R.ow.injEq, Option.some.injEq, D.bl.injEq, D.int.injEq, D.str.injEq, D.lst.injEq, D.tup.injEq, decide_eq_true_eq, if_true, exists_eq', Bool.not_true, Bool.not_false, ite_true, ite_false, if_false, Bool.false_eq_true]
  refine ⟨by decide, ?_⟩
  rw [rngD_eq]
  refine for_keepF (fun ε => ∃ x2 x3 x4 x5 x6 x7 : Option R, ε = [none, some (.fr .tape), x2, x3, x4, x5, x6, x7, none]) ⟨none, none, none, none, none, none, rfl⟩ (fun t ht ε hI => ?_) (fun ε hI => ?_)
  · obtain ⟨x2, x3, x4, x5, x6, x7, rfl⟩ := hI
    refine ⟨_, rfl, ?_⟩
    try simp only [e_dSeq, e_dNext, e_dSet, e_dRet, e_dDrop, e_dIfS, e_dTgS, e_dC, e_dBin, e_dTst, e_dChn, e_dAnd, e_dOr, e_dNot, e_dAndV, e_dOrV, e_dNotV, e_dIf, e_dNil, e_dCons, e_dLst, e_dTup, e_dCB, e_dCall, e_dYes, e_dApp, e_dAug, e_dAugM, e_dIsi, e_dIsi2, e_dSl, e_dNoP, e_dPart, e_dM1, e_dFor, e_dLC, e_dIt, e_dRng1, e_dZipM, e_dRngN, e_dRev, e_dPar0, w_maxT, e_dSrtSet, e_dItS, e_dPar2, e_dPar3, e_par2, e_par3, e_dCallD, e_dCallK, e_dRng2, e_dEnum, e_dZip, nm0f, nm0o, nm0d, bo0f, bo0o, bo0d, mv0f, mv0o, mv0d, nm1f, nm1o, nm1d, bo1f, bo1o, bo1d, mv1f, mv1o, mv1d, nm2f, nm2o, nm2d, bo2f, bo2o, bo2d, mv2f, mv2o, mv2d, nm3f, nm3o, nm3d, bo3f, bo3o, bo3d, mv3f, mv3o, mv3d, nm4f, nm4o, nm4d, bo4f, bo4o, bo4d, mv4f, mv4o, mv4d, nm5f, nm5o, nm5d, bo5f, bo5o, bo5d, mv5f, mv5o, mv5d, nm6f, nm6o, nm6d, bo6f, bo6o, bo6d, mv6f, mv6o, mv6d, nm7f, nm7o, nm7d, bo7f, bo7o, bo7d, mv7f, mv7o, mv7d, nm8f, nm8o, nm8d, bo8f, bo8o, bo8d, mv8f, mv8o, mv8d, nm9f, nm9o, nm9d, bo9f, bo9o, bo9d, mv9f, mv9o, mv9d, nm10f, nm10o, nm10d, bo10f, bo10o, bo10d, mv10f, mv10o, mv10d, nm11f, nm11o, nm11d, bo11f, bo11o, bo11d, mv11f, mv11o, mv11d, nm12f, nm12o, nm12d, bo12f, bo12o, bo12d, mv12f, mv12o, mv12d, nm13f, nm13o, nm13d, bo13f, bo13o, bo13d, mv13f, mv13o, mv13d, nm14f, nm14o, nm14d, bo14f, bo14o, bo14d, mv14f, mv14o, mv14d, nm15f, nm15o, nm15d, bo15f, bo15o, bo15d, mv15f, mv15o, mv15d, nm16f, bo16f, mv16f, nm16o, bo16o, mv16o, nm16d, bo16d, mv16d, nm17f, bo17f, mv17f, nm17o, bo17o, mv17o, nm17d, bo17d, mv17d, nm18f, bo18f, mv18f, nm18o, bo18o, mv18o, nm18d, bo18d, mv18d, nm19f, bo19f, mv19f, nm19o, bo19o, mv19o, nm19d, bo19d, mv19d, nm20f, bo20f, mv20f, nm20o, bo20o, mv20o, nm20d, bo20d, mv20d, nm21f, bo21f, mv21f, nm21o, bo21o, mv21o, nm21d, bo21d, mv21d, nm22f, bo22f, mv22f, nm22o, bo22o, mv22o, nm22d, bo22d, mv22d, nm23f, bo23f, mv23f, nm23o, bo23o, mv23o, nm23d, bo23d, mv23d, d_fr, fz_fr, isFr_fr, free_fr, d_ow, fz_ow, isFr_ow, free_ow, d_od, fz_od, isFr_od, free_od, d_bo, fz_bo, isFr_bo, free_bo, d_bd, fz_bd, isFr_bd, free_bd, w_add_i, w_add_s, w_add_l, w_add_t, w_sub, w_mul_i, w_mul_s, w_mul_l, w_mul_t, w_mod, w_fdv, w_pow, w_le_i, w_gt_i, w_ge_i, w_le_s, w_gt_s, w_ge_s, w_lt_i, w_lt_s, w_eq, w_ne, w_is_b, w_isN_b, w_in_l, w_nin_l, w_ix_l, w_ix_t, w_ix_s, w_sl_l, w_sl_t, w_sl_s, w_len_l, w_len_t, w_len_s, w_list_l, w_list_t, w_tuple_l, w_tuple_t, w_str, w_int_i, w_int_b, w_int_s, w_max2, w_max_l, w_min2, w_min_l, w_all, w_any, w_sorted_l, w_sorted_t, w_split, w_join, w_in_t, w_nin_t, w_in_ts, w_nin_ts, e_draw, e_cok_int, e_cok_bl, e_cok_str, List.map_cons, List.map_nil, List.all_cons, List.all_nil, List.length_cons, List.length_nil, List.getElem?_cons_zero, List.getElem?_cons_succ, List.set_cons_zero, List.set_cons_succ, retD, Tg.put, puts, wipeE, true_and, and_true, and_self, Bool.and_true, Bool.true_and, exists_eq_left', exists_eq_left, R.fr.injEq, R.ow.injEq, Option.some.injEq, D.bl.injEq, D.int.injEq, D.str.injEq, D.lst.injEq, D.tup.injEq, decide_eq_true_eq, if_true, exists_eq', Bool.not_true, Bool.not_false, ite_true, ite_false, if_false, Bool.false_eq_true]
    refine ⟨8, rfl, ⟨by decide, by decide⟩, ?_⟩
    rintro r ⟨vs, rfl, hl, nd, hn⟩
    have hl : vs.length ≤ 8 := hl
    have hN : ∀ n ∈ vs, Num n := fun n h => by have := hn n h; exact ⟨by omega, by omega⟩
    have hP : ∀ n ∈ vs, PosI n := fun n h => by have := hn n h; exact ⟨by omega, by show n < 10 ^ 17; omega⟩
    try simp only [e_dSeq, e_dNext, e_dSet, e_dRet, e_dDrop, e_dIfS, e_dTgS, e_dC, e_dBin, e_dTst, e_dChn, e_dAnd, e_dOr, e_dNot, e_dAndV, e_dOrV, e_dNotV, e_dIf, e_dNil, e_dCons, e_dLst, e_dTup, e_dCB, e_dCall, e_dYes, e_dApp, e_dAug, e_dAugM, e_dIsi, e_dIsi2, e_dSl, e_dNoP, e_dPart, e_dM1, e_dFor, e_dLC, e_dIt, e_dRng1, e_dZipM, e_dRngN, e_dRev, e_dPar0, w_maxT, e_dSrtSet, e_dItS, e_dPar2, e_dPar3, e_par2, e_par3, e_dCallD, e_dCallK, e_dRng2, e_dEnum, e_dZip, nm0f, nm0o, nm0d, bo0f, bo0o, bo0d, mv0f, mv0o, mv0d, nm1f, nm1o, nm1d, bo1f, bo1o, bo1d, mv1f, mv1o, mv1d, nm2f, nm2o, nm2d, bo2f, bo2o, bo2d, mv2f, mv2o, mv2d, nm3f, nm3o, nm3d, bo3f, bo3o, bo3d, mv3f, mv3o, mv3d, nm4f, nm4o, nm4d, bo4f, bo4o, bo4d, mv4f, mv4o, mv4d, nm5f, nm5o, nm5d, bo5f, bo5o, bo5d, mv5f, mv5o, mv5d, nm6f, nm6o, nm6d, bo6f, bo6o, bo6d, mv6f, mv6o, mv6d, nm7f, nm7o, nm7d, bo7f, bo7o, bo7d, mv7f, mv7o, mv7d, nm8f, nm8o, nm8d, bo8f, bo8o, bo8d, mv8f, mv8o, mv8d, nm9f, nm9o, nm9d, bo9f, bo9o, bo9d, mv9f, mv9o, mv9d, nm10f, nm10o, nm10d, bo10f, bo10o, bo10d, mv10f, mv10o, mv10d, nm11f, nm11o, nm11d, bo11f, bo11o, bo11d, mv11f, mv11o, mv11d, nm12f, nm12o, nm12d, bo12f, bo12o, bo12d, mv12f, mv12o, mv12d, nm13f, nm13o, nm13d, bo13f, bo13o, bo13d, mv13f, mv13o, mv13d, nm14f, nm14o, nm14d, bo14f, bo14o, bo14d, mv14f, mv14o, mv14d, nm15f, nm15o, nm15d, bo15f, bo15o, bo15d, mv15f, mv15o, mv15d, nm16f, bo16f, mv16f, nm16o, bo16o, mv16o, nm16d, bo16d, mv16d, nm17f, bo17f, mv17f, nm17o, bo17o, mv17o, nm17d, bo17d, mv17d, nm18f, bo18f, mv18f, nm18o, bo18o, mv18o, nm18d, bo18d, mv18d, nm19f, bo19f, mv19f, nm19o, bo19o, mv19o, nm19d, bo19d, mv19d, nm20f, bo20f, mv20f, nm20o, bo20o, mv20o, nm20d, bo20d, mv20d, nm21f, bo21f, mv21f, nm21o, bo21o, mv21o, nm21d, bo21d, mv21d, nm22f, bo22f, mv22f, nm22o, bo22o, mv22o, nm22d, bo22d, mv22d, nm23f, bo23f, mv23f, nm23o, bo23o, mv23o, nm23d, bo23d, mv23d, d_fr, fz_fr, isFr_fr, free_fr, d_ow, fz_ow, isFr_ow, free_ow, d_od, fz_od, isFr_od, free_od, d_bo, fz_bo, isFr_bo, free_bo, d_bd, fz_bd, isFr_bd, free_bd, w_add_i, w_add_s, w_add_l, w_add_t, w_sub, w_mul_i, w_mul_s, w_mul_l, w_mul_t, w_mod, w_fdv, w_pow, w_le_i, w_gt_i, w_ge_i, w_le_s, w_gt_s, w_ge_s, w_lt_i, w_lt_s, w_eq, w_ne, w_is_b, w_isN_b, w_in_l, w_nin_l, w_ix_l, w_ix_t, w_ix_s, w_sl_l, w_sl_t, w_sl_s, w_len_l, w_len_t, w_len_s, w_list_l, w_list_t, w_tuple_l, w_tuple_t, w_str, w_int_i, w_int_b, w_int_s, w_max2, w_max_l, w_min2, w_min_l, w_all, w_any, w_sorted_l, w_sorted_t, w_split, w_join, w_in_t, w_nin_t, w_in_ts, w_nin_ts, e_draw, e_cok_int, e_cok_bl, e_cok_str, List.map_cons, List.map_nil, List.all_cons, List.all_nil, List.length_cons, List.length_nil, List.getElem?_cons_zero, List.getElem?_cons_succ, List.set_cons_zero, List.set_cons_succ, retD, Tg.put, puts, wipeE, true_and, and_true, and_self, Bool.and_true, Bool.true_and, exists_eq_left', exists_eq_left, R.fr.injEq, R.ow.injEq, Option.some.injEq, D.bl.injEq, D.int.injEq, D.str.injEq, D.lst.injEq, D.tup.injEq, decide_eq_true_eq, if_true, exists_eq', Bool.not_true, Bool.not_false, ite_true, ite_false, if_false, Bool.false_eq_true]
    refine ⟨.inl rfl, vs, rfl, hN, ?_⟩
    rintro r rfl
    try simp only [e_dSeq, e_dNext, e_dSet, e_dRet, e_dDrop, e_dIfS, e_dTgS, e_dC, e_dBin, e_dTst, e_dChn, e_dAnd, e_dOr, e_dNot, e_dAndV, e_dOrV, e_dNotV, e_dIf, e_dNil, e_dCons, e_dLst, e_dTup, e_dCB, e_dCall, e_dYes, e_dApp, e_dAug, e_dAugM, e_dIsi, e_dIsi2, e_dSl, e_dNoP, e_dPart, e_dM1, e_dFor, e_dLC, e_dIt, e_dRng1, e_dZipM, e_dRngN, e_dRev, e_dPar0, w_maxT, e_dSrtSet, e_dItS, e_dPar2, e_dPar3, e_par2, e_par3, e_dCallD, e_dCallK, e_dRng2, e_dEnum, e_dZip, nm0f, nm0o, nm0d, bo0f, bo0o, bo0d, mv0f, mv0o, mv0d, nm1f, nm1o, nm1d, bo1f, bo1o, bo1d, mv1f, mv1o, mv1d, nm2f, nm2o, nm2d, bo2f, bo2o, bo2d, mv2f, mv2o, mv2d, nm3f, nm3o, nm3d, bo3f, bo3o, bo3d, mv3f, mv3o, mv3d, nm4f, nm4o, nm4d, bo4f, bo4o, bo4d, mv4f, mv4o, mv4d, nm5f, nm5o, nm5d, bo5f, bo5o, bo5d, mv5f, mv5o, mv5d, nm6f, nm6o, nm6d, bo6f, bo6o, bo6d, mv6f, mv6o, mv6d, nm7f, nm7o, nm7d, bo7f, bo7o, bo7d, mv7f, mv7o, mv7d, nm8f, nm8o, nm8d, bo8f, bo8o, bo8d, mv8f, mv8o, mv8d, nm9f, nm9o, nm9d, bo9f, bo9o, bo9d, mv9f, mv9o, mv9d, nm10f, nm10o, nm10d, bo10f, bo10o, bo10d, mv10f, mv10o, mv10d, nm11f, nm11o, nm11d, bo11f, bo11o, bo11d, mv11f, mv11o, mv11d, nm12f, nm12o, nm12d, bo12f, bo12o, bo12d, mv12f, mv12o, mv12d, nm13f, nm13o, nm13d, bo13f, bo13o, bo13d, mv13f, mv13o, mv13d, nm14f, nm14o, nm14d, bo14f, bo14o, bo14d, mv14f, mv14o, mv14d, nm15f, nm15o, nm15d, bo15f, bo15o, bo15d, mv15f, mv15o, mv15d, nm16f, bo16f, mv16f, nm16o, bo16o, mv16o, nm16d, bo16d, mv16d, nm17f, bo17f, mv17f, nm17o, bo17o, mv17o, nm17d, bo17d, mv17d, nm18f, bo18f, mv18f, nm18o, bo18o, mv18o, nm18d, bo18d, mv18d, nm19f, bo19f, mv19f, nm19o, bo19o, mv19o, nm19d, bo19d, mv19d, nm20f, bo20f, mv20f, nm20o, bo20o, mv20o, nm20d, bo20d, mv20d, nm21f, bo21f, mv21f, nm21o, bo21o, mv21o, nm21d, bo21d, mv21d, nm22f, bo22f, mv22f, nm22o, bo22o, mv22o, nm22d, bo22d, mv22d, nm23f, bo23f, mv23f, nm23o, bo23o, mv23o, nm23d, bo23d, mv23d, d_fr, fz_fr, isFr_fr, free_fr, d_ow, fz_ow, isFr_ow, free_ow, d_od, fz_od, isFr_od, free_od, d_bo, fz_bo, isFr_bo, free_bo, d_bd, fz_bd, isFr_bd, free_bd, w_add_i, w_add_s, w_add_l, w_add_t, w_sub, w_mul_i, w_mul_s, w_mul_l, w_mul_t, w_mod, w_fdv, w_pow, w_le_i, w_gt_i, w_ge_i, w_le_s, w_gt_s, w_ge_s, w_lt_i, w_lt_s, w_eq, w_ne, w_is_b, w_isN_b, w_in_l, w_nin_l, w_ix_l, w_ix_t, w_ix_s, w_sl_l, w_sl_t, w_sl_s, w_len_l, w_len_t, w_len_s, w_list_l, w_list_t, w_tuple_l, w_tuple_t, w_str, w_int_i, w_int_b, w_int_s, w_max2, w_max_l, w_min2, w_min_l, w_all, w_any, w_sorted_l, w_sorted_t, w_split, w_join, w_in_t, w_nin_t, w_in_ts, w_nin_ts, e_draw, e_cok_int, e_cok_bl, e_cok_str, List.map_cons, List.map_nil, List.all_cons, List.all_nil, List.length_cons, List.length_nil, List.getElem?_cons_zero, List.getElem?_cons_succ, List.set_cons_zero, List.set_cons_succ, retD, Tg.put, puts, wipeE, true_and, and_true, and_self, Bool.and_true, Bool.true_and, exists_eq_left', exists_eq_left, R.fr.injEq, R.ow.injEq, Option.some.injEq, D.bl.injEq, D.int.injEq, D.str.injEq, D.lst.injEq, D.tup.injEq, decide_eq_true_eq, if_true, exists_eq', Bool.not_true, Bool.not_false, ite_true, ite_false, if_false, Bool.false_eq_true]
    refine ⟨(true, vs), rfl, hP, ?_⟩
    rintro r ⟨b, rfl, hb⟩
    have eb : risingL ((isort vs).map istr) = b := by
      rw [Bool.eq_iff_iff, rising_iff, hb, ← av_perm (isort_perm vs), ← rs_av (isort_strict nd)]
      exact Iff.rfl
    rw [eb]
    try simp only [e_dSeq, e_dNext, e_dSet, e_dRet, e_dDrop, e_dIfS, e_dTgS, e_dC, e_dBin, e_dTst, e_dChn, e_dAnd, e_dOr, e_dNot, e_dAndV, e_dOrV, e_dNotV, e_dIf, e_dNil, e_dCons, e_dLst, e_dTup, e_dCB, e_dCall, e_dYes, e_dApp, e_dAug, e_dAugM, e_dIsi, e_dIsi2, e_dSl, e_dNoP, e_dPart, e_dM1, e_dFor, e_dLC, e_dIt, e_dRng1, e_dZipM, e_dRngN, e_dRev, e_dPar0, w_maxT, e_dSrtSet, e_dItS, e_dPar2, e_dPar3, e_par2, e_par3, e_dCallD, e_dCallK, e_dRng2, e_dEnum, e_dZip, nm0f, nm0o, nm0d, bo0f, bo0o, bo0d, mv0f, mv0o, mv0d, nm1f, nm1o, nm1d, bo1f, bo1o, bo1d, mv1f, mv1o, mv1d, nm2f, nm2o, nm2d, bo2f, bo2o, bo2d, mv2f, mv2o, mv2d, nm3f, nm3o, nm3d, bo3f, bo3o, bo3d, mv3f, mv3o, mv3d, nm4f, nm4o, nm4d, bo4f, bo4o, bo4d, mv4f, mv4o, mv4d, nm5f, nm5o, nm5d, bo5f, bo5o, bo5d, mv5f, mv5o, mv5d, nm6f, nm6o, nm6d, bo6f, bo6o, bo6d, mv6f, mv6o, mv6d, nm7f, nm7o, nm7d, bo7f, bo7o, bo7d, mv7f, mv7o, mv7d, nm8f, nm8o, nm8d, bo8f, bo8o, bo8d, mv8f, mv8o, mv8d, nm9f, nm9o, nm9d, bo9f, bo9o, bo9d, mv9f, mv9o, mv9d, nm10f, nm10o, nm10d, bo10f, bo10o, bo10d, mv10f, mv10o, mv10d, nm11f, nm11o, nm11d, bo11f, bo11o, bo11d, mv11f, mv11o, mv11d, nm12f, nm12o, nm12d, bo12f, bo12o, bo12d, mv12f, mv12o, mv12d, nm13f, nm13o, nm13d, bo13f, bo13o, bo13d, mv13f, mv13o, mv13d, nm14f, nm14o, nm14d, bo14f, bo14o, bo14d, mv14f, mv14o, mv14d, nm15f, nm15o, nm15d, bo15f, bo15o, bo15d, mv15f, mv15o, mv15d, nm16f, bo16f, mv16f, nm16o, bo16o, mv16o, nm16d, bo16d, mv16d, nm17f, bo17f, mv17f, nm17o, bo17o, mv17o, nm17d, bo17d, mv17d, nm18f, bo18f, mv18f, nm18o, bo18o, mv18o, nm18d, bo18d, mv18d, nm19f, bo19f, mv19f, nm19o, bo19o, mv19o, nm19d, bo19d, mv19d, nm20f, bo20f, mv20f, nm20o, bo20o, mv20o, nm20d, bo20d, mv20d, nm21f, bo21f, mv21f, nm21o, bo21o, mv21o, nm21d, bo21d, mv21d, nm22f, bo22f, mv22f, nm22o, bo22o, mv22o, nm22d, bo22d, mv22d, nm23f, bo23f, mv23f, nm23o, bo23o, mv23o, nm23d, bo23d, mv23d, d_fr, fz_fr, isFr_fr, free_fr, d_ow, fz_ow, isFr_ow, free_ow, d_od, fz_od, isFr_od, free_od, d_bo, fz_bo, isFr_bo, free_bo, d_bd, fz_bd, isFr_bd, free_bd, w_add_i, w_add_s, w_add_l, w_add_t, w_sub, w_mul_i, w_mul_s, w_mul_l, w_mul_t, w_mod, w_fdv, w_pow, w_le_i, w_gt_i, w_ge_i, w_le_s, w_gt_s, w_ge_s, w_lt_i, w_lt_s, w_eq, w_ne, w_is_b, w_isN_b, w_in_l, w_nin_l, w_ix_l, w_ix_t, w_ix_s, w_sl_l, w_sl_t, w_sl_s, w_len_l, w_len_t, w_len_s, w_list_l, w_list_t, w_tuple_l, w_tuple_t, w_str, w_int_i, w_int_b, w_int_s, w_max2, w_max_l, w_min2, w_min_l, w_all, w_any, w_sorted_l, w_sorted_t, w_split, w_join, w_in_t, w_nin_t, w_in_ts, w_nin_ts, e_draw, e_cok_int, e_cok_bl, e_cok_str, List.map_cons, List.map_nil, List.all_cons, List.all_nil, List.length_cons, List.length_nil, List.getElem?_cons_zero, List.getElem?_cons_succ, List.set_cons_zero, List.set_cons_succ, retD, Tg.put, puts, wipeE, true_and, and_true, and_self, Bool.and_true, Bool.true_and, exists_eq_left', exists_eq_left, R.fr.injEq, R.ow.injEq, Option.some.injEq, D.bl.injEq, D.int.injEq, D.str.injEq, D.lst.injEq, D.tup.injEq, decide_eq_true_eq, if_true, exists_eq', Bool.not_true, Bool.not_false, ite_true, ite_false, if_false, Bool.false_eq_true]
    refine ⟨(.bl b, .bl b), rfl, ⟨rfl, rfl⟩, ?_⟩
    rintro r ⟨c, rfl, hc⟩
    have hc : c = true := hc.mpr rfl
    subst hc
    try simp only [e_dSeq, e_dNext, e_dSet, e_dRet, e_dDrop, e_dIfS, e_dTgS, e_dC, e_dBin, e_dTst, e_dChn, e_dAnd, e_dOr, e_dNot, e_dAndV, e_dOrV, e_dNotV, e_dIf, e_dNil, e_dCons, e_dLst, e_dTup, e_dCB, e_dCall, e_dYes, e_dApp, e_dAug, e_dAugM, e_dIsi, e_dIsi2, e_dSl, e_dNoP, e_dPart, e_dM1, e_dFor, e_dLC, e_dIt, e_dRng1, e_dZipM, e_dRngN, e_dRev, e_dPar0, w_maxT, e_dSrtSet, e_dItS, e_dPar2, e_dPar3, e_par2, e_par3, e_dCallD, e_dCallK, e_dRng2, e_dEnum, e_dZip, nm0f, nm0o, nm0d, bo0f, bo0o, bo0d, mv0f, mv0o, mv0d, nm1f, nm1o, nm1d, bo1f, bo1o, bo1d, mv1f, mv1o, mv1d, nm2f, nm2o, nm2d, bo2f, bo2o, bo2d, mv2f, mv2o, mv2d, nm3f, nm3o, nm3d, bo3f, bo3o, bo3d, mv3f, mv3o, mv3d, nm4f, nm4o, nm4d, bo4f, bo4o, bo4d, mv4f, mv4o, mv4d, nm5f, nm5o, nm5d, bo5f, bo5o, bo5d, mv5f, mv5o, mv5d, nm6f, nm6o, nm6d, bo6f, bo6o, bo6d, mv6f, mv6o, mv6d, nm7f, nm7o, nm7d, bo7f, bo7o, bo7d, mv7f, mv7o, mv7d, nm8f, nm8o, nm8d, bo8f, bo8o, bo8d, mv8f, mv8o, mv8d, nm9f, nm9o, nm9d, bo9f, bo9o, bo9d, mv9f, mv9o, mv9d, nm10f, nm10o, nm10d, bo10f, bo10o, bo10d, mv10f, mv10o, mv10d, nm11f, nm11o, nm11d, bo11f, bo11o, bo11d, mv11f, mv11o, mv11d, nm12f, nm12o, nm12d, bo12f, bo12o, bo12d, mv12f, mv12o, mv12d, nm13f, nm13o, nm13d, bo13f, bo13o, bo13d, mv13f, mv13o, mv13d, nm14f, nm14o, nm14d, bo14f, bo14o, bo14d, mv14f, mv14o, mv14d, nm15f, nm15o, nm15d, bo15f, bo15o, bo15d, mv15f, mv15o, mv15d, nm16f, bo16f, mv16f, nm16o, bo16o, mv16o, nm16d, bo16d, mv16d, nm17f, bo17f, mv17f, nm17o, bo17o, mv17o, nm17d, bo17d, mv17d, nm18f, bo18f, mv18f, nm18o, bo18o, mv18o, nm18d, bo18d, mv18d, nm19f, bo19f, mv19f, nm19o, bo19o, mv19o, nm19d, bo19d, mv19d, nm20f, bo20f, mv20f, nm20o, bo20o, mv20o, nm20d, bo20d, mv20d, nm21f, bo21f, mv21f, nm21o, bo21o, mv21o, nm21d, bo21d, mv21d, nm22f, bo22f, mv22f, nm22o, bo22o, mv22o, nm22d, bo22d, mv22d, nm23f, bo23f, mv23f, nm23o, bo23o, mv23o, nm23d, bo23d, mv23d, d_fr, fz_fr, isFr_fr, free_fr, d_ow, fz_ow, isFr_ow, free_ow, d_od, fz_od, isFr_od, free_od, d_bo, fz_bo, isFr_bo, free_bo, d_bd, fz_bd, isFr_bd, free_bd, w_add_i, w_add_s, w_add_l, w_add_t, w_sub, w_mul_i, w_mul_s, w_mul_l, w_mul_t, w_mod, w_fdv, w_pow, w_le_i, w_gt_i, w_ge_i, w_le_s, w_gt_s, w_ge_s, w_lt_i, w_lt_s, w_eq, w_ne, w_is_b, w_isN_b, w_in_l, w_nin_l, w_ix_l, w_ix_t, w_ix_s, w_sl_l, w_sl_t, w_sl_s, w_len_l, w_len_t, w_len_s, w_list_l, w_list_t, w_tuple_l, w_tuple_t, w_str, w_int_i, w_int_b, w_int_s, w_max2, w_max_l, w_min2, w_min_l, w_all, w_any, w_sorted_l, w_sorted_t, w_split, w_join, w_in_t, w_nin_t, w_in_ts, w_nin_ts, e_draw, e_cok_int, e_cok_bl, e_cok_str, List.map_cons, List.map_nil, List.all_cons, List.all_nil, List.length_cons, List.length_nil, List.getElem?_cons_zero, List.getElem?_cons_succ, List.set_cons_zero, List.set_cons_succ, retD, Tg.put, puts, wipeE, true_and, and_true, and_self, Bool.and_true, Bool.true_and, exists_eq_left', exists_eq_left, R.fr.injEq, R.ow.injEq, Option.some.injEq, D.bl.injEq, D.int.injEq, D.str.injEq, D.lst.injEq, D.tup.injEq, decide_eq_true_eq, if_true, exists_eq', Bool.not_true, Bool.not_false, ite_true, ite_false, if_false, Bool.false_eq_true]
    have e0 : D.eqv (.tup (vs.map .int)) (.tup []) = decide (vs = []) := eqv_intsT vs []
    refine ⟨Nat.zero_le _, shp_intsT _, shp_intsT [], ite_k (fun hne => ?_) fun hne => ?_⟩
    · have ne : vs ≠ [] := fun e => by
        have hne : (!D.eqv (.tup (vs.map .int)) (.tup [])) = true := hne
        rw [e0, decide_eq_true e] at hne
        cases hne
      refine ⟨vs, rfl, ⟨ne, by omega, hN⟩, ?_⟩
      rintro r ⟨k, least, rfl, tk, gk⟩
      try simp only [e_dSeq, e_dNext, e_dSet, e_dRet, e_dDrop, e_dIfS, e_dTgS, e_dC, e_dBin, e_dTst, e_dChn, e_dAnd, e_dOr, e_dNot, e_dAndV, e_dOrV, e_dNotV, e_dIf, e_dNil, e_dCons, e_dLst, e_dTup, e_dCB, e_dCall, e_dYes, e_dApp, e_dAug, e_dAugM, e_dIsi, e_dIsi2, e_dSl, e_dNoP, e_dPart, e_dM1, e_dFor, e_dLC, e_dIt, e_dRng1, e_dZipM, e_dRngN, e_dRev, e_dPar0, w_maxT, e_dSrtSet, e_dItS, e_dPar2, e_dPar3, e_par2, e_par3, e_dCallD, e_dCallK, e_dRng2, e_dEnum, e_dZip, nm0f, nm0o, nm0d, bo0f, bo0o, bo0d, mv0f, mv0o, mv0d, nm1f, nm1o, nm1d, bo1f, bo1o, bo1d, mv1f, mv1o, mv1d, nm2f, nm2o, nm2d, bo2f, bo2o, bo2d, mv2f, mv2o, mv2d, nm3f, nm3o, nm3d, bo3f, bo3o, bo3d, mv3f, mv3o, mv3d, nm4f, nm4o, nm4d, bo4f, bo4o, bo4d, mv4f, mv4o, mv4d, nm5f, nm5o, nm5d, bo5f, bo5o, bo5d, mv5f, mv5o, mv5d, nm6f, nm6o, nm6d, bo6f, bo6o, bo6d, mv6f, mv6o, mv6d, nm7f, nm7o, nm7d, bo7f, bo7o, bo7d, mv7f, mv7o, mv7d, nm8f, nm8o, nm8d, bo8f, bo8o, bo8d, mv8f, mv8o, mv8d, nm9f, nm9o, nm9d, bo9f, bo9o, bo9d, mv9f, mv9o, mv9d, nm10f, nm10o, nm10d, bo10f, bo10o, bo10d, mv10f, mv10o, mv10d, nm11f, nm11o, nm11d, bo11f, bo11o, bo11d, mv11f, mv11o, mv11d, nm12f, nm12o, nm12d, bo12f, bo12o, bo12d, mv12f, mv12o, mv12d, nm13f, nm13o, nm13d, bo13f, bo13o, bo13d, mv13f, mv13o, mv13d, nm14f, nm14o, nm14d, bo14f, bo14o, bo14d, mv14f, mv14o, mv14d, nm15f, nm15o, nm15d, bo15f, bo15o, bo15d, mv15f, mv15o, mv15d, nm16f, bo16f, mv16f, nm16o, bo16o, mv16o, nm16d, bo16d, mv16d, nm17f, bo17f, mv17f, nm17o, bo17o, mv17o, nm17d, bo17d, mv17d, nm18f, bo18f, mv18f, nm18o, bo18o, mv18o, nm18d, bo18d, mv18d, nm19f, bo19f, mv19f, nm19o, bo19o, mv19o, nm19d, bo19d, mv19d, nm20f, bo20f, mv20f, nm20o, bo20o, mv20o, nm20d, bo20d, mv20d, nm21f, bo21f, mv21f, nm21o, bo21o, mv21o, nm21d, bo21d, mv21d, nm22f, bo22f, mv22f, nm22o, bo22o, mv22o, nm22d, bo22d, mv22d, nm23f, bo23f, mv23f, nm23o, bo23o, mv23o, nm23d, bo23d, mv23d, d_fr, fz_fr, isFr_fr, free_fr, d_ow, fz_ow, isFr_ow, free_ow, d_od, fz_od, isFr_od, free_od, d_bo, fz_bo, isFr_bo, free_bo, d_bd, fz_bd, isFr_bd, free_bd, w_add_i, w_add_s, w_add_l, w_add_t, w_sub, w_mul_i, w_mul_s, w_mul_l, w_mul_t, w_mod, w_fdv, w_pow, w_le_i, w_gt_i, w_ge_i, w_le_s, w_gt_s, w_ge_s, w_lt_i, w_lt_s, w_eq, w_ne, w_is_b, w_isN_b, w_in_l, w_nin_l, w_ix_l, w_ix_t, w_ix_s, w_sl_l, w_sl_t, w_sl_s, w_len_l, w_len_t, w_len_s, w_list_l, w_list_t, w_tuple_l, w_tuple_t, w_str, w_int_i, w_int_b, w_int_s, w_max2, w_max_l, w_min2, w_min_l, w_all, w_any, w_sorted_l, w_sorted_t, w_split, w_join, w_in_t, w_nin_t, w_in_ts, w_nin_ts, e_draw, e_cok_int, e_cok_bl, e_cok_str, List.map_cons, List.map_nil, List.all_cons, List.all_nil, List.length_cons, List.length_nil, List.getElem?_cons_zero, List.getElem?_cons_succ, List.set_cons_zero, List.set_cons_succ, retD, Tg.put, puts, wipeE, true_and, and_true, and_self, Bool.and_true, Bool.true_and, exists_eq_left', exists_eq_left, R.fr.injEq, R.ow.injEq, Option.some.injEq, D.bl.injEq, D.int.injEq, D.str.injEq, D.lst.injEq, D.tup.injEq, decide_eq_true_eq, if_true, exists_eq', Bool.not_true, Bool.not_false, ite_true, ite_false, if_false, Bool.false_eq_true]
      refine ⟨vs, rfl, ⟨ne, nd, by omega, hN⟩, ?_⟩
      rintro r ⟨k', l', rfl, tk', gk'⟩
      have ek := thr_one tk' tk
      subst ek
      rw [gk] at gk'
      cases gk'
      try simp only [e_dSeq, e_dNext, e_dSet, e_dRet, e_dDrop, e_dIfS, e_dTgS, e_dC, e_dBin, e_dTst, e_dChn, e_dAnd, e_dOr, e_dNot, e_dAndV, e_dOrV, e_dNotV, e_dIf, e_dNil, e_dCons, e_dLst, e_dTup, e_dCB, e_dCall, e_dYes, e_dApp, e_dAug, e_dAugM, e_dIsi, e_dIsi2, e_dSl, e_dNoP, e_dPart, e_dM1, e_dFor, e_dLC, e_dIt, e_dRng1, e_dZipM, e_dRngN, e_dRev, e_dPar0, w_maxT, e_dSrtSet, e_dItS, e_dPar2, e_dPar3, e_par2, e_par3, e_dCallD, e_dCallK, e_dRng2, e_dEnum, e_dZip, nm0f, nm0o, nm0d, bo0f, bo0o, bo0d, mv0f, mv0o, mv0d, nm1f, nm1o, nm1d, bo1f, bo1o, bo1d, mv1f, mv1o, mv1d, nm2f, nm2o, nm2d, bo2f, bo2o, bo2d, mv2f, mv2o, mv2d, nm3f, nm3o, nm3d, bo3f, bo3o, bo3d, mv3f, mv3o, mv3d, nm4f, nm4o, nm4d, bo4f, bo4o, bo4d, mv4f, mv4o, mv4d, nm5f, nm5o, nm5d, bo5f, bo5o, bo5d, mv5f, mv5o, mv5d, nm6f, nm6o, nm6d, bo6f, bo6o, bo6d, mv6f, mv6o, mv6d, nm7f, nm7o, nm7d, bo7f, bo7o, bo7d, mv7f, mv7o, mv7d, nm8f, nm8o, nm8d, bo8f, bo8o, bo8d, mv8f, mv8o, mv8d, nm9f, nm9o, nm9d, bo9f, bo9o, bo9d, mv9f, mv9o, mv9d, nm10f, nm10o, nm10d, bo10f, bo10o, bo10d, mv10f, mv10o, mv10d, nm11f, nm11o, nm11d, bo11f, bo11o, bo11d, mv11f, mv11o, mv11d, nm12f, nm12o, nm12d, bo12f, bo12o, bo12d, mv12f, mv12o, mv12d, nm13f, nm13o, nm13d, bo13f, bo13o, bo13d, mv13f, mv13o, mv13d, nm14f, nm14o, nm14d, bo14f, bo14o, bo14d, mv14f, mv14o, mv14d, nm15f, nm15o, nm15d, bo15f, bo15o, bo15d, mv15f, mv15o, mv15d, nm16f, bo16f, mv16f, nm16o, bo16o, mv16o, nm16d, bo16d, mv16d, nm17f, bo17f, mv17f, nm17o, bo17o, mv17o, nm17d, bo17d, mv17d, nm18f, bo18f, mv18f, nm18o, bo18o, mv18o, nm18d, bo18d, mv18d, nm19f, bo19f, mv19f, nm19o, bo19o, mv19o, nm19d, bo19d, mv19d, nm20f, bo20f, mv20f, nm20o, bo20o, mv20o, nm20d, bo20d, mv20d, nm21f, bo21f, mv21f, nm21o, bo21o, mv21o, nm21d, bo21d, mv21d, nm22f, bo22f, mv22f, nm22o, bo22o, mv22o, nm22d, bo22d, mv22d, nm23f, bo23f, mv23f, nm23o, bo23o, mv23o, nm23d, bo23d, mv23d, d_fr, fz_fr, isFr_fr, free_fr, d_ow, fz_ow, isFr_ow, free_ow, d_od, fz_od, isFr_od, free_od, d_bo, fz_bo, isFr_bo, free_bo, d_bd, fz_bd, isFr_bd, free_bd, w_add_i, w_add_s, w_add_l, w_add_t, w_sub, w_mul_i, w_mul_s, w_mul_l, w_mul_t, w_mod, w_fdv, w_pow, w_le_i, w_gt_i, w_ge_i, w_le_s, w_gt_s, w_ge_s, w_lt_i, w_lt_s, w_eq, w_ne, w_is_b, w_isN_b, w_in_l, w_nin_l, w_ix_l, w_ix_t, w_ix_s, w_sl_l, w_sl_t, w_sl_s, w_len_l, w_len_t, w_len_s, w_list_l, w_list_t, w_tuple_l, w_tuple_t, w_str, w_int_i, w_int_b, w_int_s, w_max2, w_max_l, w_min2, w_min_l, w_all, w_any, w_sorted_l, w_sorted_t, w_split, w_join, w_in_t, w_nin_t, w_in_ts, w_nin_ts, e_draw, e_cok_int, e_cok_bl, e_cok_str, List.map_cons, List.map_nil, List.all_cons, List.all_nil, List.length_cons, List.length_nil, List.getElem?_cons_zero, List.getElem?_cons_succ, List.set_cons_zero, List.set_cons_succ, retD, Tg.put, puts, wipeE, true_and, and_true, and_self, Bool.and_true, Bool.true_and, exists_eq_left', exists_eq_left, R.fr.injEq, R.ow.injEq, Option.some.injEq, D.bl.injEq, D.int.injEq, D.str.injEq, D.lst.injEq, D.tup.injEq, decide_eq_true_eq, if_true, exists_eq', Bool.not_true, Bool.not_false, ite_true, ite_false, if_false, Bool.false_eq_true]
      refine ⟨(.int least, .int least), rfl, ⟨rfl, rfl⟩, ?_⟩
      rintro r ⟨c, rfl, hc⟩
      have hc : c = true := hc.mpr rfl
      subst hc
      try simp only [e_dSeq, e_dNext, e_dSet, e_dRet, e_dDrop, e_dIfS, e_dTgS, e_dC, e_dBin, e_dTst, e_dChn, e_dAnd, e_dOr, e_dNot, e_dAndV, e_dOrV, e_dNotV, e_dIf, e_dNil, e_dCons, e_dLst, e_dTup, e_dCB, e_dCall, e_dYes, e_dApp, e_dAug, e_dAugM, e_dIsi, e_dIsi2, e_dSl, e_dNoP, e_dPart, e_dM1, e_dFor, e_dLC, e_dIt, e_dRng1, e_dZipM, e_dRngN, e_dRev, e_dPar0, w_maxT, e_dSrtSet, e_dItS, e_dPar2, e_dPar3, e_par2, e_par3, e_dCallD, e_dCallK, e_dRng2, e_dEnum, e_dZip, nm0f, nm0o, nm0d, bo0f, bo0o, bo0d, mv0f, mv0o, mv0d, nm1f, nm1o, nm1d, bo1f, bo1o, bo1d, mv1f, mv1o, mv1d, nm2f, nm2o, nm2d, bo2f, bo2o, bo2d, mv2f, mv2o, mv2d, nm3f, nm3o, nm3d, bo3f, bo3o, bo3d, mv3f, mv3o, mv3d, nm4f, nm4o, nm4d, bo4f, bo4o, bo4d, mv4f, mv4o, mv4d, nm5f, nm5o, nm5d, bo5f, bo5o, bo5d, mv5f, mv5o, mv5d, nm6f, nm6o, nm6d, bo6f, bo6o, bo6d, mv6f, mv6o, mv6d, nm7f, nm7o, nm7d, bo7f, bo7o, bo7d, mv7f, mv7o, mv7d, nm8f, nm8o, nm8d, bo8f, bo8o, bo8d, mv8f, mv8o, mv8d, nm9f, nm9o, nm9d, bo9f, bo9o, bo9d, mv9f, mv9o, mv9d, nm10f, nm10o, nm10d, bo10f, bo10o, bo10d, mv10f, mv10o, mv10d, nm11f, nm11o, nm11d, bo11f, bo11o, bo11d, mv11f, mv11o, mv11d, nm12f, nm12o, nm12d, bo12f, bo12o, bo12d, mv12f, mv12o, mv12d, nm13f, nm13o, nm13d, bo13f, bo13o, bo13d, mv13f, mv13o, mv13d, nm14f, nm14o, nm14d, bo14f, bo14o, bo14d, mv14f, mv14o, mv14d, nm15f, nm15o, nm15d, bo15f, bo15o, bo15d, mv15f, mv15o, mv15d, nm16f, bo16f, mv16f, nm16o, bo16o, mv16o, nm16d, bo16d, mv16d, nm17f, bo17f, mv17f, nm17o, bo17o, mv17o, nm17d, bo17d, mv17d, nm18f, bo18f, mv18f, nm18o, bo18o, mv18o, nm18d, bo18d, mv18d, nm19f, bo19f, mv19f, nm19o, bo19o, mv19o, nm19d, bo19d, mv19d, nm20f, bo20f, mv20f, nm20o, bo20o, mv20o, nm20d, bo20d, mv20d, nm21f, bo21f, mv21f, nm21o, bo21o, mv21o, nm21d, bo21d, mv21d, nm22f, bo22f, mv22f, nm22o, bo22o, mv22o, nm22d, bo22d, mv22d, nm23f, bo23f, mv23f, nm23o, bo23o, mv23o, nm23d, bo23d, mv23d, d_fr, fz_fr, isFr_fr, free_fr, d_ow, fz_ow, isFr_ow, free_ow, d_od, fz_od, isFr_od, free_od, d_bo, fz_bo, isFr_bo, free_bo, d_bd, fz_bd, isFr_bd, free_bd, w_add_i, w_add_s, w_add_l, w_add_t, w_sub, w_mul_i, w_mul_s, w_mul_l, w_mul_t, w_mod, w_fdv, w_pow, w_le_i, w_gt_i, w_ge_i, w_le_s, w_gt_s, w_ge_s, w_lt_i, w_lt_s, w_eq, w_ne, w_is_b, w_isN_b, w_in_l, w_nin_l, w_ix_l, w_ix_t, w_ix_s, w_sl_l, w_sl_t, w_sl_s, w_len_l, w_len_t, w_len_s, w_list_l, w_list_t, w_tuple_l, w_tuple_t, w_str, w_int_i, w_int_b, w_int_s, w_max2, w_max_l, w_min2, w_min_l, w_all, w_any, w_sorted_l, w_sorted_t, w_split, w_join, w_in_t, w_nin_t, w_in_ts, w_nin_ts, e_draw, e_cok_int, e_cok_bl, e_cok_str, List.map_cons, List.map_nil, List.all_cons, List.all_nil, List.length_cons, List.length_nil, List.getElem?_cons_zero, List.getElem?_cons_succ, List.set_cons_zero, List.set_cons_succ, retD, Tg.put, puts, wipeE, true_and, and_true, and_self, Bool.and_true, Bool.true_and, exists_eq_left', exists_eq_left, R.fr.injEq, R.ow.injEq, Option.some.injEq, D.bl.injEq, D.int.injEq, D.str.injEq, D.lst.injEq, D.tup.injEq, decide_eq_true_eq, if_true, exists_eq', Bool.not_true, Bool.not_false, ite_true, ite_false, if_false, Bool.false_eq_true]
      refine comp_filterF (fun v => decide (least ≤ v)) D.int rfl (fun v hv P hP => ?_) ?_
      · refine ⟨_, rfl, ?_⟩
        try simp only [e_dSeq, e_dNext, e_dSet, e_dRet, e_dDrop, e_dIfS, e_dTgS, e_dC, e_dBin, e_dTst, e_dChn, e_dAnd, e_dOr, e_dNot, e_dAndV, e_dOrV, e_dNotV, e_dIf, e_dNil, e_dCons, e_dLst, e_dTup, e_dCB, e_dCall, e_dYes, e_dApp, e_dAug, e_dAugM, e_dIsi, e_dIsi2, e_dSl, e_dNoP, e_dPart, e_dM1, e_dFor, e_dLC, e_dIt, e_dRng1, e_dZipM, e_dRngN, e_dRev, e_dPar0, w_maxT, e_dSrtSet, e_dItS, e_dPar2, e_dPar3, e_par2, e_par3, e_dCallD, e_dCallK, e_dRng2, e_dEnum, e_dZip, nm0f, nm0o, nm0d, bo0f, bo0o, bo0d, mv0f, mv0o, mv0d, nm1f, nm1o, nm1d, bo1f, bo1o, bo1d, mv1f, mv1o, mv1d, nm2f, nm2o, nm2d, bo2f, bo2o, bo2d, mv2f, mv2o, mv2d, nm3f, nm3o, nm3d, bo3f, bo3o, bo3d, mv3f, mv3o, mv3d, nm4f, nm4o, nm4d, bo4f, bo4o, bo4d, mv4f, mv4o, mv4d, nm5f, nm5o, nm5d, bo5f, bo5o, bo5d, mv5f, mv5o, mv5d, nm6f, nm6o, nm6d, bo6f, bo6o, bo6d, mv6f, mv6o, mv6d, nm7f, nm7o, nm7d, bo7f, bo7o, bo7d, mv7f, mv7o, mv7d, nm8f, nm8o, nm8d, bo8f, bo8o, bo8d, mv8f, mv8o, mv8d, nm9f, nm9o, nm9d, bo9f, bo9o, bo9d, mv9f, mv9o, mv9d, nm10f, nm10o, nm10d, bo10f, bo10o, bo10d, mv10f, mv10o, mv10d, nm11f, nm11o, nm11d, bo11f, bo11o, bo11d, mv11f, mv11o, mv11d, nm12f, nm12o, nm12d, bo12f, bo12o, bo12d, mv12f, mv12o, mv12d, nm13f, nm13o, nm13d, bo13f, bo13o, bo13d, mv13f, mv13o, mv13d, nm14f, nm14o, nm14d, bo14f, bo14o, bo14d, mv14f, mv14o, mv14d, nm15f, nm15o, nm15d, bo15f, bo15o, bo15d, mv15f, mv15o, mv15d, nm16f, bo16f, mv16f, nm16o, bo16o, mv16o, nm16d, bo16d, mv16d, nm17f, bo17f, mv17f, nm17o, bo17o, mv17o, nm17d, bo17d, mv17d, nm18f, bo18f, mv18f, nm18o, bo18o, mv18o, nm18d, bo18d, mv18d, nm19f, bo19f, mv19f, nm19o, bo19o, mv19o, nm19d, bo19d, mv19d, nm20f, bo20f, mv20f, nm20o, bo20o, mv20o, nm20d, bo20d, mv20d, nm21f, bo21f, mv21f, nm21o, bo21o, mv21o, nm21d, bo21d, mv21d, nm22f, bo22f, mv22f, nm22o, bo22o, mv22o, nm22d, bo22d, mv22d, nm23f, bo23f, mv23f, nm23o, bo23o, mv23o, nm23d, bo23d, mv23d, d_fr, fz_fr, isFr_fr, free_fr, d_ow, fz_ow, isFr_ow, free_ow, d_od, fz_od, isFr_od, free_od, d_bo, fz_bo, isFr_bo, free_bo, d_bd, fz_bd, isFr_bd, free_bd, w_add_i, w_add_s, w_add_l, w_add_t, w_sub, w_mul_i, w_mul_s, w_mul_l, w_mul_t, w_mod, w_fdv, w_pow, w_le_i, w_gt_i, w_ge_i, w_le_s, w_gt_s, w_ge_s, w_lt_i, w_lt_s, w_eq, w_ne, w_is_b, w_isN_b, w_in_l, w_nin_l, w_ix_l, w_ix_t, w_ix_s, w_sl_l, w_sl_t, w_sl_s, w_len_l, w_len_t, w_len_s, w_list_l, w_list_t, w_tuple_l, w_tuple_t, w_str, w_int_i, w_int_b, w_int_s, w_max2, w_max_l, w_min2, w_min_l, w_all, w_any, w_sorted_l, w_sorted_t, w_split, w_join, w_in_t, w_nin_t, w_in_ts, w_nin_ts, e_draw, e_cok_int, e_cok_bl, e_cok_str, List.map_cons, List.map_nil, List.all_cons, List.all_nil, List.length_cons, List.length_nil, List.getElem?_cons_zero, List.getElem?_cons_succ, List.set_cons_zero, List.set_cons_succ, retD, Tg.put, puts, wipeE, true_and, and_true, and_self, Bool.and_true, Bool.true_and, exists_eq_left', exists_eq_left, R.fr.injEq, R.ow.injEq, Option.some.injEq, D.bl.injEq, D.int.injEq, D.str.injEq, D.lst.injEq, D.tup.injEq, decide_eq_true_eq, if_true, exists_eq', Bool.not_true, Bool.not_false, ite_true, ite_false, if_false, Bool.false_eq_true]
        refine ite_k (fun c => ?_) fun c => ?_
        · simpa [c] using hP
        · simpa [c] using hP
      try simp only [e_dSeq, e_dNext, e_dSet, e_dRet, e_dDrop, e_dIfS, e_dTgS, e_dC, e_dBin, e_dTst, e_dChn, e_dAnd, e_dOr, e_dNot, e_dAndV, e_dOrV, e_dNotV, e_dIf, e_dNil, e_dCons, e_dLst, e_dTup, e_dCB, e_dCall, e_dYes, e_dApp, e_dAug, e_dAugM, e_dIsi, e_dIsi2, e_dSl, e_dNoP, e_dPart, e_dM1, e_dFor, e_dLC, e_dIt, e_dRng1, e_dZipM, e_dRngN, e_dRev, e_dPar0, w_maxT, e_dSrtSet, e_dItS, e_dPar2, e_dPar3, e_par2, e_par3, e_dCallD, e_dCallK, e_dRng2, e_dEnum, e_dZip, nm0f, nm0o, nm0d, bo0f, bo0o, bo0d, mv0f, mv0o, mv0d, nm1f, nm1o, nm1d, bo1f, bo1o, bo1d, mv1f, mv1o, mv1d, nm2f, nm2o, nm2d, bo2f, bo2o, bo2d, mv2f, mv2o, mv2d, nm3f, nm3o, nm3d, bo3f, bo3o, bo3d, mv3f, mv3o, mv3d, nm4f, nm4o, nm4d, bo4f, bo4o, bo4d, mv4f, mv4o, mv4d, nm5f, nm5o, nm5d, bo5f, bo5o, bo5d, mv5f, mv5o, mv5d, nm6f, nm6o, nm6d, bo6f, bo6o, bo6d, mv6f, mv6o, mv6d, nm7f, nm7o, nm7d, bo7f, bo7o, bo7d, mv7f, mv7o, mv7d, nm8f, nm8o, nm8d, bo8f, bo8o, bo8d, mv8f, mv8o, mv8d, nm9f, nm9o, nm9d, bo9f, bo9o, bo9d, mv9f, mv9o, mv9d, nm10f, nm10o, nm10d, bo10f, bo10o, bo10d, mv10f, mv10o, mv10d, nm11f, nm11o, nm11d, bo11f, bo11o, bo11d, mv11f, mv11o, mv11d, nm12f, nm12o, nm12d, bo12f, bo12o, bo12d, mv12f, mv12o, mv12d, nm13f, nm13o, nm13d, bo13f, bo13o, bo13d, mv13f, mv13o, mv13d, nm14f, nm14o, nm14d, bo14f, bo14o, bo14d, mv14f, mv14o, mv14d, nm15f, nm15o, nm15d, bo15f, bo15o, bo15d, mv15f, mv15o, mv15d, nm16f, bo16f, mv16f, nm16o, bo16o, mv16o, nm16d, bo16d, mv16d, nm17f, bo17f, mv17f, nm17o, bo17o, mv17o, nm17d, bo17d, mv17d, nm18f, bo18f, mv18f, nm18o, bo18o, mv18o, nm18d, bo18d, mv18d, nm19f, bo19f, mv19f, nm19o, bo19o, mv19o, nm19d, bo19d, mv19d, nm20f, bo20f, mv20f, nm20o, bo20o, mv20o, nm20d, bo20d, mv20d, nm21f, bo21f, mv21f, nm21o, bo21o, mv21o, nm21d, bo21d, mv21d, nm22f, bo22f, mv22f, nm22o, bo22o, mv22o, nm22d, bo22d, mv22d, nm23f, bo23f, mv23f, nm23o, bo23o, mv23o, nm23d, bo23d, mv23d, d_fr, fz_fr, isFr_fr, free_fr, d_ow, fz_ow, isFr_ow, free_ow, d_od, fz_od, isFr_od, free_od, d_bo, fz_bo, isFr_bo, free_bo, d_bd, fz_bd, isFr_bd, free_bd, w_add_i, w_add_s, w_add_l, w_add_t, w_sub, w_mul_i, w_mul_s, w_mul_l, w_mul_t, w_mod, w_fdv, w_pow, w_le_i, w_gt_i, w_ge_i, w_le_s, w_gt_s, w_ge_s, w_lt_i, w_lt_s, w_eq, w_ne, w_is_b, w_isN_b, w_in_l, w_nin_l, w_ix_l, w_ix_t, w_ix_s, w_sl_l, w_sl_t, w_sl_s, w_len_l, w_len_t, w_len_s, w_list_l, w_list_t, w_tuple_l, w_tuple_t, w_str, w_int_i, w_int_b, w_int_s, w_max2, w_max_l, w_min2, w_min_l, w_all, w_any, w_sorted_l, w_sorted_t, w_split, w_join, w_in_t, w_nin_t, w_in_ts, w_nin_ts, e_draw, e_cok_int, e_cok_bl, e_cok_str, List.map_cons, List.map_nil, List.all_cons, List.all_nil, List.length_cons, List.length_nil, List.getElem?_cons_zero, List.getElem?_cons_succ, List.set_cons_zero, List.set_cons_succ, retD, Tg.put, puts, wipeE, true_and, and_true, and_self, Bool.and_true, Bool.true_and, exists_eq_left', exists_eq_left, R.fr.injEq, R.ow.injEq, Option.some.injEq, D.bl.injEq, D.int.injEq, D.str.injEq, D.lst.injEq, D.tup.injEq, decide_eq_true_eq, if_true, exists_eq', Bool.not_true, Bool.not_false, ite_true, ite_false, if_false, Bool.false_eq_true]
      refine comp_filterF (fun v => decide (v < least)) D.int rfl (fun v hv P hP => ?_) ?_
      · refine ⟨_, rfl, ?_⟩
        try simp only [e_dSeq, e_dNext, e_dSet, e_dRet, e_dDrop, e_dIfS, e_dTgS, e_dC, e_dBin, e_dTst, e_dChn, e_dAnd, e_dOr, e_dNot, e_dAndV, e_dOrV, e_dNotV, e_dIf, e_dNil, e_dCons, e_dLst, e_dTup, e_dCB, e_dCall, e_dYes, e_dApp, e_dAug, e_dAugM, e_dIsi, e_dIsi2, e_dSl, e_dNoP, e_dPart, e_dM1, e_dFor, e_dLC, e_dIt, e_dRng1, e_dZipM, e_dRngN, e_dRev, e_dPar0, w_maxT, e_dSrtSet, e_dItS, e_dPar2, e_dPar3, e_par2, e_par3, e_dCallD, e_dCallK, e_dRng2, e_dEnum, e_dZip, nm0f, nm0o, nm0d, bo0f, bo0o, bo0d, mv0f, mv0o, mv0d, nm1f, nm1o, nm1d, bo1f, bo1o, bo1d, mv1f, mv1o, mv1d, nm2f, nm2o, nm2d, bo2f, bo2o, bo2d, mv2f, mv2o, mv2d, nm3f, nm3o, nm3d, bo3f, bo3o, bo3d, mv3f, mv3o, mv3d, nm4f, nm4o, nm4d, bo4f, bo4o, bo4d, mv4f, mv4o, mv4d, nm5f, nm5o, nm5d, bo5f, bo5o, bo5d, mv5f, mv5o, mv5d, nm6f, nm6o, nm6d, bo6f, bo6o, bo6d, mv6f, mv6o, mv6d, nm7f, nm7o, nm7d, bo7f, bo7o, bo7d, mv7f, mv7o, mv7d, nm8f, nm8o, nm8d, bo8f, bo8o, bo8d, mv8f, mv8o, mv8d, nm9f, nm9o, nm9d, bo9f, bo9o, bo9d, mv9f, mv9o, mv9d, nm10f, nm10o, nm10d, bo10f, bo10o, bo10d, mv10f, mv10o, mv10d, nm11f, nm11o, nm11d, bo11f, bo11o, bo11d, mv11f, mv11o, mv11d, nm12f, nm12o, nm12d, bo12f, bo12o, bo12d, mv12f, mv12o, mv12d, nm13f, nm13o, nm13d, bo13f, bo13o, bo13d, mv13f, mv13o, mv13d, nm14f, nm14o, nm14d, bo14f, bo14o, bo14d, mv14f, mv14o, mv14d, nm15f, nm15o, nm15d, bo15f, bo15o, bo15d, mv15f, mv15o, mv15d, nm16f, bo16f, mv16f, nm16o, bo16o, mv16o, nm16d, bo16d, mv16d, nm17f, bo17f, mv17f, nm17o, bo17o, mv17o, nm17d, bo17d, mv17d, nm18f, bo18f, mv18f, nm18o, bo18o, mv18o, nm18d, bo18d, mv18d, nm19f, bo19f, mv19f, nm19o, bo19o, mv19o, nm19d, bo19d, mv19d, nm20f, bo20f, mv20f, nm20o, bo20o, mv20o, nm20d, bo20d, mv20d, nm21f, bo21f, mv21f, nm21o, bo21o, mv21o, nm21d, bo21d, mv21d, nm22f, bo22f, mv22f, nm22o, bo22o, mv22o, nm22d, bo22d, mv22d, nm23f, bo23f, mv23f, nm23o, bo23o, mv23o, nm23d, bo23d, mv23d, d_fr, fz_fr, isFr_fr, free_fr, d_ow, fz_ow, isFr_ow, free_ow, d_od, fz_od, isFr_od, free_od, d_bo, fz_bo, isFr_bo, free_bo, d_bd, fz_bd, isFr_bd, free_bd, w_add_i, w_add_s, w_add_l, w_add_t, w_sub, w_mul_i, w_mul_s, w_mul_l, w_mul_t, w_mod, w_fdv, w_pow, w_le_i, w_gt_i, w_ge_i, w_le_s, w_gt_s, w_ge_s, w_lt_i, w_lt_s, w_eq, w_ne, w_is_b, w_isN_b, w_in_l, w_nin_l, w_ix_l, w_ix_t, w_ix_s, w_sl_l, w_sl_t, w_sl_s, w_len_l, w_len_t, w_len_s, w_list_l, w_list_t, w_tuple_l, w_tuple_t, w_str, w_int_i, w_int_b, w_int_s, w_max2, w_max_l, w_min2, w_min_l, w_all, w_any, w_sorted_l, w_sorted_t, w_split, w_join, w_in_t, w_nin_t, w_in_ts, w_nin_ts, e_draw, e_cok_int, e_cok_bl, e_cok_str, List.map_cons, List.map_nil, List.all_cons, List.all_nil, List.length_cons, List.length_nil, List.getElem?_cons_zero, List.getElem?_cons_succ, List.set_cons_zero, List.set_cons_succ, retD, Tg.put, puts, wipeE, true_and, and_true, and_self, Bool.and_true, Bool.true_and, exists_eq_left', exists_eq_left, R.fr.injEq, R.ow.injEq, Option.some.injEq, D.bl.injEq, D.int.injEq, D.str.injEq, D.lst.injEq, D.tup.injEq, decide_eq_true_eq, if_true, exists_eq', Bool.not_true, Bool.not_false, ite_true, ite_false, if_false, Bool.false_eq_true]
        refine ite_k (fun c => ?_) fun c => ?_
        · simpa [c] using hP
        · simpa [c] using hP
      try simp only [e_dSeq, e_dNext, e_dSet, e_dRet, e_dDrop, e_dIfS, e_dTgS, e_dC, e_dBin, e_dTst, e_dChn, e_dAnd, e_dOr, e_dNot, e_dAndV, e_dOrV, e_dNotV, e_dIf, e_dNil, e_dCons, e_dLst, e_dTup, e_dCB, e_dCall, e_dYes, e_dApp, e_dAug, e_dAugM, e_dIsi, e_dIsi2, e_dSl, e_dNoP, e_dPart, e_dM1, e_dFor, e_dLC, e_dIt, e_dRng1, e_dZipM, e_dRngN, e_dRev, e_dPar0, w_maxT, e_dSrtSet, e_dItS, e_dPar2, e_dPar3, e_par2, e_par3, e_dCallD, e_dCallK, e_dRng2, e_dEnum, e_dZip, nm0f, nm0o, nm0d, bo0f, bo0o, bo0d, mv0f, mv0o, mv0d, nm1f, nm1o, nm1d, bo1f, bo1o, bo1d, mv1f, mv1o, mv1d, nm2f, nm2o, nm2d, bo2f, bo2o, bo2d, mv2f, mv2o, mv2d, nm3f, nm3o, nm3d, bo3f, bo3o, bo3d, mv3f, mv3o, mv3d, nm4f, nm4o, nm4d, bo4f, bo4o, bo4d, mv4f, mv4o, mv4d, nm5f, nm5o, nm5d, bo5f, bo5o, bo5d, mv5f, mv5o, mv5d, nm6f, nm6o, nm6d, bo6f, bo6o, bo6d, mv6f, mv6o, mv6d, nm7f, nm7o, nm7d, bo7f, bo7o, bo7d, mv7f, mv7o, mv7d, nm8f, nm8o, nm8d, bo8f, bo8o, bo8d, mv8f, mv8o, mv8d, nm9f, nm9o, nm9d, bo9f, bo9o, bo9d, mv9f, mv9o, mv9d, nm10f, nm10o, nm10d, bo10f, bo10o, bo10d, mv10f, mv10o, mv10d, nm11f, nm11o, nm11d, bo11f, bo11o, bo11d, mv11f, mv11o, mv11d, nm12f, nm12o, nm12d, bo12f, bo12o, bo12d, mv12f, mv12o, mv12d, nm13f, nm13o, nm13d, bo13f, bo13o, bo13d, mv13f, mv13o, mv13d, nm14f, nm14o, nm14d, bo14f, bo14o, bo14d, mv14f, mv14o, mv14d, nm15f, nm15o, nm15d, bo15f, bo15o, bo15d, mv15f, mv15o, mv15d, nm16f, bo16f, mv16f, nm16o, bo16o, mv16o, nm16d, bo16d, mv16d, nm17f, bo17f, mv17f, nm17o, bo17o, mv17o, nm17d, bo17d, mv17d, nm18f, bo18f, mv18f, nm18o, bo18o, mv18o, nm18d, bo18d, mv18d, nm19f, bo19f, mv19f, nm19o, bo19o, mv19o, nm19d, bo19d, mv19d, nm20f, bo20f, mv20f, nm20o, bo20o, mv20o, nm20d, bo20d, mv20d, nm21f, bo21f, mv21f, nm21o, bo21o, mv21o, nm21d, bo21d, mv21d, nm22f, bo22f, mv22f, nm22o, bo22o, mv22o, nm22d, bo22d, mv22d, nm23f, bo23f, mv23f, nm23o, bo23o, mv23o, nm23d, bo23d, mv23d, d_fr, fz_fr, isFr_fr, free_fr, d_ow, fz_ow, isFr_ow, free_ow, d_od, fz_od, isFr_od, free_od, d_bo, fz_bo, isFr_bo, free_bo, d_bd, fz_bd, isFr_bd, free_bd, w_add_i, w_add_s, w_add_l, w_add_t, w_sub, w_mul_i, w_mul_s, w_mul_l, w_mul_t, w_mod, w_fdv, w_pow, w_le_i, w_gt_i, w_ge_i, w_le_s, w_gt_s, w_ge_s, w_lt_i, w_lt_s, w_eq, w_ne, w_is_b, w_isN_b, w_in_l, w_nin_l, w_ix_l, w_ix_t, w_ix_s, w_sl_l, w_sl_t, w_sl_s, w_len_l, w_len_t, w_len_s, w_list_l, w_list_t, w_tuple_l, w_tuple_t, w_str, w_int_i, w_int_b, w_int_s, w_max2, w_max_l, w_min2, w_min_l, w_all, w_any, w_sorted_l, w_sorted_t, w_split, w_join, w_in_t, w_nin_t, w_in_ts, w_nin_ts, e_draw, e_cok_int, e_cok_bl, e_cok_str, List.map_cons, List.map_nil, List.all_cons, List.all_nil, List.length_cons, List.length_nil, List.getElem?_cons_zero, List.getElem?_cons_succ, List.set_cons_zero, List.set_cons_succ, retD, Tg.put, puts, wipeE, true_and, and_true, and_self, Bool.and_true, Bool.true_and, exists_eq_left', exists_eq_left, R.fr.injEq, R.ow.injEq, Option.some.injEq, D.bl.injEq, D.int.injEq, D.str.injEq, D.lst.injEq, D.tup.injEq, decide_eq_true_eq, if_true, exists_eq', Bool.not_true, Bool.not_false, ite_true, ite_false, if_false, Bool.false_eq_true]
      refine ⟨(false, vs.filter fun v => decide (least ≤ v)), rfl, fun n h => hP n ((List.mem_filter.mp h).1), ?_⟩
      rintro r ⟨b1, rfl, hb1⟩
      have hb1 : b1 = true := hb1.mpr (rest_av nd tk gk)
      subst hb1
      try simp only [e_dSeq, e_dNext, e_dSet, e_dRet, e_dDrop, e_dIfS, e_dTgS, e_dC, e_dBin, e_dTst, e_dChn, e_dAnd, e_dOr, e_dNot, e_dAndV, e_dOrV, e_dNotV, e_dIf, e_dNil, e_dCons, e_dLst, e_dTup, e_dCB, e_dCall, e_dYes, e_dApp, e_dAug, e_dAugM, e_dIsi, e_dIsi2, e_dSl, e_dNoP, e_dPart, e_dM1, e_dFor, e_dLC, e_dIt, e_dRng1, e_dZipM, e_dRngN, e_dRev, e_dPar0, w_maxT, e_dSrtSet, e_dItS, e_dPar2, e_dPar3, e_par2, e_par3, e_dCallD, e_dCallK, e_dRng2, e_dEnum, e_dZip, nm0f, nm0o, nm0d, bo0f, bo0o, bo0d, mv0f, mv0o, mv0d, nm1f, nm1o, nm1d, bo1f, bo1o, bo1d, mv1f, mv1o, mv1d, nm2f, nm2o, nm2d, bo2f, bo2o, bo2d, mv2f, mv2o, mv2d, nm3f, nm3o, nm3d, bo3f, bo3o, bo3d, mv3f, mv3o, mv3d, nm4f, nm4o, nm4d, bo4f, bo4o, bo4d, mv4f, mv4o, mv4d, nm5f, nm5o, nm5d, bo5f, bo5o, bo5d, mv5f, mv5o, mv5d, nm6f, nm6o, nm6d, bo6f, bo6o, bo6d, mv6f, mv6o, mv6d, nm7f, nm7o, nm7d, bo7f, bo7o, bo7d, mv7f, mv7o, mv7d, nm8f, nm8o, nm8d, bo8f, bo8o, bo8d, mv8f, mv8o, mv8d, nm9f, nm9o, nm9d, bo9f, bo9o, bo9d, mv9f, mv9o, mv9d, nm10f, nm10o, nm10d, bo10f, bo10o, bo10d, mv10f, mv10o, mv10d, nm11f, nm11o, nm11d, bo11f, bo11o, bo11d, mv11f, mv11o, mv11d, nm12f, nm12o, nm12d, bo12f, bo12o, bo12d, mv12f, mv12o, mv12d, nm13f, nm13o, nm13d, bo13f, bo13o, bo13d, mv13f, mv13o, mv13d, nm14f, nm14o, nm14d, bo14f, bo14o, bo14d, mv14f, mv14o, mv14d, nm15f, nm15o, nm15d, bo15f, bo15o, bo15d, mv15f, mv15o, mv15d, nm16f, bo16f, mv16f, nm16o, bo16o, mv16o, nm16d, bo16d, mv16d, nm17f, bo17f, mv17f, nm17o, bo17o, mv17o, nm17d, bo17d, mv17d, nm18f, bo18f, mv18f, nm18o, bo18o, mv18o, nm18d, bo18d, mv18d, nm19f, bo19f, mv19f, nm19o, bo19o, mv19o, nm19d, bo19d, mv19d, nm20f, bo20f, mv20f, nm20o, bo20o, mv20o, nm20d, bo20d, mv20d, nm21f, bo21f, mv21f, nm21o, bo21o, mv21o, nm21d, bo21d, mv21d, nm22f, bo22f, mv22f, nm22o, bo22o, mv22o, nm22d, bo22d, mv22d, nm23f, bo23f, mv23f, nm23o, bo23o, mv23o, nm23d, bo23d, mv23d, d_fr, fz_fr, isFr_fr, free_fr, d_ow, fz_ow, isFr_ow, free_ow, d_od, fz_od, isFr_od, free_od, d_bo, fz_bo, isFr_bo, free_bo, d_bd, fz_bd, isFr_bd, free_bd, w_add_i, w_add_s, w_add_l, w_add_t, w_sub, w_mul_i, w_mul_s, w_mul_l, w_mul_t, w_mod, w_fdv, w_pow, w_le_i, w_gt_i, w_ge_i, w_le_s, w_gt_s, w_ge_s, w_lt_i, w_lt_s, w_eq, w_ne, w_is_b, w_isN_b, w_in_l, w_nin_l, w_ix_l, w_ix_t, w_ix_s, w_sl_l, w_sl_t, w_sl_s, w_len_l, w_len_t, w_len_s, w_list_l, w_list_t, w_tuple_l, w_tuple_t, w_str, w_int_i, w_int_b, w_int_s, w_max2, w_max_l, w_min2, w_min_l, w_all, w_any, w_sorted_l, w_sorted_t, w_split, w_join, w_in_t, w_nin_t, w_in_ts, w_nin_ts, e_draw, e_cok_int, e_cok_bl, e_cok_str, List.map_cons, List.map_nil, List.all_cons, List.all_nil, List.length_cons, List.length_nil, List.getElem?_cons_zero, List.getElem?_cons_succ, List.set_cons_zero, List.set_cons_succ, retD, Tg.put, puts, wipeE, true_and, and_true, and_self, Bool.and_true, Bool.true_and, exists_eq_left', exists_eq_left, R.fr.injEq, R.ow.injEq, Option.some.injEq, D.bl.injEq, D.int.injEq, D.str.injEq, D.lst.injEq, D.tup.injEq, decide_eq_true_eq, if_true, exists_eq', Bool.not_true, Bool.not_false, ite_true, ite_false, if_false, Bool.false_eq_true]
      have e1 : D.eqv (.lst ((vs.filter fun v => decide (v < least)).map .int)) (.lst []) = decide ((vs.filter fun v => decide (v < least)) = []) := eqv_ints _ []
      refine ⟨Nat.zero_le _, shp_ints _, shp_ints [], ite_k (fun h3 => ?_) fun h3 => ?_⟩
      · have h3 : (!D.eqv (.lst ((vs.filter fun v => decide (v < least)).map .int)) (.lst [])) = true := h3
        rw [e1] at h3
        have bne : (vs.filter fun v => decide (v < least)) ≠ [] := by simpa using h3
        try simp only [e_dSeq, e_dNext, e_dSet, e_dRet, e_dDrop, e_dIfS, e_dTgS, e_dC, e_dBin, e_dTst, e_dChn, e_dAnd, e_dOr, e_dNot, e_dAndV, e_dOrV, e_dNotV, e_dIf, e_dNil, e_dCons, e_dLst, e_dTup, e_dCB, e_dCall, e_dYes, e_dApp, e_dAug, e_dAugM, e_dIsi, e_dIsi2, e_dSl, e_dNoP, e_dPart, e_dM1, e_dFor, e_dLC, e_dIt, e_dRng1, e_dZipM, e_dRngN, e_dRev, e_dPar0, w_maxT, e_dSrtSet, e_dItS, e_dPar2, e_dPar3, e_par2, e_par3, e_dCallD, e_dCallK, e_dRng2, e_dEnum, e_dZip, nm0f, nm0o, nm0d, bo0f, bo0o, bo0d, mv0f, mv0o, mv0d, nm1f, nm1o, nm1d, bo1f, bo1o, bo1d, mv1f, mv1o, mv1d, nm2f, nm2o, nm2d, bo2f, bo2o, bo2d, mv2f, mv2o, mv2d, nm3f, nm3o, nm3d, bo3f, bo3o, bo3d, mv3f, mv3o, mv3d, nm4f, nm4o, nm4d, bo4f, bo4o, bo4d, mv4f, mv4o, mv4d, nm5f, nm5o, nm5d, bo5f, bo5o, bo5d, mv5f, mv5o, mv5d, nm6f, nm6o, nm6d, bo6f, bo6o, bo6d, mv6f, mv6o, mv6d, nm7f, nm7o, nm7d, bo7f, bo7o, bo7d, mv7f, mv7o, mv7d, nm8f, nm8o, nm8d, bo8f, bo8o, bo8d, mv8f, mv8o, mv8d, nm9f, nm9o, nm9d, bo9f, bo9o, bo9d, mv9f, mv9o, mv9d, nm10f, nm10o, nm10d, bo10f, bo10o, bo10d, mv10f, mv10o, mv10d, nm11f, nm11o, nm11d, bo11f, bo11o, bo11d, mv11f, mv11o, mv11d, nm12f, nm12o, nm12d, bo12f, bo12o, bo12d, mv12f, mv12o, mv12d, nm13f, nm13o, nm13d, bo13f, bo13o, bo13d, mv13f, mv13o, mv13d, nm14f, nm14o, nm14d, bo14f, bo14o, bo14d, mv14f, mv14o, mv14d, nm15f, nm15o, nm15d, bo15f, bo15o, bo15d, mv15f, mv15o, mv15d, nm16f, bo16f, mv16f, nm16o, bo16o, mv16o, nm16d, bo16d, mv16d, nm17f, bo17f, mv17f, nm17o, bo17o, mv17o, nm17d, bo17d, mv17d, nm18f, bo18f, mv18f, nm18o, bo18o, mv18o, nm18d, bo18d, mv18d, nm19f, bo19f, mv19f, nm19o, bo19o, mv19o, nm19d, bo19d, mv19d, nm20f, bo20f, mv20f, nm20o, bo20o, mv20o, nm20d, bo20d, mv20d, nm21f, bo21f, mv21f, nm21o, bo21o, mv21o, nm21d, bo21d, mv21d, nm22f, bo22f, mv22f, nm22o, bo22o, mv22o, nm22d, bo22d, mv22d, nm23f, bo23f, mv23f, nm23o, bo23o, mv23o, nm23d, bo23d, mv23d, d_fr, fz_fr, isFr_fr, free_fr, d_ow, fz_ow, isFr_ow, free_ow, d_od, fz_od, isFr_od, free_od, d_bo, fz_bo, isFr_bo, free_bo, d_bd, fz_bd, isFr_bd, free_bd, w_add_i, w_add_s, w_add_l, w_add_t, w_sub, w_mul_i, w_mul_s, w_mul_l, w_mul_t, w_mod, w_fdv, w_pow, w_le_i, w_gt_i, w_ge_i, w_le_s, w_gt_s, w_ge_s, w_lt_i, w_lt_s, w_eq, w_ne, w_is_b, w_isN_b, w_in_l, w_nin_l, w_ix_l, w_ix_t, w_ix_s, w_sl_l, w_sl_t, w_sl_s, w_len_l, w_len_t, w_len_s, w_list_l, w_list_t, w_tuple_l, w_tuple_t, w_str, w_int_i, w_int_b, w_int_s, w_max2, w_max_l, w_min2, w_min_l, w_all, w_any, w_sorted_l, w_sorted_t, w_split, w_join, w_in_t, w_nin_t, w_in_ts, w_nin_ts, e_draw, e_cok_int, e_cok_bl, e_cok_str, List.map_cons, List.map_nil, List.all_cons, List.all_nil, List.length_cons, List.length_nil, List.getElem?_cons_zero, List.getElem?_cons_succ, List.set_cons_zero, List.set_cons_succ, retD, Tg.put, puts, wipeE, true_and, and_true, and_self, Bool.and_true, Bool.true_and, exists_eq_left', exists_eq_left, R.fr.injEq, R.ow.injEq, Option.some.injEq, D.bl.injEq, D.int.injEq, D.str.injEq, D.lst.injEq, D.tup.injEq, decide_eq_true_eq, if_true, exists_eq', Bool.not_true, Bool.not_false, ite_true, ite_false, if_false, Bool.false_eq_true]
        refine ⟨_, rfl, List.length_pos_iff.mpr bne, fun m hm hx => ?_⟩
        try simp only [e_dSeq, e_dNext, e_dSet, e_dRet, e_dDrop, e_dIfS, e_dTgS, e_dC, e_dBin, e_dTst, e_dChn, e_dAnd, e_dOr, e_dNot, e_dAndV, e_dOrV, e_dNotV, e_dIf, e_dNil, e_dCons, e_dLst, e_dTup, e_dCB, e_dCall, e_dYes, e_dApp, e_dAug, e_dAugM, e_dIsi, e_dIsi2, e_dSl, e_dNoP, e_dPart, e_dM1, e_dFor, e_dLC, e_dIt, e_dRng1, e_dZipM, e_dRngN, e_dRev, e_dPar0, w_maxT, e_dSrtSet, e_dItS, e_dPar2, e_dPar3, e_par2, e_par3, e_dCallD, e_dCallK, e_dRng2, e_dEnum, e_dZip, nm0f, nm0o, nm0d, bo0f, bo0o, bo0d, mv0f, mv0o, mv0d, nm1f, nm1o, nm1d, bo1f, bo1o, bo1d, mv1f, mv1o, mv1d, nm2f, nm2o, nm2d, bo2f, bo2o, bo2d, mv2f, mv2o, mv2d, nm3f, nm3o, nm3d, bo3f, bo3o, bo3d, mv3f, mv3o, mv3d, nm4f, nm4o, nm4d, bo4f, bo4o, bo4d, mv4f, mv4o, mv4d, nm5f, nm5o, nm5d, bo5f, bo5o, bo5d, mv5f, mv5o, mv5d, nm6f, nm6o, nm6d, bo6f, bo6o, bo6d, mv6f, mv6o, mv6d, nm7f, nm7o, nm7d, bo7f, bo7o, bo7d, mv7f, mv7o, mv7d, nm8f, nm8o, nm8d, bo8f, bo8o, bo8d, mv8f, mv8o, mv8d, nm9f, nm9o, nm9d, bo9f, bo9o, bo9d, mv9f, mv9o, mv9d, nm10f, nm10o, nm10d, bo10f, bo10o, bo10d, mv10f, mv10o, mv10d, nm11f, nm11o, nm11d, bo11f, bo11o, bo11d, mv11f, mv11o, mv11d, nm12f, nm12o, nm12d, bo12f, bo12o, bo12d, mv12f, mv12o, mv12d, nm13f, nm13o, nm13d, bo13f, bo13o, bo13d, mv13f, mv13o, mv13d, nm14f, nm14o, nm14d, bo14f, bo14o, bo14d, mv14f, mv14o, mv14d, nm15f, nm15o, nm15d, bo15f, bo15o, bo15d, mv15f, mv15o, mv15d, nm16f, bo16f, mv16f, nm16o, bo16o, mv16o, nm16d, bo16d, mv16d, nm17f, bo17f, mv17f, nm17o, bo17o, mv17o, nm17d, bo17d, mv17d, nm18f, bo18f, mv18f, nm18o, bo18o, mv18o, nm18d, bo18d, mv18d, nm19f, bo19f, mv19f, nm19o, bo19o, mv19o, nm19d, bo19d, mv19d, nm20f, bo20f, mv20f, nm20o, bo20o, mv20o, nm20d, bo20d, mv20d, nm21f, bo21f, mv21f, nm21o, bo21o, mv21o, nm21d, bo21d, mv21d, nm22f, bo22f, mv22f, nm22o, bo22o, mv22o, nm22d, bo22d, mv22d, nm23f, bo23f, mv23f, nm23o, bo23o, mv23o, nm23d, bo23d, mv23d, d_fr, fz_fr, isFr_fr, free_fr, d_ow, fz_ow, isFr_ow, free_ow, d_od, fz_od, isFr_od, free_od, d_bo, fz_bo, isFr_bo, free_bo, d_bd, fz_bd, isFr_bd, free_bd, w_add_i, w_add_s, w_add_l, w_add_t, w_sub, w_mul_i, w_mul_s, w_mul_l, w_mul_t, w_mod, w_fdv, w_pow, w_le_i, w_gt_i, w_ge_i, w_le_s, w_gt_s, w_ge_s, w_lt_i, w_lt_s, w_eq, w_ne, w_is_b, w_isN_b, w_in_l, w_nin_l, w_ix_l, w_ix_t, w_ix_s, w_sl_l, w_sl_t, w_sl_s, w_len_l, w_len_t, w_len_s, w_list_l, w_list_t, w_tuple_l, w_tuple_t, w_str, w_int_i, w_int_b, w_int_s, w_max2, w_max_l, w_min2, w_min_l, w_all, w_any, w_sorted_l, w_sorted_t, w_split, w_join, w_in_t, w_nin_t, w_in_ts, w_nin_ts, e_draw, e_cok_int, e_cok_bl, e_cok_str, List.map_cons, List.map_nil, List.all_cons, List.all_nil, List.length_cons, List.length_nil, List.getElem?_cons_zero, List.getElem?_cons_succ, List.set_cons_zero, List.set_cons_succ, retD, Tg.put, puts, wipeE, true_and, and_true, and_self, Bool.and_true, Bool.true_and, exists_eq_left', exists_eq_left, R.fr.injEq, R.ow.injEq, Option.some.injEq, D.bl.injEq, D.int.injEq, D.str.injEq, D.lst.injEq, D.tup.injEq, decide_eq_true_eq, if_true, exists_eq', Bool.not_true, Bool.not_false, ite_true, ite_false, if_false, Bool.false_eq_true]
        have fl := List.length_filter_le (fun v => decide (least ≤ v)) vs
        refine ⟨by rw [sizeLine_eq]; decide, by rw [sizeLine_eq, List.length_map]; omega, (false, m :: vs.filter fun v => decide (least ≤ v)), rfl, fun n h => ?_, ?_⟩
        · rcases List.mem_cons.mp h with rfl | h
          · exact hP _ ((List.mem_filter.mp hm).1)
          · exact hP n ((List.mem_filter.mp h).1)
        rintro r ⟨b3, rfl, hb3⟩
        have eb3 : b3 = false := by
          cases b3 with
          | false => rfl
          | true => exact absurd (hb3.mp rfl) (below_av nd tk gk hm hx)
        subst eb3
        try simp only [e_dSeq, e_dNext, e_dSet, e_dRet, e_dDrop, e_dIfS, e_dTgS, e_dC, e_dBin, e_dTst, e_dChn, e_dAnd, e_dOr, e_dNot, e_dAndV, e_dOrV, e_dNotV, e_dIf, e_dNil, e_dCons, e_dLst, e_dTup, e_dCB, e_dCall, e_dYes, e_dApp, e_dAug, e_dAugM, e_dIsi, e_dIsi2, e_dSl, e_dNoP, e_dPart, e_dM1, e_dFor, e_dLC, e_dIt, e_dRng1, e_dZipM, e_dRngN, e_dRev, e_dPar0, w_maxT, e_dSrtSet, e_dItS, e_dPar2, e_dPar3, e_par2, e_par3, e_dCallD, e_dCallK, e_dRng2, e_dEnum, e_dZip, nm0f, nm0o, nm0d, bo0f, bo0o, bo0d, mv0f, mv0o, mv0d, nm1f, nm1o, nm1d, bo1f, bo1o, bo1d, mv1f, mv1o, mv1d, nm2f, nm2o, nm2d, bo2f, bo2o, bo2d, mv2f, mv2o, mv2d, nm3f, nm3o, nm3d, bo3f, bo3o, bo3d, mv3f, mv3o, mv3d, nm4f, nm4o, nm4d, bo4f, bo4o, bo4d, mv4f, mv4o, mv4d, nm5f, nm5o, nm5d, bo5f, bo5o, bo5d, mv5f, mv5o, mv5d, nm6f, nm6o, nm6d, bo6f, bo6o, bo6d, mv6f, mv6o, mv6d, nm7f, nm7o, nm7d, bo7f, bo7o, bo7d, mv7f, mv7o, mv7d, nm8f, nm8o, nm8d, bo8f, bo8o, bo8d, mv8f, mv8o, mv8d, nm9f, nm9o, nm9d, bo9f, bo9o, bo9d, mv9f, mv9o, mv9d, nm10f, nm10o, nm10d, bo10f, bo10o, bo10d, mv10f, mv10o, mv10d, nm11f, nm11o, nm11d, bo11f, bo11o, bo11d, mv11f, mv11o, mv11d, nm12f, nm12o, nm12d, bo12f, bo12o, bo12d, mv12f, mv12o, mv12d, nm13f, nm13o, nm13d, bo13f, bo13o, bo13d, mv13f, mv13o, mv13d, nm14f, nm14o, nm14d, bo14f, bo14o, bo14d, mv14f, mv14o, mv14d, nm15f, nm15o, nm15d, bo15f, bo15o, bo15d, mv15f, mv15o, mv15d, nm16f, bo16f, mv16f, nm16o, bo16o, mv16o, nm16d, bo16d, mv16d, nm17f, bo17f, mv17f, nm17o, bo17o, mv17o, nm17d, bo17d, mv17d, nm18f, bo18f, mv18f, nm18o, bo18o, mv18o, nm18d, bo18d, mv18d, nm19f, bo19f, mv19f, nm19o, bo19o, mv19o, nm19d, bo19d, mv19d, nm20f, bo20f, mv20f, nm20o, bo20o, mv20o, nm20d, bo20d, mv20d, nm21f, bo21f, mv21f, nm21o, bo21o, mv21o, nm21d, bo21d, mv21d, nm22f, bo22f, mv22f, nm22o, bo22o, mv22o, nm22d, bo22d, mv22d, nm23f, bo23f, mv23f, nm23o, bo23o, mv23o, nm23d, bo23d, mv23d, d_fr, fz_fr, isFr_fr, free_fr, d_ow, fz_ow, isFr_ow, free_ow, d_od, fz_od, isFr_od, free_od, d_bo, fz_bo, isFr_bo, free_bo, d_bd, fz_bd, isFr_bd, free_bd, w_add_i, w_add_s, w_add_l, w_add_t, w_sub, w_mul_i, w_mul_s, w_mul_l, w_mul_t, w_mod, w_fdv, w_pow, w_le_i, w_gt_i, w_ge_i, w_le_s, w_gt_s, w_ge_s, w_lt_i, w_lt_s, w_eq, w_ne, w_is_b, w_isN_b, w_in_l, w_nin_l, w_ix_l, w_ix_t, w_ix_s, w_sl_l, w_sl_t, w_sl_s, w_len_l, w_len_t, w_len_s, w_list_l, w_list_t, w_tuple_l, w_tuple_t, w_str, w_int_i, w_int_b, w_int_s, w_max2, w_max_l, w_min2, w_min_l, w_all, w_any, w_sorted_l, w_sorted_t, w_split, w_join, w_in_t, w_nin_t, w_in_ts, w_nin_ts, e_draw, e_cok_int, e_cok_bl, e_cok_str, List.map_cons, List.map_nil, List.all_cons, List.all_nil, List.length_cons, List.length_nil, List.getElem?_cons_zero, List.getElem?_cons_succ, List.set_cons_zero, List.set_cons_succ, retD, Tg.put, puts, wipeE, true_and, and_true, and_self, Bool.and_true, Bool.true_and, exists_eq_left', exists_eq_left, R.fr.injEq, R.ow.injEq, Option.some.injEq, D.bl.injEq, D.int.injEq, D.str.injEq, D.lst.injEq, D.tup.injEq, decide_eq_true_eq, if_true, exists_eq', Bool.not_true, Bool.not_false, ite_true, ite_false, if_false, Bool.false_eq_true]
        refine ⟨(6, 2), rfl, ⟨by decide, by decide, by decide, by decide⟩, ?_⟩
        rintro r ⟨rows, rfl, nd2, rl, rok⟩
        have rl : rows.length ≤ 6 := by
          have : (rows.length : Int) ≤ 6 := rl
          omega
        try simp only [e_dSeq, e_dNext, e_dSet, e_dRet, e_dDrop, e_dIfS, e_dTgS, e_dC, e_dBin, e_dTst, e_dChn, e_dAnd, e_dOr, e_dNot, e_dAndV, e_dOrV, e_dNotV, e_dIf, e_dNil, e_dCons, e_dLst, e_dTup, e_dCB, e_dCall, e_dYes, e_dApp, e_dAug, e_dAugM, e_dIsi, e_dIsi2, e_dSl, e_dNoP, e_dPart, e_dM1, e_dFor, e_dLC, e_dIt, e_dRng1, e_dZipM, e_dRngN, e_dRev, e_dPar0, w_maxT, e_dSrtSet, e_dItS, e_dPar2, e_dPar3, e_par2, e_par3, e_dCallD, e_dCallK, e_dRng2, e_dEnum, e_dZip, nm0f, nm0o, nm0d, bo0f, bo0o, bo0d, mv0f, mv0o, mv0d, nm1f, nm1o, nm1d, bo1f, bo1o, bo1d, mv1f, mv1o, mv1d, nm2f, nm2o, nm2d, bo2f, bo2o, bo2d, mv2f, mv2o, mv2d, nm3f, nm3o, nm3d, bo3f, bo3o, bo3d, mv3f, mv3o, mv3d, nm4f, nm4o, nm4d, bo4f, bo4o, bo4d, mv4f, mv4o, mv4d, nm5f, nm5o, nm5d, bo5f, bo5o, bo5d, mv5f, mv5o, mv5d, nm6f, nm6o, nm6d, bo6f, bo6o, bo6d, mv6f, mv6o, mv6d, nm7f, nm7o, nm7d, bo7f, bo7o, bo7d, mv7f, mv7o, mv7d, nm8f, nm8o, nm8d, bo8f, bo8o, bo8d, mv8f, mv8o, mv8d, nm9f, nm9o, nm9d, bo9f, bo9o, bo9d, mv9f, mv9o, mv9d, nm10f, nm10o, nm10d, bo10f, bo10o, bo10d, mv10f, mv10o, mv10d, nm11f, nm11o, nm11d, bo11f, bo11o, bo11d, mv11f, mv11o, mv11d, nm12f, nm12o, nm12d, bo12f, bo12o, bo12d, mv12f, mv12o, mv12d, nm13f, nm13o, nm13d, bo13f, bo13o, bo13d, mv13f, mv13o, mv13d, nm14f, nm14o, nm14d, bo14f, bo14o, bo14d, mv14f, mv14o, mv14d, nm15f, nm15o, nm15d, bo15f, bo15o, bo15d, mv15f, mv15o, mv15d, nm16f, bo16f, mv16f, nm16o, bo16o, mv16o, nm16d, bo16d, mv16d, nm17f, bo17f, mv17f, nm17o, bo17o, mv17o, nm17d, bo17d, mv17d, nm18f, bo18f, mv18f, nm18o, bo18o, mv18o, nm18d, bo18d, mv18d, nm19f, bo19f, mv19f, nm19o, bo19o, mv19o, nm19d, bo19d, mv19d, nm20f, bo20f, mv20f, nm20o, bo20o, mv20o, nm20d, bo20d, mv20d, nm21f, bo21f, mv21f, nm21o, bo21o, mv21o, nm21d, bo21d, mv21d, nm22f, bo22f, mv22f, nm22o, bo22o, mv22o, nm22d, bo22d, mv22d, nm23f, bo23f, mv23f, nm23o, bo23o, mv23o, nm23d, bo23d, mv23d, d_fr, fz_fr, isFr_fr, free_fr, d_ow, fz_ow, isFr_ow, free_ow, d_od, fz_od, isFr_od, free_od, d_bo, fz_bo, isFr_bo, free_bo, d_bd, fz_bd, isFr_bd, free_bd, w_add_i, w_add_s, w_add_l, w_add_t, w_sub, w_mul_i, w_mul_s, w_mul_l, w_mul_t, w_mod, w_fdv, w_pow, w_le_i, w_gt_i, w_ge_i, w_le_s, w_gt_s, w_ge_s, w_lt_i, w_lt_s, w_eq, w_ne, w_is_b, w_isN_b, w_in_l, w_nin_l, w_ix_l, w_ix_t, w_ix_s, w_sl_l, w_sl_t, w_sl_s, w_len_l, w_len_t, w_len_s, w_list_l, w_list_t, w_tuple_l, w_tuple_t, w_str, w_int_i, w_int_b, w_int_s, w_max2, w_max_l, w_min2, w_min_l, w_all, w_any, w_sorted_l, w_sorted_t, w_split, w_join, w_in_t, w_nin_t, w_in_ts, w_nin_ts, e_draw, e_cok_int, e_cok_bl, e_cok_str, List.map_cons, List.map_nil, List.all_cons, List.all_nil, List.length_cons, List.length_nil, List.getElem?_cons_zero, List.getElem?_cons_succ, List.set_cons_zero, List.set_cons_succ, retD, Tg.put, puts, wipeE, true_and, and_true, and_self, Bool.and_true, Bool.true_and, exists_eq_left', exists_eq_left, R.fr.injEq, R.ow.injEq, Option.some.injEq, D.bl.injEq, D.int.injEq, D.str.injEq, D.lst.injEq, D.tup.injEq, decide_eq_true_eq, if_true, exists_eq', Bool.not_true, Bool.not_false, ite_true, ite_false, if_false, Bool.false_eq_true]
        refine ⟨.inl rfl, rows, rfl, ⟨by omega, rok⟩, ?_⟩
        rintro r rfl
        try simp only [e_dSeq, e_dNext, e_dSet, e_dRet, e_dDrop, e_dIfS, e_dTgS, e_dC, e_dBin, e_dTst, e_dChn, e_dAnd, e_dOr, e_dNot, e_dAndV, e_dOrV, e_dNotV, e_dIf, e_dNil, e_dCons, e_dLst, e_dTup, e_dCB, e_dCall, e_dYes, e_dApp, e_dAug, e_dAugM, e_dIsi, e_dIsi2, e_dSl, e_dNoP, e_dPart, e_dM1, e_dFor, e_dLC, e_dIt, e_dRng1, e_dZipM, e_dRngN, e_dRev, e_dPar0, w_maxT, e_dSrtSet, e_dItS, e_dPar2, e_dPar3, e_par2, e_par3, e_dCallD, e_dCallK, e_dRng2, e_dEnum, e_dZip, nm0f, nm0o, nm0d, bo0f, bo0o, bo0d, mv0f, mv0o, mv0d, nm1f, nm1o, nm1d, bo1f, bo1o, bo1d, mv1f, mv1o, mv1d, nm2f, nm2o, nm2d, bo2f, bo2o, bo2d, mv2f, mv2o, mv2d, nm3f, nm3o, nm3d, bo3f, bo3o, bo3d, mv3f, mv3o, mv3d, nm4f, nm4o, nm4d, bo4f, bo4o, bo4d, mv4f, mv4o, mv4d, nm5f, nm5o, nm5d, bo5f, bo5o, bo5d, mv5f, mv5o, mv5d, nm6f, nm6o, nm6d, bo6f, bo6o, bo6d, mv6f, mv6o, mv6d, nm7f, nm7o, nm7d, bo7f, bo7o, bo7d, mv7f, mv7o, mv7d, nm8f, nm8o, nm8d, bo8f, bo8o, bo8d, mv8f, mv8o, mv8d, nm9f, nm9o, nm9d, bo9f, bo9o, bo9d, mv9f, mv9o, mv9d, nm10f, nm10o, nm10d, bo10f, bo10o, bo10d, mv10f, mv10o, mv10d, nm11f, nm11o, nm11d, bo11f, bo11o, bo11d, mv11f, mv11o, mv11d, nm12f, nm12o, nm12d, bo12f, bo12o, bo12d, mv12f, mv12o, mv12d, nm13f, nm13o, nm13d, bo13f, bo13o, bo13d, mv13f, mv13o, mv13d, nm14f, nm14o, nm14d, bo14f, bo14o, bo14d, mv14f, mv14o, mv14d, nm15f, nm15o, nm15d, bo15f, bo15o, bo15d, mv15f, mv15o, mv15d, nm16f, bo16f, mv16f, nm16o, bo16o, mv16o, nm16d, bo16d, mv16d, nm17f, bo17f, mv17f, nm17o, bo17o, mv17o, nm17d, bo17d, mv17d, nm18f, bo18f, mv18f, nm18o, bo18o, mv18o, nm18d, bo18d, mv18d, nm19f, bo19f, mv19f, nm19o, bo19o, mv19o, nm19d, bo19d, mv19d, nm20f, bo20f, mv20f, nm20o, bo20o, mv20o, nm20d, bo20d, mv20d, nm21f, bo21f, mv21f, nm21o, bo21o, mv21o, nm21d, bo21d, mv21d, nm22f, bo22f, mv22f, nm22o, bo22o, mv22o, nm22d, bo22d, mv22d, nm23f, bo23f, mv23f, nm23o, bo23o, mv23o, nm23d, bo23d, mv23d, d_fr, fz_fr, isFr_fr, free_fr, d_ow, fz_ow, isFr_ow, free_ow, d_od, fz_od, isFr_od, free_od, d_bo, fz_bo, isFr_bo, free_bo, d_bd, fz_bd, isFr_bd, free_bd, w_add_i, w_add_s, w_add_l, w_add_t, w_sub, w_mul_i, w_mul_s, w_mul_l, w_mul_t, w_mod, w_fdv, w_pow, w_le_i, w_gt_i, w_ge_i, w_le_s, w_gt_s, w_ge_s, w_lt_i, w_lt_s, w_eq, w_ne, w_is_b, w_isN_b, w_in_l, w_nin_l, w_ix_l, w_ix_t, w_ix_s, w_sl_l, w_sl_t, w_sl_s, w_len_l, w_len_t, w_len_s, w_list_l, w_list_t, w_tuple_l, w_tuple_t, w_str, w_int_i, w_int_b, w_int_s, w_max2, w_max_l, w_min2, w_min_l, w_all, w_any, w_sorted_l, w_sorted_t, w_split, w_join, w_in_t, w_nin_t, w_in_ts, w_nin_ts, e_draw, e_cok_int, e_cok_bl, e_cok_str, List.map_cons, List.map_nil, List.all_cons, List.all_nil, List.length_cons, List.length_nil, List.getElem?_cons_zero, List.getElem?_cons_succ, List.set_cons_zero, List.set_cons_succ, retD, Tg.put, puts, wipeE, true_and, and_true, and_self, Bool.and_true, Bool.true_and, exists_eq_left', exists_eq_left, R.fr.injEq, R.ow.injEq, Option.some.injEq, D.bl.injEq, D.int.injEq, D.str.injEq, D.lst.injEq, D.tup.injEq, decide_eq_true_eq, if_true, exists_eq', Bool.not_true, Bool.not_false, ite_true, ite_false, if_false, Bool.false_eq_true]
        refine ⟨.inl rfl, (true, rows.map zrow), rfl, ⟨by show (rows.map zrow).length ≤ 1000; rw [List.length_map]; omega, fun y hy => ?_⟩, ?_⟩
        · obtain ⟨r, hr, rfl⟩ := List.mem_map.mp hy
          exact ⟨ks_map (f := fun _ => 0) fun n _ => by decide, rok r hr⟩
        rintro r rfl
        try simp only [e_dSeq, e_dNext, e_dSet, e_dRet, e_dDrop, e_dIfS, e_dTgS, e_dC, e_dBin, e_dTst, e_dChn, e_dAnd, e_dOr, e_dNot, e_dAndV, e_dOrV, e_dNotV, e_dIf, e_dNil, e_dCons, e_dLst, e_dTup, e_dCB, e_dCall, e_dYes, e_dApp, e_dAug, e_dAugM, e_dIsi, e_dIsi2, e_dSl, e_dNoP, e_dPart, e_dM1, e_dFor, e_dLC, e_dIt, e_dRng1, e_dZipM, e_dRngN, e_dRev, e_dPar0, w_maxT, e_dSrtSet, e_dItS, e_dPar2, e_dPar3, e_par2, e_par3, e_dCallD, e_dCallK, e_dRng2, e_dEnum, e_dZip, nm0f, nm0o, nm0d, bo0f, bo0o, bo0d, mv0f, mv0o, mv0d, nm1f, nm1o, nm1d, bo1f, bo1o, bo1d, mv1f, mv1o, mv1d, nm2f, nm2o, nm2d, bo2f, bo2o, bo2d, mv2f, mv2o, mv2d, nm3f, nm3o, nm3d, bo3f, bo3o, bo3d, mv3f, mv3o, mv3d, nm4f, nm4o, nm4d, bo4f, bo4o, bo4d, mv4f, mv4o, mv4d, nm5f, nm5o, nm5d, bo5f, bo5o, bo5d, mv5f, mv5o, mv5d, nm6f, nm6o, nm6d, bo6f, bo6o, bo6d, mv6f, mv6o, mv6d, nm7f, nm7o, nm7d, bo7f, bo7o, bo7d, mv7f, mv7o, mv7d, nm8f, nm8o, nm8d, bo8f, bo8o, bo8d, mv8f, mv8o, mv8d, nm9f, nm9o, nm9d, bo9f, bo9o, bo9d, mv9f, mv9o, mv9d, nm10f, nm10o, nm10d, bo10f, bo10o, bo10d, mv10f, mv10o, mv10d, nm11f, nm11o, nm11d, bo11f, bo11o, bo11d, mv11f, mv11o, mv11d, nm12f, nm12o, nm12d, bo12f, bo12o, bo12d, mv12f, mv12o, mv12d, nm13f, nm13o, nm13d, bo13f, bo13o, bo13d, mv13f, mv13o, mv13d, nm14f, nm14o, nm14d, bo14f, bo14o, bo14d, mv14f, mv14o, mv14d, nm15f, nm15o, nm15d, bo15f, bo15o, bo15d, mv15f, mv15o, mv15d, nm16f, bo16f, mv16f, nm16o, bo16o, mv16o, nm16d, bo16d, mv16d, nm17f, bo17f, mv17f, nm17o, bo17o, mv17o, nm17d, bo17d, mv17d, nm18f, bo18f, mv18f, nm18o, bo18o, mv18o, nm18d, bo18d, mv18d, nm19f, bo19f, mv19f, nm19o, bo19o, mv19o, nm19d, bo19d, mv19d, nm20f, bo20f, mv20f, nm20o, bo20o, mv20o, nm20d, bo20d, mv20d, nm21f, bo21f, mv21f, nm21o, bo21o, mv21o, nm21d, bo21d, mv21d, nm22f, bo22f, mv22f, nm22o, bo22o, mv22o, nm22d, bo22d, mv22d, nm23f, bo23f, mv23f, nm23o, bo23o, mv23o, nm23d, bo23d, mv23d, d_fr, fz_fr, isFr_fr, free_fr, d_ow, fz_ow, isFr_ow, free_ow, d_od, fz_od, isFr_od, free_od, d_bo, fz_bo, isFr_bo, free_bo, d_bd, fz_bd, isFr_bd, free_bd, w_add_i, w_add_s, w_add_l, w_add_t, w_sub, w_mul_i, w_mul_s, w_mul_l, w_mul_t, w_mod, w_fdv, w_pow, w_le_i, w_gt_i, w_ge_i, w_le_s, w_gt_s, w_ge_s, w_lt_i, w_lt_s, w_eq, w_ne, w_is_b, w_isN_b, w_in_l, w_nin_l, w_ix_l, w_ix_t, w_ix_s, w_sl_l, w_sl_t, w_sl_s, w_len_l, w_len_t, w_len_s, w_list_l, w_list_t, w_tuple_l, w_tuple_t, w_str, w_int_i, w_int_b, w_int_s, w_max2, w_max_l, w_min2, w_min_l, w_all, w_any, w_sorted_l, w_sorted_t, w_split, w_join, w_in_t, w_nin_t, w_in_ts, w_nin_ts, e_draw, e_cok_int, e_cok_bl, e_cok_str, List.map_cons, List.map_nil, List.all_cons, List.all_nil, List.length_cons, List.length_nil, List.getElem?_cons_zero, List.getElem?_cons_succ, List.set_cons_zero, List.set_cons_succ, retD, Tg.put, puts, wipeE, true_and, and_true, and_self, Bool.and_true, Bool.true_and, exists_eq_left', exists_eq_left, R.fr.injEq, R.ow.injEq, Option.some.injEq, D.bl.injEq, D.int.injEq, D.str.injEq, D.lst.injEq, D.tup.injEq, decide_eq_true_eq, if_true, exists_eq', Bool.not_true, Bool.not_false, ite_true, ite_false, if_false, Bool.false_eq_true]
        refine ⟨rows, rfl, ⟨by decide, by omega, fun r hr => ⟨by have := (rok r hr).le; omega, (rok r hr).num⟩⟩, ?_⟩
        rintro r ⟨b2, rfl, hb2⟩
        try simp only [e_dSeq, e_dNext, e_dSet, e_dRet, e_dDrop, e_dIfS, e_dTgS, e_dC, e_dBin, e_dTst, e_dChn, e_dAnd, e_dOr, e_dNot, e_dAndV, e_dOrV, e_dNotV, e_dIf, e_dNil, e_dCons, e_dLst, e_dTup, e_dCB, e_dCall, e_dYes, e_dApp, e_dAug, e_dAugM, e_dIsi, e_dIsi2, e_dSl, e_dNoP, e_dPart, e_dM1, e_dFor, e_dLC, e_dIt, e_dRng1, e_dZipM, e_dRngN, e_dRev, e_dPar0, w_maxT, e_dSrtSet, e_dItS, e_dPar2, e_dPar3, e_par2, e_par3, e_dCallD, e_dCallK, e_dRng2, e_dEnum, e_dZip, nm0f, nm0o, nm0d, bo0f, bo0o, bo0d, mv0f, mv0o, mv0d, nm1f, nm1o, nm1d, bo1f, bo1o, bo1d, mv1f, mv1o, mv1d, nm2f, nm2o, nm2d, bo2f, bo2o, bo2d, mv2f, mv2o, mv2d, nm3f, nm3o, nm3d, bo3f, bo3o, bo3d, mv3f, mv3o, mv3d, nm4f, nm4o, nm4d, bo4f, bo4o, bo4d, mv4f, mv4o, mv4d, nm5f, nm5o, nm5d, bo5f, bo5o, bo5d, mv5f, mv5o, mv5d, nm6f, nm6o, nm6d, bo6f, bo6o, bo6d, mv6f, mv6o, mv6d, nm7f, nm7o, nm7d, bo7f, bo7o, bo7d, mv7f, mv7o, mv7d, nm8f, nm8o, nm8d, bo8f, bo8o, bo8d, mv8f, mv8o, mv8d, nm9f, nm9o, nm9d, bo9f, bo9o, bo9d, mv9f, mv9o, mv9d, nm10f, nm10o, nm10d, bo10f, bo10o, bo10d, mv10f, mv10o, mv10d, nm11f, nm11o, nm11d, bo11f, bo11o, bo11d, mv11f, mv11o, mv11d, nm12f, nm12o, nm12d, bo12f, bo12o, bo12d, mv12f, mv12o, mv12d, nm13f, nm13o, nm13d, bo13f, bo13o, bo13d, mv13f, mv13o, mv13d, nm14f, nm14o, nm14d, bo14f, bo14o, bo14d, mv14f, mv14o, mv14d, nm15f, nm15o, nm15d, bo15f, bo15o, bo15d, mv15f, mv15o, mv15d, nm16f, bo16f, mv16f, nm16o, bo16o, mv16o, nm16d, bo16d, mv16d, nm17f, bo17f, mv17f, nm17o, bo17o, mv17o, nm17d, bo17d, mv17d, nm18f, bo18f, mv18f, nm18o, bo18o, mv18o, nm18d, bo18d, mv18d, nm19f, bo19f, mv19f, nm19o, bo19o, mv19o, nm19d, bo19d, mv19d, nm20f, bo20f, mv20f, nm20o, bo20o, mv20o, nm20d, bo20d, mv20d, nm21f, bo21f, mv21f, nm21o, bo21o, mv21o, nm21d, bo21d, mv21d, nm22f, bo22f, mv22f, nm22o, bo22o, mv22o, nm22d, bo22d, mv22d, nm23f, bo23f, mv23f, nm23o, bo23o, mv23o, nm23d, bo23d, mv23d, d_fr, fz_fr, isFr_fr, free_fr, d_ow, fz_ow, isFr_ow, free_ow, d_od, fz_od, isFr_od, free_od, d_bo, fz_bo, isFr_bo, free_bo, d_bd, fz_bd, isFr_bd, free_bd, w_add_i, w_add_s, w_add_l, w_add_t, w_sub, w_mul_i, w_mul_s, w_mul_l, w_mul_t, w_mod, w_fdv, w_pow, w_le_i, w_gt_i, w_ge_i, w_le_s, w_gt_s, w_ge_s, w_lt_i, w_lt_s, w_eq, w_ne, w_is_b, w_isN_b, w_in_l, w_nin_l, w_ix_l, w_ix_t, w_ix_s, w_sl_l, w_sl_t, w_sl_s, w_len_l, w_len_t, w_len_s, w_list_l, w_list_t, w_tuple_l, w_tuple_t, w_str, w_int_i, w_int_b, w_int_s, w_max2, w_max_l, w_min2, w_min_l, w_all, w_any, w_sorted_l, w_sorted_t, w_split, w_join, w_in_t, w_nin_t, w_in_ts, w_nin_ts, e_draw, e_cok_int, e_cok_bl, e_cok_str, List.map_cons, List.map_nil, List.all_cons, List.all_nil, List.length_cons, List.length_nil, List.getElem?_cons_zero, List.getElem?_cons_succ, List.set_cons_zero, List.set_cons_succ, retD, Tg.put, puts, wipeE, true_and, and_true, and_self, Bool.and_true, Bool.true_and, exists_eq_left', exists_eq_left, R.fr.injEq, R.ow.injEq, Option.some.injEq, D.bl.injEq, D.int.injEq, D.str.injEq, D.lst.injEq, D.tup.injEq, decide_eq_true_eq, if_true, exists_eq', Bool.not_true, Bool.not_false, ite_true, ite_false, if_false, Bool.false_eq_true]
        have eb2 : decide ((srtN (rows.map zrow)).map nm = ssort ((rows.map zrow).map nm)) = b2 := by
          rw [Bool.eq_iff_iff, decide_eq_true_eq, agree_iff nd2 rok, hb2]
        refine ⟨shp_bl _, shp_bl _, ite_k (fun c => absurd c ?_) fun _ => ?_⟩
        · rw [eqv_bl, eb2]; simp
        · exact ⟨_, _, _, _, _, _, rfl⟩
      · try simp only [e_dSeq, e_dNext, e_dSet, e_dRet, e_dDrop, e_dIfS, e_dTgS, e_dC, e_dBin, e_dTst, e_dChn, e_dAnd, e_dOr, e_dNot, e_dAndV, e_dOrV, e_dNotV, e_dIf, e_dNil, e_dCons, e_dLst, e_dTup, e_dCB, e_dCall, e_dYes, e_dApp, e_dAug, e_dAugM, e_dIsi, e_dIsi2, e_dSl, e_dNoP, e_dPart, e_dM1, e_dFor, e_dLC, e_dIt, e_dRng1, e_dZipM, e_dRngN, e_dRev, e_dPar0, w_maxT, e_dSrtSet, e_dItS, e_dPar2, e_dPar3, e_par2, e_par3, e_dCallD, e_dCallK, e_dRng2, e_dEnum, e_dZip, nm0f, nm0o, nm0d, bo0f, bo0o, bo0d, mv0f, mv0o, mv0d, nm1f, nm1o, nm1d, bo1f, bo1o, bo1d, mv1f, mv1o, mv1d, nm2f, nm2o, nm2d, bo2f, bo2o, bo2d, mv2f, mv2o, mv2d, nm3f, nm3o, nm3d, bo3f, bo3o, bo3d, mv3f, mv3o, mv3d, nm4f, nm4o, nm4d, bo4f, bo4o, bo4d, mv4f, mv4o, mv4d, nm5f, nm5o, nm5d, bo5f, bo5o, bo5d, mv5f, mv5o, mv5d, nm6f, nm6o, nm6d, bo6f, bo6o, bo6d, mv6f, mv6o, mv6d, nm7f, nm7o, nm7d, bo7f, bo7o, bo7d, mv7f, mv7o, mv7d, nm8f, nm8o, nm8d, bo8f, bo8o, bo8d, mv8f, mv8o, mv8d, nm9f, nm9o, nm9d, bo9f, bo9o, bo9d, mv9f, mv9o, mv9d, nm10f, nm10o, nm10d, bo10f, bo10o, bo10d, mv10f, mv10o, mv10d, nm11f, nm11o, nm11d, bo11f, bo11o, bo11d, mv11f, mv11o, mv11d, nm12f, nm12o, nm12d, bo12f, bo12o, bo12d, mv12f, mv12o, mv12d, nm13f, nm13o, nm13d, bo13f, bo13o, bo13d, mv13f, mv13o, mv13d, nm14f, nm14o, nm14d, bo14f, bo14o, bo14d, mv14f, mv14o, mv14d, nm15f, nm15o, nm15d, bo15f, bo15o, bo15d, mv15f, mv15o, mv15d, nm16f, bo16f, mv16f, nm16o, bo16o, mv16o, nm16d, bo16d, mv16d, nm17f, bo17f, mv17f, nm17o, bo17o, mv17o, nm17d, bo17d, mv17d, nm18f, bo18f, mv18f, nm18o, bo18o, mv18o, nm18d, bo18d, mv18d, nm19f, bo19f, mv19f, nm19o, bo19o, mv19o, nm19d, bo19d, mv19d, nm20f, bo20f, mv20f, nm20o, bo20o, mv20o, nm20d, bo20d, mv20d, nm21f, bo21f, mv21f, nm21o, bo21o, mv21o, nm21d, bo21d, mv21d, nm22f, bo22f, mv22f, nm22o, bo22o, mv22o, nm22d, bo22d, mv22d, nm23f, bo23f, mv23f, nm23o, bo23o, mv23o, nm23d, bo23d, mv23d, d_fr, fz_fr, isFr_fr, free_fr, d_ow, fz_ow, isFr_ow, free_ow, d_od, fz_od, isFr_od, free_od, d_bo, fz_bo, isFr_bo, free_bo, d_bd, fz_bd, isFr_bd, free_bd, w_add_i, w_add_s, w_add_l, w_add_t, w_sub, w_mul_i, w_mul_s, w_mul_l, w_mul_t, w_mod, w_fdv, w_pow, w_le_i, w_gt_i, w_ge_i, w_le_s, w_gt_s, w_ge_s, w_lt_i, w_lt_s, w_eq, w_ne, w_is_b, w_isN_b, w_in_l, w_nin_l, w_ix_l, w_ix_t, w_ix_s, w_sl_l, w_sl_t, w_sl_s, w_len_l, w_len_t, w_len_s, w_list_l, w_list_t, w_tuple_l, w_tuple_t, w_str, w_int_i, w_int_b, w_int_s, w_max2, w_max_l, w_min2, w_min_l, w_all, w_any, w_sorted_l, w_sorted_t, w_split, w_join, w_in_t, w_nin_t, w_in_ts, w_nin_ts, e_draw, e_cok_int, e_cok_bl, e_cok_str, List.map_cons, List.map_nil, List.all_cons, List.all_nil, List.length_cons, List.length_nil, List.getElem?_cons_zero, List.getElem?_cons_succ, List.set_cons_zero, List.set_cons_succ, retD, Tg.put, puts, wipeE, true_and, and_true, and_self, Bool.and_true, Bool.true_and, exists_eq_left', exists_eq_left, R.fr.injEq, R.ow.injEq, Option.some.injEq, D.bl.injEq, D.int.injEq, D.str.injEq, D.lst.injEq, D.tup.injEq, decide_eq_true_eq, if_true, exists_eq', Bool.not_true, Bool.not_false, ite_true, ite_false, if_false, Bool.false_eq_true]
        refine ⟨(6, 2), rfl, ⟨by decide, by decide, by decide, by decide⟩, ?_⟩
        rintro r ⟨rows, rfl, nd2, rl, rok⟩
        have rl : rows.length ≤ 6 := by
          have : (rows.length : Int) ≤ 6 := rl
          omega
        try simp only [e_dSeq, e_dNext, e_dSet, e_dRet, e_dDrop, e_dIfS, e_dTgS, e_dC, e_dBin, e_dTst, e_dChn, e_dAnd, e_dOr, e_dNot, e_dAndV, e_dOrV, e_dNotV, e_dIf, e_dNil, e_dCons, e_dLst, e_dTup, e_dCB, e_dCall, e_dYes, e_dApp, e_dAug, e_dAugM, e_dIsi, e_dIsi2, e_dSl, e_dNoP, e_dPart, e_dM1, e_dFor, e_dLC, e_dIt, e_dRng1, e_dZipM, e_dRngN, e_dRev, e_dPar0, w_maxT, e_dSrtSet, e_dItS, e_dPar2, e_dPar3, e_par2, e_par3, e_dCallD, e_dCallK, e_dRng2, e_dEnum, e_dZip, nm0f, nm0o, nm0d, bo0f, bo0o, bo0d, mv0f, mv0o, mv0d, nm1f, nm1o, nm1d, bo1f, bo1o, bo1d, mv1f, mv1o, mv1d, nm2f, nm2o, nm2d, bo2f, bo2o, bo2d, mv2f, mv2o, mv2d, nm3f, nm3o, nm3d, bo3f, bo3o, bo3d, mv3f, mv3o, mv3d, nm4f, nm4o, nm4d, bo4f, bo4o, bo4d, mv4f, mv4o, mv4d, nm5f, nm5o, nm5d, bo5f, bo5o, bo5d, mv5f, mv5o, mv5d, nm6f, nm6o, nm6d, bo6f, bo6o, bo6d, mv6f, mv6o, mv6d, nm7f, nm7o, nm7d, bo7f, bo7o, bo7d, mv7f, mv7o, mv7d, nm8f, nm8o, nm8d, bo8f, bo8o, bo8d, mv8f, mv8o, mv8d, nm9f, nm9o, nm9d, bo9f, bo9o, bo9d, mv9f, mv9o, mv9d, nm10f, nm10o, nm10d, bo10f, bo10o, bo10d, mv10f, mv10o, mv10d, nm11f, nm11o, nm11d, bo11f, bo11o, bo11d, mv11f, mv11o, mv11d, nm12f, nm12o, nm12d, bo12f, bo12o, bo12d, mv12f, mv12o, mv12d, nm13f, nm13o, nm13d, bo13f, bo13o, bo13d, mv13f, mv13o, mv13d, nm14f, nm14o, nm14d, bo14f, bo14o, bo14d, mv14f, mv14o, mv14d, nm15f, nm15o, nm15d, bo15f, bo15o, bo15d, mv15f, mv15o, mv15d, nm16f, bo16f, mv16f, nm16o, bo16o, mv16o, nm16d, bo16d, mv16d, nm17f, bo17f, mv17f, nm17o, bo17o, mv17o, nm17d, bo17d, mv17d, nm18f, bo18f, mv18f, nm18o, bo18o, mv18o, nm18d, bo18d, mv18d, nm19f, bo19f, mv19f, nm19o, bo19o, mv19o, nm19d, bo19d, mv19d, nm20f, bo20f, mv20f, nm20o, bo20o, mv20o, nm20d, bo20d, mv20d, nm21f, bo21f, mv21f, nm21o, bo21o, mv21o, nm21d, bo21d, mv21d, nm22f, bo22f, mv22f, nm22o, bo22o, mv22o, nm22d, bo22d, mv22d, nm23f, bo23f, mv23f, nm23o, bo23o, mv23o, nm23d, bo23d, mv23d, d_fr, fz_fr, isFr_fr, free_fr, d_ow, fz_ow, isFr_ow, free_ow, d_od, fz_od, isFr_od, free_od, d_bo, fz_bo, isFr_bo, free_bo, d_bd, fz_bd, isFr_bd, free_bd, w_add_i, w_add_s, w_add_l, w_add_t, w_sub, w_mul_i, w_mul_s, w_mul_l, w_mul_t, w_mod, w_fdv, w_pow, w_le_i, w_gt_i, w_ge_i, w_le_s, w_gt_s, w_ge_s, w_lt_i, w_lt_s, w_eq, w_ne, w_is_b, w_isN_b, w_in_l, w_nin_l, w_ix_l, w_ix_t, w_ix_s, w_sl_l, w_sl_t, w_sl_s, w_len_l, w_len_t, w_len_s, w_list_l, w_list_t, w_tuple_l, w_tuple_t, w_str, w_int_i, w_int_b, w_int_s, w_max2, w_max_l, w_min2, w_min_l, w_all, w_any, w_sorted_l, w_sorted_t, w_split, w_join, w_in_t, w_nin_t, w_in_ts, w_nin_ts, e_draw, e_cok_int, e_cok_bl, e_cok_str, List.map_cons, List.map_nil, List.all_cons, List.all_nil, List.length_cons, List.length_nil, List.getElem?_cons_zero, List.getElem?_cons_succ, List.set_cons_zero, List.set_cons_succ, retD, Tg.put, puts, wipeE, true_and, and_true, and_self, Bool.and_true, Bool.true_and, exists_eq_left', exists_eq_left, R.fr.injEq, R.ow.injEq, Option.some.injEq, D.bl.injEq, D.int.injEq, D.str.injEq, D.lst.injEq, D.tup.injEq, decide_eq_true_eq, if_true, exists_eq', Bool.not_true, Bool.not_false, ite_true, ite_false, if_false, Bool.false_eq_true]
        refine ⟨.inl rfl, rows, rfl, ⟨by omega, rok⟩, ?_⟩
        rintro r rfl
        try simp only [e_dSeq, e_dNext, e_dSet, e_dRet, e_dDrop, e_dIfS, e_dTgS, e_dC, e_dBin, e_dTst, e_dChn, e_dAnd, e_dOr, e_dNot, e_dAndV, e_dOrV, e_dNotV, e_dIf, e_dNil, e_dCons, e_dLst, e_dTup, e_dCB, e_dCall, e_dYes, e_dApp, e_dAug, e_dAugM, e_dIsi, e_dIsi2, e_dSl, e_dNoP, e_dPart, e_dM1, e_dFor, e_dLC, e_dIt, e_dRng1, e_dZipM, e_dRngN, e_dRev, e_dPar0, w_maxT, e_dSrtSet, e_dItS, e_dPar2, e_dPar3, e_par2, e_par3, e_dCallD, e_dCallK, e_dRng2, e_dEnum, e_dZip, nm0f, nm0o, nm0d, bo0f, bo0o, bo0d, mv0f, mv0o, mv0d, nm1f, nm1o, nm1d, bo1f, bo1o, bo1d, mv1f, mv1o, mv1d, nm2f, nm2o, nm2d, bo2f, bo2o, bo2d, mv2f, mv2o, mv2d, nm3f, nm3o, nm3d, bo3f, bo3o, bo3d, mv3f, mv3o, mv3d, nm4f, nm4o, nm4d, bo4f, bo4o, bo4d, mv4f, mv4o, mv4d, nm5f, nm5o, nm5d, bo5f, bo5o, bo5d, mv5f, mv5o, mv5d, nm6f, nm6o, nm6d, bo6f, bo6o, bo6d, mv6f, mv6o, mv6d, nm7f, nm7o, nm7d, bo7f, bo7o, bo7d, mv7f, mv7o, mv7d, nm8f, nm8o, nm8d, bo8f, bo8o, bo8d, mv8f, mv8o, mv8d, nm9f, nm9o, nm9d, bo9f, bo9o, bo9d, mv9f, mv9o, mv9d, nm10f, nm10o, nm10d, bo10f, bo10o, bo10d, mv10f, mv10o, mv10d, nm11f, nm11o, nm11d, bo11f, bo11o, bo11d, mv11f, mv11o, mv11d, nm12f, nm12o, nm12d, bo12f, bo12o, bo12d, mv12f, mv12o, mv12d, nm13f, nm13o, nm13d, bo13f, bo13o, bo13d, mv13f, mv13o, mv13d, nm14f, nm14o, nm14d, bo14f, bo14o, bo14d, mv14f, mv14o, mv14d, nm15f, nm15o, nm15d, bo15f, bo15o, bo15d, mv15f, mv15o, mv15d, nm16f, bo16f, mv16f, nm16o, bo16o, mv16o, nm16d, bo16d, mv16d, nm17f, bo17f, mv17f, nm17o, bo17o, mv17o, nm17d, bo17d, mv17d, nm18f, bo18f, mv18f, nm18o, bo18o, mv18o, nm18d, bo18d, mv18d, nm19f, bo19f, mv19f, nm19o, bo19o, mv19o, nm19d, bo19d, mv19d, nm20f, bo20f, mv20f, nm20o, bo20o, mv20o, nm20d, bo20d, mv20d, nm21f, bo21f, mv21f, nm21o, bo21o, mv21o, nm21d, bo21d, mv21d, nm22f, bo22f, mv22f, nm22o, bo22o, mv22o, nm22d, bo22d, mv22d, nm23f, bo23f, mv23f, nm23o, bo23o, mv23o, nm23d, bo23d, mv23d, d_fr, fz_fr, isFr_fr, free_fr, d_ow, fz_ow, isFr_ow, free_ow, d_od, fz_od, isFr_od, free_od, d_bo, fz_bo, isFr_bo, free_bo, d_bd, fz_bd, isFr_bd, free_bd, w_add_i, w_add_s, w_add_l, w_add_t, w_sub, w_mul_i, w_mul_s, w_mul_l, w_mul_t, w_mod, w_fdv, w_pow, w_le_i, w_gt_i, w_ge_i, w_le_s, w_gt_s, w_ge_s, w_lt_i, w_lt_s, w_eq, w_ne, w_is_b, w_isN_b, w_in_l, w_nin_l, w_ix_l, w_ix_t, w_ix_s, w_sl_l, w_sl_t, w_sl_s, w_len_l, w_len_t, w_len_s, w_list_l, w_list_t, w_tuple_l, w_tuple_t, w_str, w_int_i, w_int_b, w_int_s, w_max2, w_max_l, w_min2, w_min_l, w_all, w_any, w_sorted_l, w_sorted_t, w_split, w_join, w_in_t, w_nin_t, w_in_ts, w_nin_ts, e_draw, e_cok_int, e_cok_bl, e_cok_str, List.map_cons, List.map_nil, List.all_cons, List.all_nil, List.length_cons, List.length_nil, List.getElem?_cons_zero, List.getElem?_cons_succ, List.set_cons_zero, List.set_cons_succ, retD, Tg.put, puts, wipeE, true_and, and_true, and_self, Bool.and_true, Bool.true_and, exists_eq_left', exists_eq_left, R.fr.injEq, R.ow.injEq, Option.some.injEq, D.bl.injEq, D.int.injEq, D.str.injEq, D.lst.injEq, D.tup.injEq, decide_eq_true_eq, if_true, exists_eq', Bool.not_true, Bool.not_false, ite_true, ite_false, if_false, Bool.false_eq_true]
        refine ⟨.inl rfl, (true, rows.map zrow), rfl, ⟨by show (rows.map zrow).length ≤ 1000; rw [List.length_map]; omega, fun y hy => ?_⟩, ?_⟩
        · obtain ⟨r, hr, rfl⟩ := List.mem_map.mp hy
          exact ⟨ks_map (f := fun _ => 0) fun n _ => by decide, rok r hr⟩
        rintro r rfl
        try simp only [e_dSeq, e_dNext, e_dSet, e_dRet, e_dDrop, e_dIfS, e_dTgS, e_dC, e_dBin, e_dTst, e_dChn, e_dAnd, e_dOr, e_dNot, e_dAndV, e_dOrV, e_dNotV, e_dIf, e_dNil, e_dCons, e_dLst, e_dTup, e_dCB, e_dCall, e_dYes, e_dApp, e_dAug, e_dAugM, e_dIsi, e_dIsi2, e_dSl, e_dNoP, e_dPart, e_dM1, e_dFor, e_dLC, e_dIt, e_dRng1, e_dZipM, e_dRngN, e_dRev, e_dPar0, w_maxT, e_dSrtSet, e_dItS, e_dPar2, e_dPar3, e_par2, e_par3, e_dCallD, e_dCallK, e_dRng2, e_dEnum, e_dZip, nm0f, nm0o, nm0d, bo0f, bo0o, bo0d, mv0f, mv0o, mv0d, nm1f, nm1o, nm1d, bo1f, bo1o, bo1d, mv1f, mv1o, mv1d, nm2f, nm2o, nm2d, bo2f, bo2o, bo2d, mv2f, mv2o, mv2d, nm3f, nm3o, nm3d, bo3f, bo3o, bo3d, mv3f, mv3o, mv3d, nm4f, nm4o, nm4d, bo4f, bo4o, bo4d, mv4f, mv4o, mv4d, nm5f, nm5o, nm5d, bo5f, bo5o, bo5d, mv5f, mv5o, mv5d, nm6f, nm6o, nm6d, bo6f, bo6o, bo6d, mv6f, mv6o, mv6d, nm7f, nm7o, nm7d, bo7f, bo7o, bo7d, mv7f, mv7o, mv7d, nm8f, nm8o, nm8d, bo8f, bo8o, bo8d, mv8f, mv8o, mv8d, nm9f, nm9o, nm9d, bo9f, bo9o, bo9d, mv9f, mv9o, mv9d, nm10f, nm10o, nm10d, bo10f, bo10o, bo10d, mv10f, mv10o, mv10d, nm11f, nm11o, nm11d, bo11f, bo11o, bo11d, mv11f, mv11o, mv11d, nm12f, nm12o, nm12d, bo12f, bo12o, bo12d, mv12f, mv12o, mv12d, nm13f, nm13o, nm13d, bo13f, bo13o, bo13d, mv13f, mv13o, mv13d, nm14f, nm14o, nm14d, bo14f, bo14o, bo14d, mv14f, mv14o, mv14d, nm15f, nm15o, nm15d, bo15f, bo15o, bo15d, mv15f, mv15o, mv15d, nm16f, bo16f, mv16f, nm16o, bo16o, mv16o, nm16d, bo16d, mv16d, nm17f, bo17f, mv17f, nm17o, bo17o, mv17o, nm17d, bo17d, mv17d, nm18f, bo18f, mv18f, nm18o, bo18o, mv18o, nm18d, bo18d, mv18d, nm19f, bo19f, mv19f, nm19o, bo19o, mv19o, nm19d, bo19d, mv19d, nm20f, bo20f, mv20f, nm20o, bo20o, mv20o, nm20d, bo20d, mv20d, nm21f, bo21f, mv21f, nm21o, bo21o, mv21o, nm21d, bo21d, mv21d, nm22f, bo22f, mv22f, nm22o, bo22o, mv22o, nm22d, bo22d, mv22d, nm23f, bo23f, mv23f, nm23o, bo23o, mv23o, nm23d, bo23d, mv23d, d_fr, fz_fr, isFr_fr, free_fr, d_ow, fz_ow, isFr_ow, free_ow, d_od, fz_od, isFr_od, free_od, d_bo, fz_bo, isFr_bo, free_bo, d_bd, fz_bd, isFr_bd, free_bd, w_add_i, w_add_s, w_add_l, w_add_t, w_sub, w_mul_i, w_mul_s, w_mul_l, w_mul_t, w_mod, w_fdv, w_pow, w_le_i, w_gt_i, w_ge_i, w_le_s, w_gt_s, w_ge_s, w_lt_i, w_lt_s, w_eq, w_ne, w_is_b, w_isN_b, w_in_l, w_nin_l, w_ix_l, w_ix_t, w_ix_s, w_sl_l, w_sl_t, w_sl_s, w_len_l, w_len_t, w_len_s, w_list_l, w_list_t, w_tuple_l, w_tuple_t, w_str, w_int_i, w_int_b, w_int_s, w_max2, w_max_l, w_min2, w_min_l, w_all, w_any, w_sorted_l, w_sorted_t, w_split, w_join, w_in_t, w_nin_t, w_in_ts, w_nin_ts, e_draw, e_cok_int, e_cok_bl, e_cok_str, List.map_cons, List.map_nil, List.all_cons, List.all_nil, List.length_cons, List.length_nil, List.getElem?_cons_zero, List.getElem?_cons_succ, List.set_cons_zero, List.set_cons_succ, retD, Tg.put, puts, wipeE, true_and, and_true, and_self, Bool.and_true, Bool.true_and, exists_eq_left', exists_eq_left, R.fr.injEq, R.ow.injEq, Option.some.injEq, D.bl.injEq, D.int.injEq, D.str.injEq, D.lst.injEq, D.tup.injEq, decide_eq_true_eq, if_true, exists_eq', Bool.not_true, Bool.not_false, ite_true, ite_false, if_false, Bool.false_eq_true]
        refine ⟨rows, rfl, ⟨by decide, by omega, fun r hr => ⟨by have := (rok r hr).le; omega, (rok r hr).num⟩⟩, ?_⟩
        rintro r ⟨b2, rfl, hb2⟩
        try simp only [e_dSeq, e_dNext, e_dSet, e_dRet, e_dDrop, e_dIfS, e_dTgS, e_dC, e_dBin, e_dTst, e_dChn, e_dAnd, e_dOr, e_dNot, e_dAndV, e_dOrV, e_dNotV, e_dIf, e_dNil, e_dCons, e_dLst, e_dTup, e_dCB, e_dCall, e_dYes, e_dApp, e_dAug, e_dAugM, e_dIsi, e_dIsi2, e_dSl, e_dNoP, e_dPart, e_dM1, e_dFor, e_dLC, e_dIt, e_dRng1, e_dZipM, e_dRngN, e_dRev, e_dPar0, w_maxT, e_dSrtSet, e_dItS, e_dPar2, e_dPar3, e_par2, e_par3, e_dCallD, e_dCallK, e_dRng2, e_dEnum, e_dZip, nm0f, nm0o, nm0d, bo0f, bo0o, bo0d, mv0f, mv0o, mv0d, nm1f, nm1o, nm1d, bo1f, bo1o, bo1d, mv1f, mv1o, mv1d, nm2f, nm2o, nm2d, bo2f, bo2o, bo2d, mv2f, mv2o, mv2d, nm3f, nm3o, nm3d, bo3f, bo3o, bo3d, mv3f, mv3o, mv3d, nm4f, nm4o, nm4d, bo4f, bo4o, bo4d, mv4f, mv4o, mv4d, nm5f, nm5o, nm5d, bo5f, bo5o, bo5d, mv5f, mv5o, mv5d, nm6f, nm6o, nm6d, bo6f, bo6o, bo6d, mv6f, mv6o, mv6d, nm7f, nm7o, nm7d, bo7f, bo7o, bo7d, mv7f, mv7o, mv7d, nm8f, nm8o, nm8d, bo8f, bo8o, bo8d, mv8f, mv8o, mv8d, nm9f, nm9o, nm9d, bo9f, bo9o, bo9d, mv9f, mv9o, mv9d, nm10f, nm10o, nm10d, bo10f, bo10o, bo10d, mv10f, mv10o, mv10d, nm11f, nm11o, nm11d, bo11f, bo11o, bo11d, mv11f, mv11o, mv11d, nm12f, nm12o, nm12d, bo12f, bo12o, bo12d, mv12f, mv12o, mv12d, nm13f, nm13o, nm13d, bo13f, bo13o, bo13d, mv13f, mv13o, mv13d, nm14f, nm14o, nm14d, bo14f, bo14o, bo14d, mv14f, mv14o, mv14d, nm15f, nm15o, nm15d, bo15f, bo15o, bo15d, mv15f, mv15o, mv15d, nm16f, bo16f, mv16f, nm16o, bo16o, mv16o, nm16d, bo16d, mv16d, nm17f, bo17f, mv17f, nm17o, bo17o, mv17o, nm17d, bo17d, mv17d, nm18f, bo18f, mv18f, nm18o, bo18o, mv18o, nm18d, bo18d, mv18d, nm19f, bo19f, mv19f, nm19o, bo19o, mv19o, nm19d, bo19d, mv19d, nm20f, bo20f, mv20f, nm20o, bo20o, mv20o, nm20d, bo20d, mv20d, nm21f, bo21f, mv21f, nm21o, bo21o, mv21o, nm21d, bo21d, mv21d, nm22f, bo22f, mv22f, nm22o, bo22o, mv22o, nm22d, bo22d, mv22d, nm23f, bo23f, mv23f, nm23o, bo23o, mv23o, nm23d, bo23d, mv23d, d_fr, fz_fr, isFr_fr, free_fr, d_ow, fz_ow, isFr_ow, free_ow, d_od, fz_od, isFr_od, free_od, d_bo, fz_bo, isFr_bo, free_bo, d_bd, fz_bd, isFr_bd, free_bd, w_add_i, w_add_s, w_add_l, w_add_t, w_sub, w_mul_i, w_mul_s, w_mul_l, w_mul_t, w_mod, w_fdv, w_pow, w_le_i, w_gt_i, w_ge_i, w_le_s, w_gt_s, w_ge_s, w_lt_i, w_lt_s, w_eq, w_ne, w_is_b, w_isN_b, w_in_l, w_nin_l, w_ix_l, w_ix_t, w_ix_s, w_sl_l, w_sl_t, w_sl_s, w_len_l, w_len_t, w_len_s, w_list_l, w_list_t, w_tuple_l, w_tuple_t, w_str, w_int_i, w_int_b, w_int_s, w_max2, w_max_l, w_min2, w_min_l, w_all, w_any, w_sorted_l, w_sorted_t, w_split, w_join, w_in_t, w_nin_t, w_in_ts, w_nin_ts, e_draw, e_cok_int, e_cok_bl, e_cok_str, List.map_cons, List.map_nil, List.all_cons, List.all_nil, List.length_cons, List.length_nil, List.getElem?_cons_zero, List.getElem?_cons_succ, List.set_cons_zero, List.set_cons_succ, retD, Tg.put, puts, wipeE, true_and, and_true, and_self, Bool.and_true, Bool.true_and, exists_eq_left', exists_eq_left, R.fr.injEq, R.ow.injEq, Option.some.injEq, D.bl.injEq, D.int.injEq, D.str.injEq, D.lst.injEq, D.tup.injEq, decide_eq_true_eq, if_true, exists_eq', Bool.not_true, Bool.not_false, ite_true, ite_false, if_false, Bool.false_eq_true]
        have eb2 : decide ((srtN (rows.map zrow)).map nm = ssort ((rows.map zrow).map nm)) = b2 := by
          rw [Bool.eq_iff_iff, decide_eq_true_eq, agree_iff nd2 rok, hb2]
        refine ⟨shp_bl _, shp_bl _, ite_k (fun c => absurd c ?_) fun _ => ?_⟩
        · rw [eqv_bl, eb2]; simp
        · exact ⟨_, _, _, _, _, _, rfl⟩
    · try simp only [e_dSeq, e_dNext, e_dSet, e_dRet, e_dDrop, e_dIfS, e_dTgS, e_dC, e_dBin, e_dTst, e_dChn, e_dAnd, e_dOr, e_dNot, e_dAndV, e_dOrV, e_dNotV, e_dIf, e_dNil, e_dCons, e_dLst, e_dTup, e_dCB, e_dCall, e_dYes, e_dApp, e_dAug, e_dAugM, e_dIsi, e_dIsi2, e_dSl, e_dNoP, e_dPart, e_dM1, e_dFor, e_dLC, e_dIt, e_dRng1, e_dZipM, e_dRngN, e_dRev, e_dPar0, w_maxT, e_dSrtSet, e_dItS, e_dPar2, e_dPar3, e_par2, e_par3, e_dCallD, e_dCallK, e_dRng2, e_dEnum, e_dZip, nm0f, nm0o, nm0d, bo0f, bo0o, bo0d, mv0f, mv0o, mv0d, nm1f, nm1o, nm1d, bo1f, bo1o, bo1d, mv1f, mv1o, mv1d, nm2f, nm2o, nm2d, bo2f, bo2o, bo2d, mv2f, mv2o, mv2d, nm3f, nm3o, nm3d, bo3f, bo3o, bo3d, mv3f, mv3o, mv3d, nm4f, nm4o, nm4d, bo4f, bo4o, bo4d, mv4f, mv4o, mv4d, nm5f, nm5o, nm5d, bo5f, bo5o, bo5d, mv5f, mv5o, mv5d, nm6f, nm6o, nm6d, bo6f, bo6o, bo6d, mv6f, mv6o, mv6d, nm7f, nm7o, nm7d, bo7f, bo7o, bo7d, mv7f, mv7o, mv7d, nm8f, nm8o, nm8d, bo8f, bo8o, bo8d, mv8f, mv8o, mv8d, nm9f, nm9o, nm9d, bo9f, bo9o, bo9d, mv9f, mv9o, mv9d, nm10f, nm10o, nm10d, bo10f, bo10o, bo10d, mv10f, mv10o, mv10d, nm11f, nm11o, nm11d, bo11f, bo11o, bo11d, mv11f, mv11o, mv11d, nm12f, nm12o, nm12d, bo12f, bo12o, bo12d, mv12f, mv12o, mv12d, nm13f, nm13o, nm13d, bo13f, bo13o, bo13d, mv13f, mv13o, mv13d, nm14f, nm14o, nm14d, bo14f, bo14o, bo14d, mv14f, mv14o, mv14d, nm15f, nm15o, nm15d, bo15f, bo15o, bo15d, mv15f, mv15o, mv15d, nm16f, bo16f, mv16f, nm16o, bo16o, mv16o, nm16d, bo16d, mv16d, nm17f, bo17f, mv17f, nm17o, bo17o, mv17o, nm17d, bo17d, mv17d, nm18f, bo18f, mv18f, nm18o, bo18o, mv18o, nm18d, bo18d, mv18d, nm19f, bo19f, mv19f, nm19o, bo19o, mv19o, nm19d, bo19d, mv19d, nm20f, bo20f, mv20f, nm20o, bo20o, mv20o, nm20d, bo20d, mv20d, nm21f, bo21f, mv21f, nm21o, bo21o, mv21o, nm21d, bo21d, mv21d, nm22f, bo22f, mv22f, nm22o, bo22o, mv22o, nm22d, bo22d, mv22d, nm23f, bo23f, mv23f, nm23o, bo23o, mv23o, nm23d, bo23d, mv23d, d_fr, fz_fr, isFr_fr, free_fr, d_ow, fz_ow, isFr_ow, free_ow, d_od, fz_od, isFr_od, free_od, d_bo, fz_bo, isFr_bo, free_bo, d_bd, fz_bd, isFr_bd, free_bd, w_add_i, w_add_s, w_add_l, w_add_t, w_sub, w_mul_i, w_mul_s, w_mul_l, w_mul_t, w_mod, w_fdv, w_pow, w_le_i, w_gt_i, w_ge_i, w_le_s, w_gt_s, w_ge_s, w_lt_i, w_lt_s, w_eq, w_ne, w_is_b, w_isN_b, w_in_l, w_nin_l, w_ix_l, w_ix_t, w_ix_s, w_sl_l, w_sl_t, w_sl_s, w_len_l, w_len_t, w_len_s, w_list_l, w_list_t, w_tuple_l, w_tuple_t, w_str, w_int_i, w_int_b, w_int_s, w_max2, w_max_l, w_min2, w_min_l, w_all, w_any, w_sorted_l, w_sorted_t, w_split, w_join, w_in_t, w_nin_t, w_in_ts, w_nin_ts, e_draw, e_cok_int, e_cok_bl, e_cok_str, List.map_cons, List.map_nil, List.all_cons, List.all_nil, List.length_cons, List.length_nil, List.getElem?_cons_zero, List.getElem?_cons_succ, List.set_cons_zero, List.set_cons_succ, retD, Tg.put, puts, wipeE, true_and, and_true, and_self, Bool.and_true, Bool.true_and, exists_eq_left', exists_eq_left, R.fr.injEq, R.ow.injEq, Option.some.injEq, D.bl.injEq, D.int.injEq, D.str.injEq, D.lst.injEq, D.tup.injEq, decide_eq_true_eq, if_true, exists_eq', Bool.not_true, Bool.not_false, ite_true, ite_false, if_false, Bool.false_eq_true]
      refine ⟨(6, 2), rfl, ⟨by decide, by decide, by decide, by decide⟩, ?_⟩
      rintro r ⟨rows, rfl, nd2, rl, rok⟩
      have rl : rows.length ≤ 6 := by
        have : (rows.length : Int) ≤ 6 := rl
        omega
      try simp only [e_dSeq, e_dNext, e_dSet, e_dRet, e_dDrop, e_dIfS, e_dTgS, e_dC, e_dBin, e_dTst, e_dChn, e_dAnd, e_dOr, e_dNot, e_dAndV, e_dOrV, e_dNotV, e_dIf, e_dNil, e_dCons, e_dLst, e_dTup, e_dCB, e_dCall, e_dYes, e_dApp, e_dAug, e_dAugM, e_dIsi, e_dIsi2, e_dSl, e_dNoP, e_dPart, e_dM1, e_dFor, e_dLC, e_dIt, e_dRng1, e_dZipM, e_dRngN, e_dRev, e_dPar0, w_maxT, e_dSrtSet, e_dItS, e_dPar2, e_dPar3, e_par2, e_par3, e_dCallD, e_dCallK, e_dRng2, e_dEnum, e_dZip, nm0f, nm0o, nm0d, bo0f, bo0o, bo0d, mv0f, mv0o, mv0d, nm1f, nm1o, nm1d, bo1f, bo1o, bo1d, mv1f, mv1o, mv1d, nm2f, nm2o, nm2d, bo2f, bo2o, bo2d, mv2f, mv2o, mv2d, nm3f, nm3o, nm3d, bo3f, bo3o, bo3d, mv3f, mv3o, mv3d, nm4f, nm4o, nm4d, bo4f, bo4o, bo4d, mv4f, mv4o, mv4d, nm5f, nm5o, nm5d, bo5f, bo5o, bo5d, mv5f, mv5o, mv5d, nm6f, nm6o, nm6d, bo6f, bo6o, bo6d, mv6f, mv6o, mv6d, nm7f, nm7o, nm7d, bo7f, bo7o, bo7d, mv7f, mv7o, mv7d, nm8f, nm8o, nm8d, bo8f, bo8o, bo8d, mv8f, mv8o, mv8d, nm9f, nm9o, nm9d, bo9f, bo9o, bo9d, mv9f, mv9o, mv9d, nm10f, nm10o, nm10d, bo10f, bo10o, bo10d, mv10f, mv10o, mv10d, nm11f, nm11o, nm11d, bo11f, bo11o, bo11d, mv11f, mv11o, mv11d, nm12f, nm12o, nm12d, bo12f, bo12o, bo12d, mv12f, mv12o, mv12d, nm13f, nm13o, nm13d, bo13f, bo13o, bo13d, mv13f, mv13o, mv13d, nm14f, nm14o, nm14d, bo14f, bo14o, bo14d, mv14f, mv14o, mv14d, nm15f, nm15o, nm15d, bo15f, bo15o, bo15d, mv15f, mv15o, mv15d, nm16f, bo16f, mv16f, nm16o, bo16o, mv16o, nm16d, bo16d, mv16d, nm17f, bo17f, mv17f, nm17o, bo17o, mv17o, nm17d, bo17d, mv17d, nm18f, bo18f, mv18f, nm18o, bo18o, mv18o, nm18d, bo18d, mv18d, nm19f, bo19f, mv19f, nm19o, bo19o, mv19o, nm19d, bo19d, mv19d, nm20f, bo20f, mv20f, nm20o, bo20o, mv20o, nm20d, bo20d, mv20d, nm21f, bo21f, mv21f, nm21o, bo21o, mv21o, nm21d, bo21d, mv21d, nm22f, bo22f, mv22f, nm22o, bo22o, mv22o, nm22d, bo22d, mv22d, nm23f, bo23f, mv23f, nm23o, bo23o, mv23o, nm23d, bo23d, mv23d, d_fr, fz_fr, isFr_fr, free_fr, d_ow, fz_ow, isFr_ow, free_ow, d_od, fz_od, isFr_od, free_od, d_bo, fz_bo, isFr_bo, free_bo, d_bd, fz_bd, isFr_bd, free_bd, w_add_i, w_add_s, w_add_l, w_add_t, w_sub, w_mul_i, w_mul_s, w_mul_l, w_mul_t, w_mod, w_fdv, w_pow, w_le_i, w_gt_i, w_ge_i, w_le_s, w_gt_s, w_ge_s, w_lt_i, w_lt_s, w_eq, w_ne, w_is_b, w_isN_b, w_in_l, w_nin_l, w_ix_l, w_ix_t, w_ix_s, w_sl_l, w_sl_t, w_sl_s, w_len_l, w_len_t, w_len_s, w_list_l, w_list_t, w_tuple_l, w_tuple_t, w_str, w_int_i, w_int_b, w_int_s, w_max2, w_max_l, w_min2, w_min_l, w_all, w_any, w_sorted_l, w_sorted_t, w_split, w_join, w_in_t, w_nin_t, w_in_ts, w_nin_ts, e_draw, e_cok_int, e_cok_bl, e_cok_str, List.map_cons, List.map_nil, List.all_cons, List.all_nil, List.length_cons, List.length_nil, List.getElem?_cons_zero, List.getElem?_cons_succ, List.set_cons_zero, List.set_cons_succ, retD, Tg.put, puts, wipeE, true_and, and_true, and_self, Bool.and_true, Bool.true_and, exists_eq_left', exists_eq_left, R.fr.injEq, R.ow.injEq, Option.some.injEq, D.bl.injEq, D.int.injEq, D.str.injEq, D.lst.injEq, D.tup.injEq, decide_eq_true_eq, if_true, exists_eq', Bool.not_true, Bool.not_false, ite_true, ite_false, if_false, Bool.false_eq_true]
      refine ⟨.inl rfl, rows, rfl, ⟨by omega, rok⟩, ?_⟩
      rintro r rfl
      try simp only [e_dSeq, e_dNext, e_dSet, e_dRet, e_dDrop, e_dIfS, e_dTgS, e_dC, e_dBin, e_dTst, e_dChn, e_dAnd, e_dOr, e_dNot, e_dAndV, e_dOrV, e_dNotV, e_dIf, e_dNil, e_dCons, e_dLst, e_dTup, e_dCB, e_dCall, e_dYes, e_dApp, e_dAug, e_dAugM, e_dIsi, e_dIsi2, e_dSl, e_dNoP, e_dPart, e_dM1, e_dFor, e_dLC, e_dIt, e_dRng1, e_dZipM, e_dRngN, e_dRev, e_dPar0, w_maxT, e_dSrtSet, e_dItS, e_dPar2, e_dPar3, e_par2, e_par3, e_dCallD, e_dCallK, e_dRng2, e_dEnum, e_dZip, nm0f, nm0o, nm0d, bo0f, bo0o, bo0d, mv0f, mv0o, mv0d, nm1f, nm1o, nm1d, bo1f, bo1o, bo1d, mv1f, mv1o, mv1d, nm2f, nm2o, nm2d, bo2f, bo2o, bo2d, mv2f, mv2o, mv2d, nm3f, nm3o, nm3d, bo3f, bo3o, bo3d, mv3f, mv3o, mv3d, nm4f, nm4o, nm4d, bo4f, bo4o, bo4d, mv4f, mv4o, mv4d, nm5f, nm5o, nm5d, bo5f, bo5o, bo5d, mv5f, mv5o, mv5d, nm6f, nm6o, nm6d, bo6f, bo6o, bo6d, mv6f, mv6o, mv6d, nm7f, nm7o, nm7d, bo7f, bo7o, bo7d, mv7f, mv7o, mv7d, nm8f, nm8o, nm8d, bo8f, bo8o, bo8d, mv8f, mv8o, mv8d, nm9f, nm9o, nm9d, bo9f, bo9o, bo9d, mv9f, mv9o, mv9d, nm10f, nm10o, nm10d, bo10f, bo10o, bo10d, mv10f, mv10o, mv10d, nm11f, nm11o, nm11d, bo11f, bo11o, bo11d, mv11f, mv11o, mv11d, nm12f, nm12o, nm12d, bo12f, bo12o, bo12d, mv12f, mv12o, mv12d, nm13f, nm13o, nm13d, bo13f, bo13o, bo13d, mv13f, mv13o, mv13d, nm14f, nm14o, nm14d, bo14f, bo14o, bo14d, mv14f, mv14o, mv14d, nm15f, nm15o, nm15d, bo15f, bo15o, bo15d, mv15f, mv15o, mv15d, nm16f, bo16f, mv16f, nm16o, bo16o, mv16o, nm16d, bo16d, mv16d, nm17f, bo17f, mv17f, nm17o, bo17o, mv17o, nm17d, bo17d, mv17d, nm18f, bo18f, mv18f, nm18o, bo18o, mv18o, nm18d, bo18d, mv18d, nm19f, bo19f, mv19f, nm19o, bo19o, mv19o, nm19d, bo19d, mv19d, nm20f, bo20f, mv20f, nm20o, bo20o, mv20o, nm20d, bo20d, mv20d, nm21f, bo21f, mv21f, nm21o, bo21o, mv21o, nm21d, bo21d, mv21d, nm22f, bo22f, mv22f, nm22o, bo22o, mv22o, nm22d, bo22d, mv22d, nm23f, bo23f, mv23f, nm23o, bo23o, mv23o, nm23d, bo23d, mv23d, d_fr, fz_fr, isFr_fr, free_fr, d_ow, fz_ow, isFr_ow, free_ow, d_od, fz_od, isFr_od, free_od, d_bo, fz_bo, isFr_bo, free_bo, d_bd, fz_bd, isFr_bd, free_bd, w_add_i, w_add_s, w_add_l, w_add_t, w_sub, w_mul_i, w_mul_s, w_mul_l, w_mul_t, w_mod, w_fdv, w_pow, w_le_i, w_gt_i, w_ge_i, w_le_s, w_gt_s, w_ge_s, w_lt_i, w_lt_s, w_eq, w_ne, w_is_b, w_isN_b, w_in_l, w_nin_l, w_ix_l, w_ix_t, w_ix_s, w_sl_l, w_sl_t, w_sl_s, w_len_l, w_len_t, w_len_s, w_list_l, w_list_t, w_tuple_l, w_tuple_t, w_str, w_int_i, w_int_b, w_int_s, w_max2, w_max_l, w_min2, w_min_l, w_all, w_any, w_sorted_l, w_sorted_t, w_split, w_join, w_in_t, w_nin_t, w_in_ts, w_nin_ts, e_draw, e_cok_int, e_cok_bl, e_cok_str, List.map_cons, List.map_nil, List.all_cons, List.all_nil, List.length_cons, List.length_nil, List.getElem?_cons_zero, List.getElem?_cons_succ, List.set_cons_zero, List.set_cons_succ, retD, Tg.put, puts, wipeE, true_and, and_true, and_self, Bool.and_true, Bool.true_and, exists_eq_left', exists_eq_left, R.fr.injEq, R.ow.injEq, Option.some.injEq, D.bl.injEq, D.int.injEq, D.str.injEq, D.lst.injEq, D.tup.injEq, decide_eq_true_eq, if_true, exists_eq', Bool.not_true, Bool.not_false, ite_true, ite_false, if_false, Bool.false_eq_true]
      refine ⟨.inl rfl, (true, rows.map zrow), rfl, ⟨by show (rows.map zrow).length ≤ 1000; rw [List.length_map]; omega, fun y hy => ?_⟩, ?_⟩
      · obtain ⟨r, hr, rfl⟩ := List.mem_map.mp hy
        exact ⟨ks_map (f := fun _ => 0) fun n _ => by decide, rok r hr⟩
      rintro r rfl
      try simp only [e_dSeq, e_dNext, e_dSet, e_dRet, e_dDrop, e_dIfS, e_dTgS, e_dC, e_dBin, e_dTst, e_dChn, e_dAnd, e_dOr, e_dNot, e_dAndV, e_dOrV, e_dNotV, e_dIf, e_dNil, e_dCons, e_dLst, e_dTup, e_dCB, e_dCall, e_dYes, e_dApp, e_dAug, e_dAugM, e_dIsi, e_dIsi2, e_dSl, e_dNoP, e_dPart, e_dM1, e_dFor, e_dLC, e_dIt, e_dRng1, e_dZipM, e_dRngN, e_dRev, e_dPar0, w_maxT, e_dSrtSet, e_dItS, e_dPar2, e_dPar3, e_par2, e_par3, e_dCallD, e_dCallK, e_dRng2, e_dEnum, e_dZip, nm0f, nm0o, nm0d, bo0f, bo0o, bo0d, mv0f, mv0o, mv0d, nm1f, nm1o, nm1d, bo1f, bo1o, bo1d, mv1f, mv1o, mv1d, nm2f, nm2o, nm2d, bo2f, bo2o, bo2d, mv2f, mv2o, mv2d, nm3f, nm3o, nm3d, bo3f, bo3o, bo3d, mv3f, mv3o, mv3d, nm4f, nm4o, nm4d, bo4f, bo4o, bo4d, mv4f, mv4o, mv4d, nm5f, nm5o, nm5d, bo5f, bo5o, bo5d, mv5f, mv5o, mv5d, nm6f, nm6o, nm6d, bo6f, bo6o, bo6d, mv6f, mv6o, mv6d, nm7f, nm7o, nm7d, bo7f, bo7o, bo7d, mv7f, mv7o, mv7d, nm8f, nm8o, nm8d, bo8f, bo8o, bo8d, mv8f, mv8o, mv8d, nm9f, nm9o, nm9d, bo9f, bo9o, bo9d, mv9f, mv9o, mv9d, nm10f, nm10o, nm10d, bo10f, bo10o, bo10d, mv10f, mv10o, mv10d, nm11f, nm11o, nm11d, bo11f, bo11o, bo11d, mv11f, mv11o, mv11d, nm12f, nm12o, nm12d, bo12f, bo12o, bo12d, mv12f, mv12o, mv12d, nm13f, nm13o, nm13d, bo13f, bo13o, bo13d, mv13f, mv13o, mv13d, nm14f, nm14o, nm14d, bo14f, bo14o, bo14d, mv14f, mv14o, mv14d, nm15f, nm15o, nm15d, bo15f, bo15o, bo15d, mv15f, mv15o, mv15d, nm16f, bo16f, mv16f, nm16o, bo16o, mv16o, nm16d, bo16d, mv16d, nm17f, bo17f, mv17f, nm17o, bo17o, mv17o, nm17d, bo17d, mv17d, nm18f, bo18f, mv18f, nm18o, bo18o, mv18o, nm18d, bo18d, mv18d, nm19f, bo19f, mv19f, nm19o, bo19o, mv19o, nm19d, bo19d, mv19d, nm20f, bo20f, mv20f, nm20o, bo20o, mv20o, nm20d, bo20d, mv20d, nm21f, bo21f, mv21f, nm21o, bo21o, mv21o, nm21d, bo21d, mv21d, nm22f, bo22f, mv22f, nm22o, bo22o, mv22o, nm22d, bo22d, mv22d, nm23f, bo23f, mv23f, nm23o, bo23o, mv23o, nm23d, bo23d, mv23d, d_fr, fz_fr, isFr_fr, free_fr, d_ow, fz_ow, isFr_ow, free_ow, d_od, fz_od, isFr_od, free_od, d_bo, fz_bo, isFr_bo, free_bo, d_bd, fz_bd, isFr_bd, free_bd, w_add_i, w_add_s, w_add_l, w_add_t, w_sub, w_mul_i, w_mul_s, w_mul_l, w_mul_t, w_mod, w_fdv, w_pow, w_le_i, w_gt_i, w_ge_i, w_le_s, w_gt_s, w_ge_s, w_lt_i, w_lt_s, w_eq, w_ne, w_is_b, w_isN_b, w_in_l, w_nin_l, w_ix_l, w_ix_t, w_ix_s, w_sl_l, w_sl_t, w_sl_s, w_len_l, w_len_t, w_len_s, w_list_l, w_list_t, w_tuple_l, w_tuple_t, w_str, w_int_i, w_int_b, w_int_s, w_max2, w_max_l, w_min2, w_min_l, w_all, w_any, w_sorted_l, w_sorted_t, w_split, w_join, w_in_t, w_nin_t, w_in_ts, w_nin_ts, e_draw, e_cok_int, e_cok_bl, e_cok_str, List.map_cons, List.map_nil, List.all_cons, List.all_nil, List.length_cons, List.length_nil, List.getElem?_cons_zero, List.getElem?_cons_succ, List.set_cons_zero, List.set_cons_succ, retD, Tg.put, puts, wipeE, true_and, and_true, and_self, Bool.and_true, Bool.true_and, exists_eq_left', exists_eq_left, R.fr.injEq, R.ow.injEq, Option.some.injEq, D.bl.injEq, D.int.injEq, D.str.injEq, D.lst.injEq, D.tup.injEq, decide_eq_true_eq, if_true, exists_eq', Bool.not_true, Bool.not_false, ite_true, ite_false, if_false, Bool.false_eq_true]
      refine ⟨rows, rfl, ⟨by decide, by omega, fun r hr => ⟨by have := (rok r hr).le; omega, (rok r hr).num⟩⟩, ?_⟩
      rintro r ⟨b2, rfl, hb2⟩
      try simp only [e_dSeq, e_dNext, e_dSet, e_dRet, e_dDrop, e_dIfS, e_dTgS, e_dC, e_dBin, e_dTst, e_dChn, e_dAnd, e_dOr, e_dNot, e_dAndV, e_dOrV, e_dNotV, e_dIf, e_dNil, e_dCons, e_dLst, e_dTup, e_dCB, e_dCall, e_dYes, e_dApp, e_dAug, e_dAugM, e_dIsi, e_dIsi2, e_dSl, e_dNoP, e_dPart, e_dM1, e_dFor, e_dLC, e_dIt, e_dRng1, e_dZipM, e_dRngN, e_dRev, e_dPar0, w_maxT, e_dSrtSet, e_dItS, e_dPar2, e_dPar3, e_par2, e_par3, e_dCallD, e_dCallK, e_dRng2, e_dEnum, e_dZip, nm0f, nm0o, nm0d, bo0f, bo0o, bo0d, mv0f, mv0o, mv0d, nm1f, nm1o, nm1d, bo1f, bo1o, bo1d, mv1f, mv1o, mv1d, nm2f, nm2o, nm2d, bo2f, bo2o, bo2d, mv2f, mv2o, mv2d, nm3f, nm3o, nm3d, bo3f, bo3o, bo3d, mv3f, mv3o, mv3d, nm4f, nm4o, nm4d, bo4f, bo4o, bo4d, mv4f, mv4o, mv4d, nm5f, nm5o, nm5d, bo5f, bo5o, bo5d, mv5f, mv5o, mv5d, nm6f, nm6o, nm6d, bo6f, bo6o, bo6d, mv6f, mv6o, mv6d, nm7f, nm7o, nm7d, bo7f, bo7o, bo7d, mv7f, mv7o, mv7d, nm8f, nm8o, nm8d, bo8f, bo8o, bo8d, mv8f, mv8o, mv8d, nm9f, nm9o, nm9d, bo9f, bo9o, bo9d, mv9f, mv9o, mv9d, nm10f, nm10o, nm10d, bo10f, bo10o, bo10d, mv10f, mv10o, mv10d, nm11f, nm11o, nm11d, bo11f, bo11o, bo11d, mv11f, mv11o, mv11d, nm12f, nm12o, nm12d, bo12f, bo12o, bo12d, mv12f, mv12o, mv12d, nm13f, nm13o, nm13d, bo13f, bo13o, bo13d, mv13f, mv13o, mv13d, nm14f, nm14o, nm14d, bo14f, bo14o, bo14d, mv14f, mv14o, mv14d, nm15f, nm15o, nm15d, bo15f, bo15o, bo15d, mv15f, mv15o, mv15d, nm16f, bo16f, mv16f, nm16o, bo16o, mv16o, nm16d, bo16d, mv16d, nm17f, bo17f, mv17f, nm17o, bo17o, mv17o, nm17d, bo17d, mv17d, nm18f, bo18f, mv18f, nm18o, bo18o, mv18o, nm18d, bo18d, mv18d, nm19f, bo19f, mv19f, nm19o, bo19o, mv19o, nm19d, bo19d, mv19d, nm20f, bo20f, mv20f, nm20o, bo20o, mv20o, nm20d, bo20d, mv20d, nm21f, bo21f, mv21f, nm21o, bo21o, mv21o, nm21d, bo21d, mv21d, nm22f, bo22f, mv22f, nm22o, bo22o, mv22o, nm22d, bo22d, mv22d, nm23f, bo23f, mv23f, nm23o, bo23o, mv23o, nm23d, bo23d, mv23d, d_fr, fz_fr, isFr_fr, free_fr, d_ow, fz_ow, isFr_ow, free_ow, d_od, fz_od, isFr_od, free_od, d_bo, fz_bo, isFr_bo, free_bo, d_bd, fz_bd, isFr_bd, free_bd, w_add_i, w_add_s, w_add_l, w_add_t, w_sub, w_mul_i, w_mul_s, w_mul_l, w_mul_t, w_mod, w_fdv, w_pow, w_le_i, w_gt_i, w_ge_i, w_le_s, w_gt_s, w_ge_s, w_lt_i, w_lt_s, w_eq, w_ne, w_is_b, w_isN_b, w_in_l, w_nin_l, w_ix_l, w_ix_t, w_ix_s, w_sl_l, w_sl_t, w_sl_s, w_len_l, w_len_t, w_len_s, w_list_l, w_list_t, w_tuple_l, w_tuple_t, w_str, w_int_i, w_int_b, w_int_s, w_max2, w_max_l, w_min2, w_min_l, w_all, w_any, w_sorted_l, w_sorted_t, w_split, w_join, w_in_t, w_nin_t, w_in_ts, w_nin_ts, e_draw, e_cok_int, e_cok_bl, e_cok_str, List.map_cons, List.map_nil, List.all_cons, List.all_nil, List.length_cons, List.length_nil, List.getElem?_cons_zero, List.getElem?_cons_succ, List.set_cons_zero, List.set_cons_succ, retD, Tg.put, puts, wipeE, true_and, and_true, and_self, Bool.and_true, Bool.true_and, exists_eq_left', exists_eq_left, R.fr.injEq, R.ow.injEq, Option.some.injEq, D.bl.injEq, D.int.injEq, D.str.injEq, D.lst.injEq, D.tup.injEq, decide_eq_true_eq, if_true, exists_eq', Bool.not_true, Bool.not_false, ite_true, ite_false, if_false, Bool.false_eq_true]
      have eb2 : decide ((srtN (rows.map zrow)).map nm = ssort ((rows.map zrow).map nm)) = b2 := by
        rw [Bool.eq_iff_iff, decide_eq_true_eq, agree_iff nd2 rok, hb2]
      refine ⟨shp_bl _, shp_bl _, ite_k (fun c => absurd c ?_) fun _ => ?_⟩
      · rw [eqv_bl, eb2]; simp
      · exact ⟨_, _, _, _, _, _, rfl⟩
  · obtain ⟨x2, x3, x4, x5, x6, x7, rfl⟩ := hI
    try simp only [e_dSeq, e_dNext, e_dSet, e_dRet, e_dDrop, e_dIfS, e_dTgS, e_dC, e_dBin, e_dTst, e_dChn, e_dAnd, e_dOr, e_dNot, e_dAndV, e_dOrV, e_dNotV, e_dIf, e_dNil, e_dCons, e_dLst, e_dTup, e_dCB, e_dCall, e_dYes, e_dApp, e_dAug, e_dAugM, e_dIsi, e_dIsi2, e_dSl, e_dNoP, e_dPart, e_dM1, e_dFor, e_dLC, e_dIt, e_dRng1, e_dZipM, e_dRngN, e_dRev, e_dPar0, w_maxT, e_dSrtSet, e_dItS, e_dPar2, e_dPar3, e_par2, e_par3, e_dCallD, e_dCallK, e_dRng2, e_dEnum, e_dZip, nm0f, nm0o, nm0d, bo0f, bo0o, bo0d, mv0f, mv0o, mv0d, nm1f, nm1o, nm1d, bo1f, bo1o, bo1d, mv1f, mv1o, mv1d, nm2f, nm2o, nm2d, bo2f, bo2o, bo2d, mv2f, mv2o, mv2d, nm3f, nm3o, nm3d, bo3f, bo3o, bo3d, mv3f, mv3o, mv3d, nm4f, nm4o, nm4d, bo4f, bo4o, bo4d, mv4f, mv4o, mv4d, nm5f, nm5o, nm5d, bo5f, bo5o, bo5d, mv5f, mv5o, mv5d, nm6f, nm6o, nm6d, bo6f, bo6o, bo6d, mv6f, mv6o, mv6d, nm7f, nm7o, nm7d, bo7f, bo7o, bo7d, mv7f, mv7o, mv7d, nm8f, nm8o, nm8d, bo8f, bo8o, bo8d, mv8f, mv8o, mv8d, nm9f, nm9o, nm9d, bo9f, bo9o, bo9d, mv9f, mv9o, mv9d, nm10f, nm10o, nm10d, bo10f, bo10o, bo10d, mv10f, mv10o, mv10d, nm11f, nm11o, nm11d, bo11f, bo11o, bo11d, mv11f, mv11o, mv11d, nm12f, nm12o, nm12d, bo12f, bo12o, bo12d, mv12f, mv12o, mv12d, nm13f, nm13o, nm13d, bo13f, bo13o, bo13d, mv13f, mv13o, mv13d, nm14f, nm14o, nm14d, bo14f, bo14o, bo14d, mv14f, mv14o, mv14d, nm15f, nm15o, nm15d, bo15f, bo15o, bo15d, mv15f, mv15o, mv15d, nm16f, bo16f, mv16f, nm16o, bo16o, mv16o, nm16d, bo16d, mv16d, nm17f, bo17f, mv17f, nm17o, bo17o, mv17o, nm17d, bo17d, mv17d, nm18f, bo18f, mv18f, nm18o, bo18o, mv18o, nm18d, bo18d, mv18d, nm19f, bo19f, mv19f, nm19o, bo19o, mv19o, nm19d, bo19d, mv19d, nm20f, bo20f, mv20f, nm20o, bo20o, mv20o, nm20d, bo20d, mv20d, nm21f, bo21f, mv21f, nm21o, bo21o, mv21o, nm21d, bo21d, mv21d, nm22f, bo22f, mv22f, nm22o, bo22o, mv22o, nm22d, bo22d, mv22d, nm23f, bo23f, mv23f, nm23o, bo23o, mv23o, nm23d, bo23d, mv23d, d_fr, fz_fr, isFr_fr, free_fr, d_ow, fz_ow, isFr_ow, free_ow, d_od, fz_od, isFr_od, free_od, d_bo, fz_bo, isFr_bo, free_bo, d_bd, fz_bd, isFr_bd, free_bd, w_add_i, w_add_s, w_add_l, w_add_t, w_sub, w_mul_i, w_mul_s, w_mul_l, w_mul_t, w_mod, w_fdv, w_pow, w_le_i, w_gt_i, w_ge_i, w_le_s, w_gt_s, w_ge_s, w_lt_i, w_lt_s, w_eq, w_ne, w_is_b, w_isN_b, w_in_l, w_nin_l, w_ix_l, w_ix_t, w_ix_s, w_sl_l, w_sl_t, w_sl_s, w_len_l, w_len_t, w_len_s, w_list_l, w_list_t, w_tuple_l, w_tuple_t, w_str, w_int_i, w_int_b, w_int_s, w_max2, w_max_l, w_min2, w_min_l, w_all, w_any, w_sorted_l, w_sorted_t, w_split, w_join, w_in_t, w_nin_t, w_in_ts, w_nin_ts, e_draw, e_cok_int, e_cok_bl, e_cok_str, List.map_cons, List.map_nil, List.all_cons, List.all_nil, List.length_cons, List.length_nil, List.getElem?_cons_zero, List.getElem?_cons_succ, List.set_cons_zero, List.set_cons_succ, retD, Tg.put, puts, wipeE, true_and, and_true, and_self, Bool.and_true, Bool.true_and, exists_eq_left', exists_eq_left, R.fr.injEq, R.ow.injEq, Option.some.injEq, D.bl.injEq, D.int.injEq, D.str.injEq, D.lst.injEq, D.tup.injEq, decide_eq_true_eq, if_true, exists_eq', Bool.not_true, Bool.not_false, ite_true, ite_false, if_false, Bool.false_eq_true]
    have isort_eq : ∀ {l l' : List Int}, l'.Perm l → l'.Pairwise (· ≤ ·) → isort l = l' := fun {l l'} p s => List.Perm.eq_of_pairwise (le := fun a b : Int => a ≤ b) (fun a b _ _ h1 h2 => by omega) (isort_pw l) s ((isort_perm l).trans p.symm)
    refine ⟨by rw [sizeLine_eq]; decide, [1, 10, 100], rfl, by intro n hn; simp at hn; rcases hn with rfl | rfl | rfl <;> exact ⟨by decide, by decide⟩, ?_⟩
    rintro r rfl
    rw [isort_eq (l' := [1, 10, 100]) (.refl _) (by decide), show risingL (([1, 10, 100] : List Int).map istr) = true by decide +kernel]
    try simp only [e_dSeq, e_dNext, e_dSet, e_dRet, e_dDrop, e_dIfS, e_dTgS, e_dC, e_dBin, e_dTst, e_dChn, e_dAnd, e_dOr, e_dNot, e_dAndV, e_dOrV, e_dNotV, e_dIf, e_dNil, e_dCons, e_dLst, e_dTup, e_dCB, e_dCall, e_dYes, e_dApp, e_dAug, e_dAugM, e_dIsi, e_dIsi2, e_dSl, e_dNoP, e_dPart, e_dM1, e_dFor, e_dLC, e_dIt, e_dRng1, e_dZipM, e_dRngN, e_dRev, e_dPar0, w_maxT, e_dSrtSet, e_dItS, e_dPar2, e_dPar3, e_par2, e_par3, e_dCallD, e_dCallK, e_dRng2, e_dEnum, e_dZip, nm0f, nm0o, nm0d, bo0f, bo0o, bo0d, mv0f, mv0o, mv0d, nm1f, nm1o, nm1d, bo1f, bo1o, bo1d, mv1f, mv1o, mv1d, nm2f, nm2o, nm2d, bo2f, bo2o, bo2d, mv2f, mv2o, mv2d, nm3f, nm3o, nm3d, bo3f, bo3o, bo3d, mv3f, mv3o, mv3d, nm4f, nm4o, nm4d, bo4f, bo4o, bo4d, mv4f, mv4o, mv4d, nm5f, nm5o, nm5d, bo5f, bo5o, bo5d, mv5f, mv5o, mv5d, nm6f, nm6o, nm6d, bo6f, bo6o, bo6d, mv6f, mv6o, mv6d, nm7f, nm7o, nm7d, bo7f, bo7o, bo7d, mv7f, mv7o, mv7d, nm8f, nm8o, nm8d, bo8f, bo8o, bo8d, mv8f, mv8o, mv8d, nm9f, nm9o, nm9d, bo9f, bo9o, bo9d, mv9f, mv9o, mv9d, nm10f, nm10o, nm10d, bo10f, bo10o, bo10d, mv10f, mv10o, mv10d, nm11f, nm11o, nm11d, bo11f, bo11o, bo11d, mv11f, mv11o, mv11d, nm12f, nm12o, nm12d, bo12f, bo12o, bo12d, mv12f, mv12o, mv12d, nm13f, nm13o, nm13d, bo13f, bo13o, bo13d, mv13f, mv13o, mv13d, nm14f, nm14o, nm14d, bo14f, bo14o, bo14d, mv14f, mv14o, mv14d, nm15f, nm15o, nm15d, bo15f, bo15o, bo15d, mv15f, mv15o, mv15d, nm16f, bo16f, mv16f, nm16o, bo16o, mv16o, nm16d, bo16d, mv16d, nm17f, bo17f, mv17f, nm17o, bo17o, mv17o, nm17d, bo17d, mv17d, nm18f, bo18f, mv18f, nm18o, bo18o, mv18o, nm18d, bo18d, mv18d, nm19f, bo19f, mv19f, nm19o, bo19o, mv19o, nm19d, bo19d, mv19d, nm20f, bo20f, mv20f, nm20o, bo20o, mv20o, nm20d, bo20d, mv20d, nm21f, bo21f, mv21f, nm21o, bo21o, mv21o, nm21d, bo21d, mv21d, nm22f, bo22f, mv22f, nm22o, bo22o, mv22o, nm22d, bo22d, mv22d, nm23f, bo23f, mv23f, nm23o, bo23o, mv23o, nm23d, bo23d, mv23d, d_fr, fz_fr, isFr_fr, free_fr, d_ow, fz_ow, isFr_ow, free_ow, d_od, fz_od, isFr_od, free_od, d_bo, fz_bo, isFr_bo, free_bo, d_bd, fz_bd, isFr_bd, free_bd, w_add_i, w_add_s, w_add_l, w_add_t, w_sub, w_mul_i, w_mul_s, w_mul_l, w_mul_t, w_mod, w_fdv, w_pow, w_le_i, w_gt_i, w_ge_i, w_le_s, w_gt_s, w_ge_s, w_lt_i, w_lt_s, w_eq, w_ne, w_is_b, w_isN_b, w_in_l, w_nin_l, w_ix_l, w_ix_t, w_ix_s, w_sl_l, w_sl_t, w_sl_s, w_len_l, w_len_t, w_len_s, w_list_l, w_list_t, w_tuple_l, w_tuple_t, w_str, w_int_i, w_int_b, w_int_s, w_max2, w_max_l, w_min2, w_min_l, w_all, w_any, w_sorted_l, w_sorted_t, w_split, w_join, w_in_t, w_nin_t, w_in_ts, w_nin_ts, e_draw, e_cok_int, e_cok_bl, e_cok_str, List.map_cons, List.map_nil, List.all_cons, List.all_nil, List.length_cons, List.length_nil, List.getElem?_cons_zero, List.getElem?_cons_succ, List.set_cons_zero, List.set_cons_succ, retD, Tg.put, puts, wipeE, true_and, and_true, and_self, Bool.and_true, Bool.true_and, exists_eq_left', exists_eq_left, R.fr.injEq, R.ow.injEq, Option.some.injEq, D.bl.injEq, D.int.injEq, D.str.injEq, D.lst.injEq, D.tup.injEq, decide_eq_true_eq, if_true, exists_eq', Bool.not_true, Bool.not_false, ite_true, ite_false, if_false, Bool.false_eq_true]
    refine ⟨⟨by decide, by decide, by decide⟩, by rw [sizeLine_eq]; decide, ?_⟩
    rw [show ((10 : Int) ^ (15 : Int).toNat) = 1000000000000000 from rfl]
    refine ⟨[1000000000000000, 2], rfl, by intro n hn; simp at hn; rcases hn with rfl | rfl <;> exact ⟨by decide, by decide⟩, ?_⟩
    rintro r rfl
    rw [isort_eq (l' := [2, 1000000000000000]) (List.Perm.swap ..) (by decide), show risingL (([2, 1000000000000000] : List Int).map istr) = false by decide +kernel]
    try simp only [e_dSeq, e_dNext, e_dSet, e_dRet, e_dDrop, e_dIfS, e_dTgS, e_dC, e_dBin, e_dTst, e_dChn, e_dAnd, e_dOr, e_dNot, e_dAndV, e_dOrV, e_dNotV, e_dIf, e_dNil, e_dCons, e_dLst, e_dTup, e_dCB, e_dCall, e_dYes, e_dApp, e_dAug, e_dAugM, e_dIsi, e_dIsi2, e_dSl, e_dNoP, e_dPart, e_dM1, e_dFor, e_dLC, e_dIt, e_dRng1, e_dZipM, e_dRngN, e_dRev, e_dPar0, w_maxT, e_dSrtSet, e_dItS, e_dPar2, e_dPar3, e_par2, e_par3, e_dCallD, e_dCallK, e_dRng2, e_dEnum, e_dZip, nm0f, nm0o, nm0d, bo0f, bo0o, bo0d, mv0f, mv0o, mv0d, nm1f, nm1o, nm1d, bo1f, bo1o, bo1d, mv1f, mv1o, mv1d, nm2f, nm2o, nm2d, bo2f, bo2o, bo2d, mv2f, mv2o, mv2d, nm3f, nm3o, nm3d, bo3f, bo3o, bo3d, mv3f, mv3o, mv3d, nm4f, nm4o, nm4d, bo4f, bo4o, bo4d, mv4f, mv4o, mv4d, nm5f, nm5o, nm5d, bo5f, bo5o, bo5d, mv5f, mv5o, mv5d, nm6f, nm6o, nm6d, bo6f, bo6o, bo6d, mv6f, mv6o, mv6d, nm7f, nm7o, nm7d, bo7f, bo7o, bo7d, mv7f, mv7o, mv7d, nm8f, nm8o, nm8d, bo8f, bo8o, bo8d, mv8f, mv8o, mv8d, nm9f, nm9o, nm9d, bo9f, bo9o, bo9d, mv9f, mv9o, mv9d, nm10f, nm10o, nm10d, bo10f, bo10o, bo10d, mv10f, mv10o, mv10d, nm11f, nm11o, nm11d, bo11f, bo11o, bo11d, mv11f, mv11o, mv11d, nm12f, nm12o, nm12d, bo12f, bo12o, bo12d, mv12f, mv12o, mv12d, nm13f, nm13o, nm13d, bo13f, bo13o, bo13d, mv13f, mv13o, mv13d, nm14f, nm14o, nm14d, bo14f, bo14o, bo14d, mv14f, mv14o, mv14d, nm15f, nm15o, nm15d, bo15f, bo15o, bo15d, mv15f, mv15o, mv15d, nm16f, bo16f, mv16f, nm16o, bo16o, mv16o, nm16d, bo16d, mv16d, nm17f, bo17f, mv17f, nm17o, bo17o, mv17o, nm17d, bo17d, mv17d, nm18f, bo18f, mv18f, nm18o, bo18o, mv18o, nm18d, bo18d, mv18d, nm19f, bo19f, mv19f, nm19o, bo19o, mv19o, nm19d, bo19d, mv19d, nm20f, bo20f, mv20f, nm20o, bo20o, mv20o, nm20d, bo20d, mv20d, nm21f, bo21f, mv21f, nm21o, bo21o, mv21o, nm21d, bo21d, mv21d, nm22f, bo22f, mv22f, nm22o, bo22o, mv22o, nm22d, bo22d, mv22d, nm23f, bo23f, mv23f, nm23o, bo23o, mv23o, nm23d, bo23d, mv23d, d_fr, fz_fr, isFr_fr, free_fr, d_ow, fz_ow, isFr_ow, free_ow, d_od, fz_od, isFr_od, free_od, d_bo, fz_bo, isFr_bo, free_bo, d_bd, fz_bd, isFr_bd, free_bd, w_add_i, w_add_s, w_add_l, w_add_t, w_sub, w_mul_i, w_mul_s, w_mul_l, w_mul_t, w_mod, w_fdv, w_pow, w_le_i, w_gt_i, w_ge_i, w_le_s, w_gt_s, w_ge_s, w_lt_i, w_lt_s, w_eq, w_ne, w_is_b, w_isN_b, w_in_l, w_nin_l, w_ix_l, w_ix_t, w_ix_s, w_sl_l, w_sl_t, w_sl_s, w_len_l, w_len_t, w_len_s, w_list_l, w_list_t, w_tuple_l, w_tuple_t, w_str, w_int_i, w_int_b, w_int_s, w_max2, w_max_l, w_min2, w_min_l, w_all, w_any, w_sorted_l, w_sorted_t, w_split, w_join, w_in_t, w_nin_t, w_in_ts, w_nin_ts, e_draw, e_cok_int, e_cok_bl, e_cok_str, List.map_cons, List.map_nil, List.all_cons, List.all_nil, List.length_cons, List.length_nil, List.getElem?_cons_zero, List.getElem?_cons_succ, List.set_cons_zero, List.set_cons_succ, retD, Tg.put, puts, wipeE, true_and, and_true, and_self, Bool.and_true, Bool.true_and, exists_eq_left', exists_eq_left, R.fr.injEq, R.ow.injEq, Option.some.injEq, D.bl.injEq, D.int.injEq, D.str.injEq, D.lst.injEq, D.tup.injEq, decide_eq_true_eq, if_true, exists_eq', Bool.not_true, Bool.not_false, ite_true, ite_false, if_false, Bool.false_eq_true]
    refine ⟨Nat.zero_le _, [], rfl, by simp, ?_⟩
    rintro r rfl
    rw [isort_eq (l' := []) (.refl _) (by simp)]
    try simp only [e_dSeq, e_dNext, e_dSet, e_dRet, e_dDrop, e_dIfS, e_dTgS, e_dC, e_dBin, e_dTst, e_dChn, e_dAnd, e_dOr, e_dNot, e_dAndV, e_dOrV, e_dNotV, e_dIf, e_dNil, e_dCons, e_dLst, e_dTup, e_dCB, e_dCall, e_dYes, e_dApp, e_dAug, e_dAugM, e_dIsi, e_dIsi2, e_dSl, e_dNoP, e_dPart, e_dM1, e_dFor, e_dLC, e_dIt, e_dRng1, e_dZipM, e_dRngN, e_dRev, e_dPar0, w_maxT, e_dSrtSet, e_dItS, e_dPar2, e_dPar3, e_par2, e_par3, e_dCallD, e_dCallK, e_dRng2, e_dEnum, e_dZip, nm0f, nm0o, nm0d, bo0f, bo0o, bo0d, mv0f, mv0o, mv0d, nm1f, nm1o, nm1d, bo1f, bo1o, bo1d, mv1f, mv1o, mv1d, nm2f, nm2o, nm2d, bo2f, bo2o, bo2d, mv2f, mv2o, mv2d, nm3f, nm3o, nm3d, bo3f, bo3o, bo3d, mv3f, mv3o, mv3d, nm4f, nm4o, nm4d, bo4f, bo4o, bo4d, mv4f, mv4o, mv4d, nm5f, nm5o, nm5d, bo5f, bo5o, bo5d, mv5f, mv5o, mv5d, nm6f, nm6o, nm6d, bo6f, bo6o, bo6d, mv6f, mv6o, mv6d, nm7f, nm7o, nm7d, bo7f, bo7o, bo7d, mv7f, mv7o, mv7d, nm8f, nm8o, nm8d, bo8f, bo8o, bo8d, mv8f, mv8o, mv8d, nm9f, nm9o, nm9d, bo9f, bo9o, bo9d, mv9f, mv9o, mv9d, nm10f, nm10o, nm10d, bo10f, bo10o, bo10d, mv10f, mv10o, mv10d, nm11f, nm11o, nm11d, bo11f, bo11o, bo11d, mv11f, mv11o, mv11d, nm12f, nm12o, nm12d, bo12f, bo12o, bo12d, mv12f, mv12o, mv12d, nm13f, nm13o, nm13d, bo13f, bo13o, bo13d, mv13f, mv13o, mv13d, nm14f, nm14o, nm14d, bo14f, bo14o, bo14d, mv14f, mv14o, mv14d, nm15f, nm15o, nm15d, bo15f, bo15o, bo15d, mv15f, mv15o, mv15d, nm16f, bo16f, mv16f, nm16o, bo16o, mv16o, nm16d, bo16d, mv16d, nm17f, bo17f, mv17f, nm17o, bo17o, mv17o, nm17d, bo17d, mv17d, nm18f, bo18f, mv18f, nm18o, bo18o, mv18o, nm18d, bo18d, mv18d, nm19f, bo19f, mv19f, nm19o, bo19o, mv19o, nm19d, bo19d, mv19d, nm20f, bo20f, mv20f, nm20o, bo20o, mv20o, nm20d, bo20d, mv20d, nm21f, bo21f, mv21f, nm21o, bo21o, mv21o, nm21d, bo21d, mv21d, nm22f, bo22f, mv22f, nm22o, bo22o, mv22o, nm22d, bo22d, mv22d, nm23f, bo23f, mv23f, nm23o, bo23o, mv23o, nm23d, bo23d, mv23d, d_fr, fz_fr, isFr_fr, free_fr, d_ow, fz_ow, isFr_ow, free_ow, d_od, fz_od, isFr_od, free_od, d_bo, fz_bo, isFr_bo, free_bo, d_bd, fz_bd, isFr_bd, free_bd, w_add_i, w_add_s, w_add_l, w_add_t, w_sub, w_mul_i, w_mul_s, w_mul_l, w_mul_t, w_mod, w_fdv, w_pow, w_le_i, w_gt_i, w_ge_i, w_le_s, w_gt_s, w_ge_s, w_lt_i, w_lt_s, w_eq, w_ne, w_is_b, w_isN_b, w_in_l, w_nin_l, w_ix_l, w_ix_t, w_ix_s, w_sl_l, w_sl_t, w_sl_s, w_len_l, w_len_t, w_len_s, w_list_l, w_list_t, w_tuple_l, w_tuple_t, w_str, w_int_i, w_int_b, w_int_s, w_max2, w_max_l, w_min2, w_min_l, w_all, w_any, w_sorted_l, w_sorted_t, w_split, w_join, w_in_t, w_nin_t, w_in_ts, w_nin_ts, e_draw, e_cok_int, e_cok_bl, e_cok_str, List.map_cons, List.map_nil, List.all_cons, List.all_nil, List.length_cons, List.length_nil, List.getElem?_cons_zero, List.getElem?_cons_succ, List.set_cons_zero, List.set_cons_succ, retD, Tg.put, puts, wipeE, true_and, and_true, and_self, Bool.and_true, Bool.true_and, exists_eq_left', exists_eq_left, R.fr.injEq, R.ow.injEq, Option.some.injEq, D.bl.injEq, D.int.injEq, D.str.injEq, D.lst.injEq, D.tup.injEq, decide_eq_true_eq, if_true, exists_eq', Bool.not_true, Bool.not_false, ite_true, ite_false, if_false, Bool.false_eq_true]
    rfl
end
theorem all__law_like {P : Program} {w : World} {K : PySem.W.Frag} {mg : Str → Option Value} {base : Heap} {f : Addr} {fd : FuncData} {k : Nat} (F : Fun K "_law_like" "_law_like" s__law_like f fd) (b : Binds K fd ["one", "two"] []) (m : mg "_law_like" = some (.ref f)) (kp : PySem.W.keepIn K (.ref f) = true) (B : Bl mg) : ∀ n : Nat, Cal P w K mg base (k + n) "_law_like" ["one", "two"] f fd (sp__law_like n)
  | 0 => ⟨⟨fun vs H Q E h => by obtain ⟨T, L, ns, F, ds, pre, a, x, e, hx, q⟩ := h; exact absurd hx.1 (by simp [plain]), fun A outer s H args us vs Q E hr he hb hv h => by obtain ⟨T, L, ns, F, ds, pre, a, x, e, hx, q⟩ := h; exact absurd hx.1 (by simp [plain])⟩, SP_mono, m, kp, b⟩
  | n + 1 => cal__law_like F b m kp B (all__law_like F b m kp B n)
theorem all__law_all_agree {P : Program} {w : World} {K : PySem.W.Frag} {mg : Str → Option Value} {base : Heap} {f : Addr} {fd : FuncData} {f__law_rule : Addr} {fd__law_rule : FuncData} {k : Nat} (F : Fun K "_law_all_agree" "_law_all_agree" s__law_all_agree f fd) (b : Binds K fd ["rows"] []) (m : mg "_law_all_agree" = some (.ref f)) (kp : PySem.W.keepIn K (.ref f) = true) (B : Bl mg) (C__law_rule : Cal P w K mg base k "_law_rule" ["values"] f__law_rule fd__law_rule sp__law_rule) : ∀ n : Nat, Cal P w K mg base (k + n) "_law_all_agree" ["rows"] f fd (sp__law_all_agree n)
  | 0 => ⟨⟨fun vs H Q E h => by obtain ⟨T, L, ns, F, ds, pre, a, x, e, hx, q⟩ := h; exact absurd hx.1 (by simp [Nat.lt_irrefl]), fun A outer s H args us vs Q E hr he hb hv h => by obtain ⟨T, L, ns, F, ds, pre, a, x, e, hx, q⟩ := h; exact absurd hx.1 (by simp [Nat.lt_irrefl])⟩, SP_mono, m, kp, b⟩
  | n + 1 => cal__law_all_agree F b m kp B (C__law_rule.up (Nat.le_add_right _ _)) (all__law_all_agree F b m kp B C__law_rule n)
theorem all_mk {l : PySem.W.OpenLaw} {w : World} {K : PySem.W.Frag} {h : Heap} {mg : Str → Option Value} {fa f_numbers f_by_number f_by_text f_agree f_is_rising f_is_agreeing f_threshold f__law_draw f__law_like f__law_number f__law_row f__law_rows f__law_write f__law_plain f__law_singles f__law_least f__law_rule f__law_all_agree f_law : Addr} (X : K.In h) (G : h.Ns mainGlobals mg) (hfa : mg "law" = some (.ref fa))
     {od0 an0 od1 an1 od2 an2 od3 an3 od4 an4 od5 an5 od6 an6 od7 an7 od8 an8 od9 an9 od10 an10 od11 an11 od12 an12 od13 an13 od14 an14 od15 an15 od16 an16 od17 an17 od18 an18 : Option Addr} {sl0 sl1 sl2 sl3 sl4 sl5 sl6 sl7 sl8 sl9 sl10 sl11 sl12 sl13 sl14 sl15 sl16 sl17 sl18 : Array (Option Value)} {oc0 kV0 dc0 pm0 cd0 ct0 oc1 kV1 dc1 pm1 cd1 ct1 oc2 kV2 dc2 pm2 cd2 ct2 oc3 kV3 dc3 pm3 cd3 ct3 oc4 kV4 dc4 pm4 cd4 ct4 oc5 kV5 dc5 pm5 cd5 ct5 oc6 kV6 dc6 pm6 cd6 ct6 oc7 kV7 dc7 pm7 cd7 ct7 oc8 kV8 dc8 pm8 cd8 ct8 oc9 kV9 dc9 pm9 cd9 ct9 oc10 kV10 dc10 pm10 cd10 ct10 oc11 kV11 dc11 pm11 cd11 ct11 oc12 kV12 dc12 pm12 cd12 ct12 oc13 kV13 dc13 pm13 cd13 ct13 oc14 kV14 dc14 pm14 cd14 ct14 oc15 kV15 dc15 pm15 cd15 ct15 oc16 kV16 dc16 pm16 cd16 ct16 oc17 kV17 dc17 pm17 cd17 ct17 oc18 kV18 dc18 pm18 cd18 ct18 : Value}
    (a0 : PySem.W.nsIn K mainGlobals "numbers" = some (some (.ref f_numbers))) (l0 : K.lookup f_numbers = some ⟨oc0, od0, .func (PySem.W.fnOf "numbers" "numbers" (defArgs s_numbers) (defBody s_numbers) (defScope s_numbers) .none (kV0) dc0 pm0 an0 cd0 ct0), sl0⟩) (c0 : PySem.W.codeIn K cd0 "numbers" = true) (k0 : PySem.W.keepIn K (.ref f_numbers) = true)
    (a1 : PySem.W.nsIn K mainGlobals "by_number" = some (some (.ref f_by_number))) (l1 : K.lookup f_by_number = some ⟨oc1, od1, .func (PySem.W.fnOf "by_number" "by_number" (defArgs s_by_number) (defBody s_by_number) (defScope s_by_number) .none (kV1) dc1 pm1 an1 cd1 ct1), sl1⟩) (c1 : PySem.W.codeIn K cd1 "by_number" = true) (k1 : PySem.W.keepIn K (.ref f_by_number) = true)
    (a2 : PySem.W.nsIn K mainGlobals "by_text" = some (some (.ref f_by_text))) (l2 : K.lookup f_by_text = some ⟨oc2, od2, .func (PySem.W.fnOf "by_text" "by_text" (defArgs s_by_text) (defBody s_by_text) (defScope s_by_text) .none (kV2) dc2 pm2 an2 cd2 ct2), sl2⟩) (c2 : PySem.W.codeIn K cd2 "by_text" = true) (k2 : PySem.W.keepIn K (.ref f_by_text) = true)
    (a3 : PySem.W.nsIn K mainGlobals "agree" = some (some (.ref f_agree))) (l3 : K.lookup f_agree = some ⟨oc3, od3, .func (PySem.W.fnOf "agree" "agree" (defArgs s_agree) (defBody s_agree) (defScope s_agree) .none (kV3) dc3 pm3 an3 cd3 ct3), sl3⟩) (c3 : PySem.W.codeIn K cd3 "agree" = true) (k3 : PySem.W.keepIn K (.ref f_agree) = true)
    (a4 : PySem.W.nsIn K mainGlobals "is_rising" = some (some (.ref f_is_rising))) (l4 : K.lookup f_is_rising = some ⟨oc4, od4, .func (PySem.W.fnOf "is_rising" "is_rising" (defArgs s_is_rising) (defBody s_is_rising) (defScope s_is_rising) .none (kV4) dc4 pm4 an4 cd4 ct4), sl4⟩) (c4 : PySem.W.codeIn K cd4 "is_rising" = true) (k4 : PySem.W.keepIn K (.ref f_is_rising) = true)
    (a5 : PySem.W.nsIn K mainGlobals "is_agreeing" = some (some (.ref f_is_agreeing))) (l5 : K.lookup f_is_agreeing = some ⟨oc5, od5, .func (PySem.W.fnOf "is_agreeing" "is_agreeing" (defArgs s_is_agreeing) (defBody s_is_agreeing) (defScope s_is_agreeing) .none (kV5) dc5 pm5 an5 cd5 ct5), sl5⟩) (c5 : PySem.W.codeIn K cd5 "is_agreeing" = true) (k5 : PySem.W.keepIn K (.ref f_is_agreeing) = true)
    (a6 : PySem.W.nsIn K mainGlobals "threshold" = some (some (.ref f_threshold))) (l6 : K.lookup f_threshold = some ⟨oc6, od6, .func (PySem.W.fnOf "threshold" "threshold" (defArgs s_threshold) (defBody s_threshold) (defScope s_threshold) .none (kV6) dc6 pm6 an6 cd6 ct6), sl6⟩) (c6 : PySem.W.codeIn K cd6 "threshold" = true) (k6 : PySem.W.keepIn K (.ref f_threshold) = true)
    (a7 : PySem.W.nsIn K mainGlobals "_law_draw" = some (some (.ref f__law_draw))) (l7 : K.lookup f__law_draw = some ⟨oc7, od7, .func (PySem.W.fnOf "_law_draw" "_law_draw" (defArgs s__law_draw) (defBody s__law_draw) (defScope s__law_draw) .none (kV7) dc7 pm7 an7 cd7 ct7), sl7⟩) (c7 : PySem.W.codeIn K cd7 "_law_draw" = true) (k7 : PySem.W.keepIn K (.ref f__law_draw) = true)
    (a8 : PySem.W.nsIn K mainGlobals "_law_like" = some (some (.ref f__law_like))) (l8 : K.lookup f__law_like = some ⟨oc8, od8, .func (PySem.W.fnOf "_law_like" "_law_like" (defArgs s__law_like) (defBody s__law_like) (defScope s__law_like) .none (kV8) dc8 pm8 an8 cd8 ct8), sl8⟩) (c8 : PySem.W.codeIn K cd8 "_law_like" = true) (k8 : PySem.W.keepIn K (.ref f__law_like) = true)
    (a9 : PySem.W.nsIn K mainGlobals "_law_number" = some (some (.ref f__law_number))) (l9 : K.lookup f__law_number = some ⟨oc9, od9, .func (PySem.W.fnOf "_law_number" "_law_number" (defArgs s__law_number) (defBody s__law_number) (defScope s__law_number) .none (kV9) dc9 pm9 an9 cd9 ct9), sl9⟩) (c9 : PySem.W.codeIn K cd9 "_law_number" = true) (k9 : PySem.W.keepIn K (.ref f__law_number) = true)
    (a10 : PySem.W.nsIn K mainGlobals "_law_row" = some (some (.ref f__law_row))) (l10 : K.lookup f__law_row = some ⟨oc10, od10, .func (PySem.W.fnOf "_law_row" "_law_row" (defArgs s__law_row) (defBody s__law_row) (defScope s__law_row) .none (kV10) dc10 pm10 an10 cd10 ct10), sl10⟩) (c10 : PySem.W.codeIn K cd10 "_law_row" = true) (k10 : PySem.W.keepIn K (.ref f__law_row) = true)
    (a11 : PySem.W.nsIn K mainGlobals "_law_rows" = some (some (.ref f__law_rows))) (l11 : K.lookup f__law_rows = some ⟨oc11, od11, .func (PySem.W.fnOf "_law_rows" "_law_rows" (defArgs s__law_rows) (defBody s__law_rows) (defScope s__law_rows) .none (kV11) dc11 pm11 an11 cd11 ct11), sl11⟩) (c11 : PySem.W.codeIn K cd11 "_law_rows" = true) (k11 : PySem.W.keepIn K (.ref f__law_rows) = true)
    (a12 : PySem.W.nsIn K mainGlobals "_law_write" = some (some (.ref f__law_write))) (l12 : K.lookup f__law_write = some ⟨oc12, od12, .func (PySem.W.fnOf "_law_write" "_law_write" (defArgs s__law_write) (defBody s__law_write) (defScope s__law_write) .none (kV12) dc12 pm12 an12 cd12 ct12), sl12⟩) (c12 : PySem.W.codeIn K cd12 "_law_write" = true) (k12 : PySem.W.keepIn K (.ref f__law_write) = true)
    (a13 : PySem.W.nsIn K mainGlobals "_law_plain" = some (some (.ref f__law_plain))) (l13 : K.lookup f__law_plain = some ⟨oc13, od13, .func (PySem.W.fnOf "_law_plain" "_law_plain" (defArgs s__law_plain) (defBody s__law_plain) (defScope s__law_plain) .none (kV13) dc13 pm13 an13 cd13 ct13), sl13⟩) (c13 : PySem.W.codeIn K cd13 "_law_plain" = true) (k13 : PySem.W.keepIn K (.ref f__law_plain) = true)
    (a14 : PySem.W.nsIn K mainGlobals "_law_singles" = some (some (.ref f__law_singles))) (l14 : K.lookup f__law_singles = some ⟨oc14, od14, .func (PySem.W.fnOf "_law_singles" "_law_singles" (defArgs s__law_singles) (defBody s__law_singles) (defScope s__law_singles) .none (kV14) dc14 pm14 an14 cd14 ct14), sl14⟩) (c14 : PySem.W.codeIn K cd14 "_law_singles" = true) (k14 : PySem.W.keepIn K (.ref f__law_singles) = true)
    (a15 : PySem.W.nsIn K mainGlobals "_law_least" = some (some (.ref f__law_least))) (l15 : K.lookup f__law_least = some ⟨oc15, od15, .func (PySem.W.fnOf "_law_least" "_law_least" (defArgs s__law_least) (defBody s__law_least) (defScope s__law_least) .none (kV15) dc15 pm15 an15 cd15 ct15), sl15⟩) (c15 : PySem.W.codeIn K cd15 "_law_least" = true) (k15 : PySem.W.keepIn K (.ref f__law_least) = true)
    (a16 : PySem.W.nsIn K mainGlobals "_law_rule" = some (some (.ref f__law_rule))) (l16 : K.lookup f__law_rule = some ⟨oc16, od16, .func (PySem.W.fnOf "_law_rule" "_law_rule" (defArgs s__law_rule) (defBody s__law_rule) (defScope s__law_rule) .none (kV16) dc16 pm16 an16 cd16 ct16), sl16⟩) (c16 : PySem.W.codeIn K cd16 "_law_rule" = true) (k16 : PySem.W.keepIn K (.ref f__law_rule) = true)
    (a17 : PySem.W.nsIn K mainGlobals "_law_all_agree" = some (some (.ref f__law_all_agree))) (l17 : K.lookup f__law_all_agree = some ⟨oc17, od17, .func (PySem.W.fnOf "_law_all_agree" "_law_all_agree" (defArgs s__law_all_agree) (defBody s__law_all_agree) (defScope s__law_all_agree) .none (kV17) dc17 pm17 an17 cd17 ct17), sl17⟩) (c17 : PySem.W.codeIn K cd17 "_law_all_agree" = true) (k17 : PySem.W.keepIn K (.ref f__law_all_agree) = true)
    (a18 : PySem.W.nsIn K mainGlobals "law" = some (some (.ref f_law))) (l18 : K.lookup f_law = some ⟨oc18, od18, .func (PySem.W.fnOf "law" "law" (defArgs s_law) (defBody s_law) (defScope s_law) .none (kV18) dc18 pm18 an18 cd18 ct18), sl18⟩) (c18 : PySem.W.codeIn K cd18 "law" = true) (k18 : PySem.W.keepIn K (.ref f_law) = true)
    (z_all : PySem.W.nsIn K mainGlobals "all" = some none)
    (z_bool : PySem.W.nsIn K mainGlobals "bool" = some none)
    (z_enumerate : PySem.W.nsIn K mainGlobals "enumerate" = some none)
    (z_int : PySem.W.nsIn K mainGlobals "int" = some none)
    (z_isinstance : PySem.W.nsIn K mainGlobals "isinstance" = some none)
    (z_len : PySem.W.nsIn K mainGlobals "len" = some none)
    (z_list : PySem.W.nsIn K mainGlobals "list" = some none)
    (z_max : PySem.W.nsIn K mainGlobals "max" = some none)
    (z_range : PySem.W.nsIn K mainGlobals "range" = some none)
    (z_set : PySem.W.nsIn K mainGlobals "set" = some none)
    (z_sorted : PySem.W.nsIn K mainGlobals "sorted" = some none)
    (z_str : PySem.W.nsIn K mainGlobals "str" = some none)
    (z_tuple : PySem.W.nsIn K mainGlobals "tuple" = some none)
    (z_zip : PySem.W.nsIn K mainGlobals "zip" = some none) :
    ∃ fd : FuncData, (∀ (s : Shared) (v : Value), BindsTo s fd ⟨[v], []⟩ [("script", v)]) ∧ ∀ base : Heap, K.In base → base.Ns mainGlobals mg → FnOk l.prog w K mg base CX0 10 fa fd ["script"] (spLaw K) := by
  have e := hfa.symm.trans (PySem.W.mg_of X G a18)
  cases e
  have F0 := fun_mk (st := s_numbers) l0 c0 k0
  have b0 := F0.binds (ps := ["name"]) fun _ _ _ _ _ _ us hl => match us, hl with | [_], _ => rfl
  have F1 := fun_mk (st := s_by_number) l1 c1 k1
  have b1 := F1.binds (ps := ["names"]) fun _ _ _ _ _ _ us hl => match us, hl with | [_], _ => rfl
  have F2 := fun_mk (st := s_by_text) l2 c2 k2
  have b2 := F2.binds (ps := ["names"]) fun _ _ _ _ _ _ us hl => match us, hl with | [_], _ => rfl
  have F3 := fun_mk (st := s_agree) l3 c3 k3
  have b3 := F3.binds (ps := ["names"]) fun _ _ _ _ _ _ us hl => match us, hl with | [_], _ => rfl
  have F4 := fun_mk (st := s_is_rising) l4 c4 k4
  have b4 := F4.binds (ps := ["texts"]) fun _ _ _ _ _ _ us hl => match us, hl with | [_], _ => rfl
  have F5 := fun_mk (st := s_is_agreeing) l5 c5 k5
  have b5 := F5.binds (ps := ["values"]) fun _ _ _ _ _ _ us hl => match us, hl with | [_], _ => rfl
  have F6 := fun_mk (st := s_threshold) l6 c6 k6
  have b6 := F6.binds (ps := ["values"]) fun _ _ _ _ _ _ us hl => match us, hl with | [_], _ => rfl
  have F7 := fun_mk (st := s__law_draw) l7 c7 k7
  have b7 := F7.binds (ps := ["tape", "many"]) fun _ _ _ _ _ _ us hl => match us, hl with | [_, _], _ => rfl
  have F8 := fun_mk (st := s__law_like) l8 c8 k8
  have b8 := F8.binds (ps := ["one", "two"]) fun _ _ _ _ _ _ us hl => match us, hl with | [_, _], _ => rfl
  have F9 := fun_mk (st := s__law_number) l9 c9 k9
  have b9 := F9.binds (ps := ["tape"]) fun _ _ _ _ _ _ us hl => match us, hl with | [_], _ => rfl
  have F10 := fun_mk (st := s__law_row) l10 c10 k10
  have b10 := F10.binds (ps := ["tape", "wide"]) fun _ _ _ _ _ _ us hl => match us, hl with | [_, _], _ => rfl
  have F11 := fun_mk (st := s__law_rows) l11 c11 k11
  have b11 := F11.binds (ps := ["tape", "most", "wide"]) fun _ _ _ _ _ _ us hl => match us, hl with | [_, _, _], _ => rfl
  have F12 := fun_mk (st := s__law_write) l12 c12 k12
  have b12 := F12.binds (ps := ["row", "zeros"]) fun _ _ _ _ _ _ us hl => match us, hl with | [_, _], _ => rfl
  have F13 := fun_mk (st := s__law_plain) l13 c13 k13
  have b13 := F13.binds (ps := ["rows"]) fun _ _ _ _ _ _ us hl => match us, hl with | [_], _ => rfl
  have F14 := fun_mk (st := s__law_singles) l14 c14 k14
  have b14 := F14.binds (ps := ["tape", "most"]) fun _ _ _ _ _ _ us hl => match us, hl with | [_, _], _ => rfl
  have F15 := fun_mk (st := s__law_least) l15 c15 k15
  have b15 := F15.binds (ps := ["values"]) fun _ _ _ _ _ _ us hl => match us, hl with | [_], _ => rfl
  have F16 := fun_mk (st := s__law_rule) l16 c16 k16
  have b16 := F16.binds (ps := ["values"]) fun _ _ _ _ _ _ us hl => match us, hl with | [_], _ => rfl
  have F17 := fun_mk (st := s__law_all_agree) l17 c17 k17
  have b17 := F17.binds (ps := ["rows"]) fun _ _ _ _ _ _ us hl => match us, hl with | [_], _ => rfl
  have F18 := fun_mk (st := s_law) l18 c18 k18
  have B : Bl mg := ⟨PySem.W.mg_none_of X G z_all, PySem.W.mg_none_of X G z_bool, PySem.W.mg_none_of X G z_enumerate, PySem.W.mg_none_of X G z_int, PySem.W.mg_none_of X G z_isinstance, PySem.W.mg_none_of X G z_len, PySem.W.mg_none_of X G z_list, PySem.W.mg_none_of X G z_max, PySem.W.mg_none_of X G z_range, PySem.W.mg_none_of X G z_set, PySem.W.mg_none_of X G z_sorted, PySem.W.mg_none_of X G z_str, PySem.W.mg_none_of X G z_tuple, PySem.W.mg_none_of X G z_zip⟩
  refine ⟨PySem.W.fnOf "law" "law" (defArgs s_law) (defBody s_law) (defScope s_law) .none kV18 dc18 pm18 an18 cd18 ct18, fun s v => .of_eq rfl, fun base _ _ => ?_⟩
  have C_numbers := cal_numbers (P := l.prog) (w := w) (base := base) (k := 0) F0 b0 (PySem.W.mg_of X G a0) k0 B
  have C_by_number := cal_by_number (P := l.prog) (w := w) (base := base) (k := 1) F1 b1 (PySem.W.mg_of X G a1) k1 B (C_numbers.up (by decide))
  have C_by_text := cal_by_text (P := l.prog) (w := w) (base := base) (k := 0) F2 b2 (PySem.W.mg_of X G a2) k2 B
  have C_agree := cal_agree (P := l.prog) (w := w) (base := base) (k := 2) F3 b3 (PySem.W.mg_of X G a3) k3 B (C_by_number.up (by decide)) (C_by_text.up (by decide))
  have C_is_rising := cal_is_rising (P := l.prog) (w := w) (base := base) (k := 0) F4 b4 (PySem.W.mg_of X G a4) k4 B
  have C_is_agreeing := cal_is_agreeing (P := l.prog) (w := w) (base := base) (k := 1) F5 b5 (PySem.W.mg_of X G a5) k5 B (C_is_rising.up (by decide))
  have C_threshold := cal_threshold (P := l.prog) (w := w) (base := base) (k := 0) F6 b6 (PySem.W.mg_of X G a6) k6 B
  have C__law_draw := cal__law_draw (P := l.prog) (w := w) (base := base) (k := 0) F7 b7 (PySem.W.mg_of X G a7) k7 B
  have C__law_like := all__law_like (P := l.prog) (w := w) (base := base) (k := 1) F8 b8 (PySem.W.mg_of X G a8) k8 B 8
  have C__law_number := cal__law_number (P := l.prog) (w := w) (base := base) (k := 1) F9 b9 (PySem.W.mg_of X G a9) k9 B (C__law_draw.up (by decide))
  have C__law_row := cal__law_row (P := l.prog) (w := w) (base := base) (k := 2) F10 b10 (PySem.W.mg_of X G a10) k10 B (C__law_draw.up (by decide)) (C__law_number.up (by decide))
  have C__law_rows := cal__law_rows (P := l.prog) (w := w) (base := base) (k := 3) F11 b11 (PySem.W.mg_of X G a11) k11 B (C__law_draw.up (by decide)) (C__law_row.up (by decide))
  have C__law_write := cal__law_write (P := l.prog) (w := w) (base := base) (k := 0) F12 b12 (PySem.W.mg_of X G a12) k12 B
  have C__law_plain := cal__law_plain (P := l.prog) (w := w) (base := base) (k := 1) F13 b13 (PySem.W.mg_of X G a13) k13 B (C__law_write.up (by decide))
  have C__law_singles := cal__law_singles (P := l.prog) (w := w) (base := base) (k := 2) F14 b14 (PySem.W.mg_of X G a14) k14 B (C__law_draw.up (by decide)) (C__law_number.up (by decide))
  have C__law_least := cal__law_least (P := l.prog) (w := w) (base := base) (k := 0) F15 b15 (PySem.W.mg_of X G a15) k15 B
  have C__law_rule := cal__law_rule (P := l.prog) (w := w) (base := base) (k := 0) F16 b16 (PySem.W.mg_of X G a16) k16 B
  have C__law_all_agree := all__law_all_agree (P := l.prog) (w := w) (base := base) (k := 2) F17 b17 (PySem.W.mg_of X G a17) k17 B (C__law_rule.up (by decide)) 5
  exact ok_Law (k := 9) F18 B (C__law_singles.up (by decide)) (C__law_like.up (by decide)) (C__law_rule.up (by decide)) (C_is_agreeing.up (by decide)) (C_threshold.up (by decide)) (C__law_least.up (by decide)) (C__law_rows.up (by decide)) (C_agree.up (by decide)) (C__law_plain.up (by decide)) (C__law_all_agree.up (by decide))
end DL.K

open PySem PySem.W PyProof.Rows
set_option maxHeartbeats 0 in
theorem PySem.Challenge.cw_textnumbers_k04_whole_numbers_that_agree_holds : PySem.Challenge.rw_textnumbers_k04_whole_numbers_that_agree.Holds := by
  w_on; o_law; k_head; (case hw => w_witness2)
  k_fill
  refine L2.walk_of (l := PySem.Challenge.rw_textnumbers_k04_whole_numbers_that_agree) (n := 63) (k := 10) (x := "script") (CX := fun _ => L2.CX0) (sp := fun w => DL.spLaw _) rfl (by decide) rfl ⟨rfl, by decide, by decide⟩ (fun w h Y => PySem.W.kIn_of Y) ?F (fun _ _ a ns hl _ hS => ⟨a, ns, rfl, hS, hl, fun _ => rfl⟩) (fun _ _ _ _ _ h => h)
  case F =>
    intro w mg fa h KX G hmg
    refine' DL.K.all_mk KX G hmg ?a0 ?l0 ?c0 ?k0 ?a1 ?l1 ?c1 ?k1 ?a2 ?l2 ?c2 ?k2 ?a3 ?l3 ?c3 ?k3 ?a4 ?l4 ?c4 ?k4 ?a5 ?l5 ?c5 ?k5 ?a6 ?l6 ?c6 ?k6 ?a7 ?l7 ?c7 ?k7 ?a8 ?l8 ?c8 ?k8 ?a9 ?l9 ?c9 ?k9 ?a10 ?l10 ?c10 ?k10 ?a11 ?l11 ?c11 ?k11 ?a12 ?l12 ?c12 ?k12 ?a13 ?l13 ?c13 ?k13 ?a14 ?l14 ?c14 ?k14 ?a15 ?l15 ?c15 ?k15 ?a16 ?l16 ?c16 ?k16 ?a17 ?l17 ?c17 ?k17 ?a18 ?l18 ?c18 ?k18 ?z_all ?z_bool ?z_enumerate ?z_int ?z_isinstance ?z_len ?z_list ?z_max ?z_range ?z_set ?z_sorted ?z_str ?z_tuple ?z_zip
    (case a0 => k_is); (case l0 => k_is); (case c0 => k_is); (case k0 => k_is); (case a1 => k_is); (case l1 => k_is); (case c1 => k_is); (case k1 => k_is); (case a2 => k_is); (case l2 => k_is); (case c2 => k_is); (case k2 => k_is); (case a3 => k_is); (case l3 => k_is); (case c3 => k_is); (case k3 => k_is); (case a4 => k_is); (case l4 => k_is); (case c4 => k_is); (case k4 => k_is); (case a5 => k_is); (case l5 => k_is); (case c5 => k_is); (case k5 => k_is); (case a6 => k_is); (case l6 => k_is); (case c6 => k_is); (case k6 => k_is); (case a7 => k_is); (case l7 => k_is); (case c7 => k_is); (case k7 => k_is); (case a8 => k_is); (case l8 => k_is); (case c8 => k_is); (case k8 => k_is); (case a9 => k_is); (case l9 => k_is); (case c9 => k_is); (case k9 => k_is); (case a10 => k_is); (case l10 => k_is); (case c10 => k_is); (case k10 => k_is); (case a11 => k_is); (case l11 => k_is); (case c11 => k_is); (case k11 => k_is); (case a12 => k_is); (case l12 => k_is); (case c12 => k_is); (case k12 => k_is); (case a13 => k_is); (case l13 => k_is); (case c13 => k_is); (case k13 => k_is); (case a14 => k_is); (case l14 => k_is); (case c14 => k_is); (case k14 => k_is); (case a15 => k_is); (case l15 => k_is); (case c15 => k_is); (case k15 => k_is); (case a16 => k_is); (case l16 => k_is); (case c16 => k_is); (case k16 => k_is); (case a17 => k_is); (case l17 => k_is); (case c17 => k_is); (case k17 => k_is); (case a18 => k_is); (case l18 => k_is); (case c18 => k_is); (case k18 => k_is); (case z_all => k_is); (case z_bool => k_is); (case z_enumerate => k_is); (case z_int => k_is); (case z_isinstance => k_is); (case z_len => k_is); (case z_list => k_is); (case z_max => k_is); (case z_range => k_is); (case z_set => k_is); (case z_sorted => k_is); (case z_str => k_is); (case z_tuple => k_is); (case z_zip => k_is)
