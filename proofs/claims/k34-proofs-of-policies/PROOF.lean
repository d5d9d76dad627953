import PyProof.Rows.All
import Wide.All
import OpenK.AllK
import Wide.FinOn
import HandS.ForMost
import HandS.ForExc
import HandS.Lambda
import KE.KNest
import HandS.Wide
import HandS.WideBits
import HandS.IsInst
import HandS.Gcd
import HandS.TupAny
import HandS.Codes
import HandS.Zip
import HandS.SortInts
import HandS.EndTab
import KE.GoesEnum
import KE.KMathGC
import KE.GoesZip
import HandS.DictComp
import HandS.More
import HandS.Iter
import HandS.ExcInit
import HandS.ExcSuper
import HandS.ExcField
import HandS.TryMany
import HandS.Flow
import HandS.Style
import KE.GoesMore
import PySem.Challenge.RW_mendplan_k34_proofs_of_policies
set_option Elab.async false
set_option linter.all false
set_option maxRecDepth 100000
set_option maxHeartbeats 4000000
/-! LayA: data, cells, worlds; what a value of the program stands for. -/
namespace Mp
open PySem PySem.Spec PyProof.Rows L2

inductive D where
  | non | bl (b : Bool) | int (i : Int) | str (x : Str) | tup (xs : List D) | lst (xs : List D) | scr (xs : List D) | dct (ks : List Key) (ds : List D) | ref (n : Nat) | ty (n : String)
  deriving Inhabited
inductive C where
  | lst (xs : List D) | dct (ks : List Key) (ds : List D)
  deriving Inhabited
abbrev Hc := List C
abbrev Sl := List (Option D)
/-- what an expression comes to -/
inductive R (α : Type) where
  | ok (a : α) (h : Hc) | ex (x : Str) (fs : List Str) (ds : List D) (h : Hc) | bad
def R.bd {α β : Type} (r : R α) (f : α → Hc → R β) : R β := match r with
  | .ok a h => f a h
  | .ex x fs ds h => .ex x fs ds h
  | .bad => .bad
@[simp] theorem R.bd_ok {α β : Type} (a : α) (h : Hc) (f : α → Hc → R β) : (R.ok a h).bd f = f a h := Eq.trans rfl rfl
/-- where the law's table of code objects stands -/
def tabT (K : PySem.W.Frag) : List (Addr × Str) := match PySem.W.tabIn K "law" with
  | some (_, P) => [(P, "law.<locals>.<lambda>")]
  | none => []
abbrev TabsK (K : PySem.W.Frag) (H : Hp) : Prop := LamX.Tabs (tabT K) H
/-- a world: the addresses that may change, where the cells stand, how many, the tracked heap -/
structure Wo where
  A : Addr → Prop
  β : Nat → Addr
  n : Nat
  H : Hp
structure Ext (ω ω' : Wo) : Prop where
  n : ω.n ≤ ω'.n
  b : ∀ i, i < ω.n → ω'.β i = ω.β i
  a : ∀ q, ω.A q → ω'.A q
  aN : ∀ q, ω'.A q → ω.A q ∨ ω.H q = none
  nw : ∀ i, ω.n ≤ i → i < ω'.n → ω.H (ω'.β i) = none
  dom : ∀ q, ω'.H q = none → ω.H q = none
  keep : ∀ q o, ω.H q = some o → (∀ ps, o ≠ .tbl ps) → (∀ i, i < ω.n → ω.β i ≠ q) → ω'.H q = some o
theorem Ext.refl (ω : Wo) : Ext ω ω := ⟨Nat.le_refl _, fun _ _ => rfl, fun _ h => h, fun _ h => .inl h, fun i h1 h2 => absurd h2 (Nat.not_lt.mpr h1), fun _ h => h, fun _ _ h _ _ => h⟩
theorem Ext.trans {ω ω1 ω2 : Wo} (x : Ext ω ω1) (y : Ext ω1 ω2) : Ext ω ω2 where
  n := Nat.le_trans x.n y.n
  b := fun i h => (y.b i (Nat.lt_of_lt_of_le h x.n)).trans (x.b i h)
  a := fun q h => y.a q (x.a q h)
  aN := fun q h => by
    rcases y.aN q h with z | z
    · exact x.aN q z
    · exact .inr (x.dom q z)
  nw := fun i h1 h2 => by
    by_cases h : i < ω1.n
    · rw [y.b i h]; exact x.nw i h1 h
    · exact x.dom _ (y.nw i (Nat.not_lt.mp h) h2)
  dom := fun q h => x.dom q (y.dom q h)
  keep := fun q o h nt hb => y.keep q o (x.keep q o h nt hb) nt fun i hi e => by
    by_cases h' : i < ω.n
    · rw [x.b i h'] at e; exact hb i h' e
    · have z := x.nw i (Nat.not_lt.mp h') hi
      rw [e, h] at z; cases z

section
variable (K : PySem.W.Frag)
/-- a written list -/
def WrL (p : Addr) (vs : List V) : Prop :=
  ∃ (o : Obj) (its : Array Value) (n : Nat), K.lookup p = some o ∧ o.cls = .type "list" ∧ o.dict = none ∧ o.data = .seq its n ∧ its.size ≤ sizeLine ∧ Vals vs its.toList
/-- a list that nobody changes any more; one that is locked or written -/
def FzL (ω : Wo) (p : Addr) (vs : List V) : Prop := ω.H p = some (.lst vs) ∧ ¬ ω.A p
def LkL (ω : Wo) (p : Addr) (vs : List V) : Prop := (∃ o, ω.H p = some (.frz o (.lst vs))) ∨ WrL K p vs
theorem LkL.sq {K : PySem.W.Frag} {ω : Wo} {p : Addr} {vs : List V} (h : LkL K ω p vs) : SqL K ω.H p vs := by
  rcases h with ⟨o, h⟩ | h
  · exact .inl (.inr ⟨o, h⟩)
  · exact .inr h
mutual
def RelD (ω : Wo) : D → V → Prop
  | .non, v => v = .non
  | .bl b, v => v = .bl b
  | .int i, v => v = .int i
  | .str x, v => v = .str x
  | .ty t, v => v = .ty t
  | .tup ds, v => ∃ p vs, v = .ref p ∧ SqT K ω.H p vs ∧ RelL ω ds vs
  | .lst ds, v => ∃ p vs, v = .ref p ∧ FzL ω p vs ∧ RelL ω ds vs
  | .scr ds, v => ∃ p vs, v = .ref p ∧ LkL K ω p vs ∧ RelL ω ds vs
  | .dct ks ds, v => ∃ p vs, v = .ref p ∧ (ω.H p = some (.dK (ks.zip vs)) ∧ ¬ ω.A p) ∧ ks.length = vs.length ∧ RelL ω ds vs
  | .ref i, v => i < ω.n ∧ v = .ref (ω.β i)
def RelL (ω : Wo) : List D → List V → Prop
  | [], vs => vs = []
  | d :: ds, vs => ∃ v ws, vs = v :: ws ∧ RelD ω d v ∧ RelL ω ds ws
end
def RelC (ω : Wo) (p : Addr) : C → Prop
  | .lst ds => ∃ vs, ω.H p = some (.lst vs) ∧ RelL K ω ds vs
  | .dct ks ds => ∃ vs, ω.H p = some (.dK (ks.zip vs)) ∧ ks.length = vs.length ∧ RelL K ω ds vs
structure Rel (ω : Wo) (h : Hc) : Prop where
  n : ω.n = h.length
  inj : ∀ i j, i < ω.n → j < ω.n → ω.β i = ω.β j → i = j
  inA : ∀ i, i < ω.n → ω.A (ω.β i)
  sub : ∀ q, ω.A q → ω.H q ≠ none
  cel : ∀ i c, h[i]? = some c → RelC K ω (ω.β i) c
  tabs : TabsK K ω.H
def RelS (ω : Wo) (ds : Sl) (σ : L2.St) : Prop := ds.length = σ.length ∧ ∀ (i : Nat) (d : D), ds[i]? = some (some d) → ∃ v, σ[i]? = some (some v) ∧ RelD K ω d v
end
section
variable {K : PySem.W.Frag} {ω ω' : Wo} {h h' : Hc} {d : D} {v : V} {ds : List D} {vs : List V} {p : Addr}
theorem Rel.mut (r : Rel K ω h) {i : Nat} (hi : i < ω.n) : ∃ o, ω.H (ω.β i) = some o ∧ ((∃ xs, o = .lst xs) ∨ ∃ xs, o = .dK xs) := by
  rw [r.n] at hi
  have c := r.cel i h[i] (List.getElem?_eq_getElem hi)
  cases e : h[i] with
  | lst xs => rw [e] at c; obtain ⟨vs, e, _⟩ := c; exact ⟨_, e, .inl ⟨_, rfl⟩⟩
  | dct ks xs => rw [e] at c; obtain ⟨vs, e, _⟩ := c; exact ⟨_, e, .inr ⟨_, rfl⟩⟩
theorem Rel.kept (r : Rel K ω h) (e : Ext ω ω') {p : Addr} {o : HO} (h1 : ω.H p = some o) (h2 : ¬ ω.A p ∨ ¬ ((∃ xs, o = .lst xs) ∨ ∃ xs, o = .dK xs)) (nt : ∀ ps, o ≠ .tbl ps := by intro _ z; cases z) : ω'.H p = some o :=
  e.keep p o h1 nt fun i hi eq => by
    rcases h2 with h2 | h2
    · exact h2 (eq ▸ r.inA i hi)
    · obtain ⟨o', e1, e2⟩ := r.mut hi
      rw [eq, h1] at e1; cases e1
      exact h2 e2
theorem Rel.offA (r : Rel K ω h) (e : Ext ω ω') {p : Addr} {o : HO} (h1 : ω.H p = some o) (h2 : ¬ ω.A p) : ¬ ω'.A p := fun z => by
  rcases e.aN p z with z | z
  · exact h2 z
  · rw [h1] at z; cases z
theorem Rel.sqT (r : Rel K ω h) (e : Ext ω ω') (x : SqT K ω.H p vs) : SqT K ω'.H p vs := by
  rcases x with (x | ⟨o, x⟩) | x
  · exact .inl (.inl (r.kept e x (.inr (by rintro (⟨_, q⟩ | ⟨_, q⟩) <;> cases q))))
  · exact .inl (.inr ⟨o, r.kept e x (.inr (by rintro (⟨_, q⟩ | ⟨_, q⟩) <;> cases q))⟩)
  · exact .inr x
theorem Rel.fzd (r : Rel K ω h) (e : Ext ω ω') {o : HO} (x : ω.H p = some o) (n : ¬ ω.A p) (nt : ∀ ps, o ≠ .tbl ps := by intro _ z; cases z) : ω'.H p = some o ∧ ¬ ω'.A p := ⟨r.kept e x (.inl n) nt, r.offA e x n⟩
theorem Rel.lk (r : Rel K ω h) (e : Ext ω ω') (x : LkL K ω p vs) : LkL K ω' p vs := by
  rcases x with ⟨o, x⟩ | x
  · exact .inl ⟨o, r.kept e x (.inr (by rintro (⟨_, q⟩ | ⟨_, q⟩) <;> cases q))⟩
  · exact .inr x
mutual
theorem mono (r : Rel K ω h) (e : Ext ω ω') : ∀ (d : D) (v : V), RelD K ω d v → RelD K ω' d v
  | .non, v, x => by unfold RelD at x ⊢; exact x
  | .bl b, v, x => by unfold RelD at x ⊢; exact x
  | .int i, v, x => by unfold RelD at x ⊢; exact x
  | .str s, v, x => by unfold RelD at x ⊢; exact x
  | .ty t, v, x => by unfold RelD at x ⊢; exact x
  | .tup ds, v, x => by
    unfold RelD at x ⊢
    obtain ⟨p, vs, e1, e2, e3⟩ := x
    exact ⟨p, vs, e1, r.sqT e e2, monoL r e ds vs e3⟩
  | .lst ds, v, x => by
    unfold RelD at x ⊢
    obtain ⟨p, vs, e1, e2, e3⟩ := x
    exact ⟨p, vs, e1, r.fzd e e2.1 e2.2, monoL r e ds vs e3⟩
  | .scr ds, v, x => by
    unfold RelD at x ⊢
    obtain ⟨p, vs, e1, e2, e3⟩ := x
    exact ⟨p, vs, e1, r.lk e e2, monoL r e ds vs e3⟩
  | .dct ks ds, v, x => by
    unfold RelD at x ⊢
    obtain ⟨p, vs, e1, e2, e3, e4⟩ := x
    exact ⟨p, vs, e1, r.fzd e e2.1 e2.2, e3, monoL r e ds vs e4⟩
  | .ref i, v, x => by
    unfold RelD at x ⊢
    exact ⟨Nat.lt_of_lt_of_le x.1 e.n, by rw [x.2, e.b i x.1]⟩
theorem monoL (r : Rel K ω h) (e : Ext ω ω') : ∀ (ds : List D) (vs : List V), RelL K ω ds vs → RelL K ω' ds vs
  | [], vs, x => by unfold RelL at x ⊢; exact x
  | d :: ds, vs, x => by
    unfold RelL at x ⊢
    obtain ⟨v, ws, e1, e2, e3⟩ := x
    exact ⟨v, ws, e1, mono r e d v e2, monoL r e ds ws e3⟩
end
theorem monoS (r : Rel K ω h) (e : Ext ω ω') {ds : Sl} {σ : L2.St} (x : RelS K ω ds σ) : RelS K ω' ds σ :=
  ⟨x.1, fun i d hd => let ⟨v, e1, e2⟩ := x.2 i d hd; ⟨v, e1, mono r e d v e2⟩⟩
/-! ### lists of data -/
theorem RelL.nil : RelL K ω [] [] := by unfold RelL; rfl
theorem RelL.cons (a : RelD K ω d v) (b : RelL K ω ds vs) : RelL K ω (d :: ds) (v :: vs) := by
  show RelL K ω (d :: ds) (v :: vs)
  unfold RelL; exact ⟨v, vs, rfl, a, b⟩
theorem RelL.len : ∀ {ds : List D} {vs : List V}, RelL K ω ds vs → ds.length = vs.length
  | [], vs, x => by unfold RelL at x; subst x; rfl
  | d :: ds, vs, x => by
    unfold RelL at x
    obtain ⟨v, ws, e1, e2, e3⟩ := x
    rw [e1, List.length_cons, List.length_cons, RelL.len e3]
theorem RelL.get : ∀ {ds : List D} {vs : List V} {i : Nat} {d : D}, RelL K ω ds vs → ds[i]? = some d → ∃ v, vs[i]? = some v ∧ RelD K ω d v
  | [], vs, i, d, x, e => by simp at e
  | d :: ds, vs, 0, d', x, e => by
    unfold RelL at x
    obtain ⟨v, ws, rfl, e2, e3⟩ := x
    have e' : d = d' := by simpa using e
    subst e'
    exact ⟨v, rfl, e2⟩
  | d :: ds, vs, i + 1, d', x, e => by
    unfold RelL at x
    obtain ⟨v, ws, rfl, e2, e3⟩ := x
    obtain ⟨v', q1, q2⟩ := RelL.get (i := i) e3 (by simpa using e)
    exact ⟨v', by simpa using q1, q2⟩
theorem RelL.append : ∀ {ds es : List D} {vs ws : List V}, RelL K ω ds vs → RelL K ω es ws → RelL K ω (ds ++ es) (vs ++ ws)
  | [], es, vs, ws, x, y => by unfold RelL at x; subst x; exact y
  | d :: ds, es, vs, ws, x, y => by
    unfold RelL at x
    obtain ⟨v, us, rfl, e2, e3⟩ := x
    exact RelL.cons e2 (RelL.append e3 y)
theorem RelL.take : ∀ {ds : List D} {vs : List V} (n : Nat), RelL K ω ds vs → RelL K ω (ds.take n) (vs.take n)
  | _, _, 0, _ => by simpa using RelL.nil
  | [], vs, n + 1, x => by unfold RelL at x; subst x; simpa using RelL.nil
  | d :: ds, vs, n + 1, x => by
    unfold RelL at x
    obtain ⟨v, us, rfl, e2, e3⟩ := x
    exact RelL.cons e2 (RelL.take n e3)
theorem RelL.drop : ∀ {ds : List D} {vs : List V} (n : Nat), RelL K ω ds vs → RelL K ω (ds.drop n) (vs.drop n)
  | _, _, 0, x => by simpa using x
  | [], vs, n + 1, x => by unfold RelL at x; subst x; simpa using RelL.nil
  | d :: ds, vs, n + 1, x => by
    unfold RelL at x
    obtain ⟨v, us, rfl, e2, e3⟩ := x
    simpa using RelL.drop n e3
theorem RelL.set {d : D} {v : V} (r : RelD K ω d v) : ∀ {ds : List D} {vs : List V} (i : Nat), RelL K ω ds vs → RelL K ω (ds.set i d) (vs.set i v)
  | [], vs, i, x => by unfold RelL at x; subst x; simpa using RelL.nil
  | d' :: ds, vs, 0, x => by
    unfold RelL at x
    obtain ⟨v', us, rfl, e2, e3⟩ := x
    exact RelL.cons r e3
  | d' :: ds, vs, i + 1, x => by
    unfold RelL at x
    obtain ⟨v', us, rfl, e2, e3⟩ := x
    exact RelL.cons e2 (RelL.set r i e3)
theorem RelL.inv {vs : List V} (x : RelL K ω (d :: ds) vs) : ∃ v ws, vs = v :: ws ∧ RelD K ω d v ∧ RelL K ω ds ws := by unfold RelL at x; exact x
theorem RelL.inv0 {vs : List V} (x : RelL K ω [] vs) : vs = [] := by unfold RelL at x; exact x
theorem RelL.ints : ∀ {ns : List Int} {vs : List V}, RelL K ω (ns.map D.int) vs → vs = ns.map V.int
  | [], vs, x => x.inv0
  | n :: ns, vs, x => by
    obtain ⟨v, ws, rfl, e2, e3⟩ := x.inv
    unfold RelD at e2
    rw [e2, RelL.ints e3]; rfl
theorem RelL.of_ints : ∀ (ns : List Int), RelL K ω (ns.map D.int) (ns.map V.int)
  | [] => RelL.nil
  | n :: ns => RelL.cons (by unfold RelD; rfl) (RelL.of_ints ns)
theorem RelL.of_strs : ∀ (ns : List Str), RelL K ω (ns.map D.str) (ns.map V.str)
  | [] => RelL.nil
  | n :: ns => RelL.cons (by unfold RelD; rfl) (RelL.of_strs ns)
theorem RelL.bls : ∀ {ns : List Bool} {vs : List V}, RelL K ω (ns.map D.bl) vs → vs = ns.map V.bl
  | [], vs, x => x.inv0
  | n :: ns, vs, x => by
    obtain ⟨v, ws, rfl, e2, e3⟩ := x.inv
    unfold RelD at e2
    rw [e2, RelL.bls e3]; rfl
/-- the tables stay where all but lists and dicts stay -/
theorem tabs_keep {K : PySem.W.Frag} {H H' : Hp} (t : TabsK K H) (k : ∀ b o, H b = some o → ¬ ((∃ xs, o = .lst xs) ∨ ∃ xs, o = .dK xs) → H' b = some o) : TabsK K H' := fun p hp => by
  obtain ⟨ps, h1, h2, h3⟩ := t p hp
  refine ⟨ps, k _ _ h1 (by rintro (⟨_, z⟩ | ⟨_, z⟩) <;> cases z), h2, fun pos cv hc => ?_⟩
  obtain ⟨c, e1, e2⟩ := h3 pos cv hc
  exact ⟨c, e1, k _ _ e2 (by unfold LamX.CodeO; rintro (⟨_, z⟩ | ⟨_, z⟩) <;> cases z)⟩
/-! ### new objects, changed cells -/
def Wo.up (ω : Wo) (p : Addr) (o : HO) : Wo := { ω with H := upd ω.H p o }
theorem Ext.up {o : HO} (hp : ω.H p = none) : Ext ω (ω.up p o) where
  n := Nat.le_refl _
  b := fun _ _ => rfl
  a := fun _ x => x
  aN := fun _ x => .inl x
  nw := fun i h1 h2 => absurd h2 (Nat.not_lt.mpr h1)
  dom := fun q x => by
    by_cases e : q = p
    · rw [e]; exact hp
    · have x' : upd ω.H p o q = none := x
      rw [upd_ne e] at x'; exact x'
  keep := fun q u x _ _ => by
    show upd ω.H p o q = some u
    rw [upd_ne (ne_of_none x hp)]; exact x
theorem Rel.ext1 (r : Rel K ω h) (e : Ext ω ω') (hn : ω'.n = ω.n) (hA : ∀ q, ω'.A q → ω'.H q ≠ none) (hc : ∀ i, i < ω.n → ω'.H (ω.β i) = ω.H (ω.β i)) (ht : TabsK K ω'.H) : Rel K ω' h where
  tabs := ht
  n := hn.trans r.n
  inj := fun i j hi hj q => by
    rw [hn] at hi hj
    rw [e.b i hi, e.b j hj] at q
    exact r.inj i j hi hj q
  inA := fun i hi => by rw [hn] at hi; rw [e.b i hi]; exact e.a _ (r.inA i hi)
  sub := hA
  cel := fun i c hi => by
    have hl : i < ω.n := by rw [r.n]; exact (List.getElem?_eq_some_iff.mp hi).1
    rw [e.b i hl]
    have x := r.cel i c hi
    cases c with
    | lst xs =>
      obtain ⟨vs, e1, e2⟩ := x
      exact ⟨vs, (hc i hl).trans e1, monoL r e _ _ e2⟩
    | dct ks xs =>
      obtain ⟨vs, e1, e3, e2⟩ := x
      exact ⟨vs, (hc i hl).trans e1, e3, monoL r e _ _ e2⟩
theorem Rel.ext0 (r : Rel K ω h) (e : Ext ω ω') (hn : ω'.n = ω.n) (hA : ∀ q, ω'.A q → ω.A q) (hc : ∀ i, i < ω.n → ω'.H (ω.β i) = ω.H (ω.β i)) (ht : TabsK K ω'.H) : Rel K ω' h :=
  r.ext1 e hn (fun q hq z => r.sub q (hA q hq) (e.dom q z)) hc ht
theorem Rel.up {o : HO} (r : Rel K ω h) (hp : ω.H p = none) : Rel K (ω.up p o) h :=
  r.ext0 (Ext.up hp) rfl (fun _ x => x) (fun i hi => by
    obtain ⟨u, e, _⟩ := r.mut hi
    show upd ω.H p o _ = _
    rw [upd_ne (ne_of_none e hp)]) (tabs_keep r.tabs fun b u e _ => by
    show upd ω.H p o b = some u
    rw [upd_ne (ne_of_none e hp)]; exact e)
theorem Rel.free (r : Rel K ω h) (hp : ω.H p = none) : ¬ ω.A p := fun z => r.sub p z hp
/-- a new cell at p -/
def Wo.cell (ω : Wo) (p : Addr) (o : HO) : Wo := ⟨fun q => ω.A q ∨ q = p, fun i => if i = ω.n then p else ω.β i, ω.n + 1, upd ω.H p o⟩
theorem Ext.cell {o : HO} (hp : ω.H p = none) : Ext ω (ω.cell p o) where
  n := Nat.le_succ _
  b := fun i hi => if_neg (Nat.ne_of_lt hi)
  a := fun _ x => .inl x
  aN := fun q x => by
    rcases x with x | x
    · exact .inl x
    · rw [x]; exact .inr hp
  nw := fun i h1 h2 => by
    have h2' : i < ω.n + 1 := h2
    have e : i = ω.n := Nat.le_antisymm (Nat.le_of_lt_succ h2') h1
    show ω.H (if i = ω.n then p else ω.β i) = none
    rw [if_pos e]; exact hp
  dom := (Ext.up (o := o) hp).dom
  keep := (Ext.up (o := o) hp).keep
theorem Wo.cell_at {o : HO} : (ω.cell p o).β ω.n = p := if_pos rfl
theorem Rel.cell {o : HO} {c : C} (r : Rel K ω h) (hp : ω.H p = none) (hc : RelC K (ω.cell p o) p c) : Rel K (ω.cell p o) (h ++ [c]) where
  tabs := tabs_keep r.tabs fun b u e _ => by
    show upd ω.H p o b = some u
    rw [upd_ne (ne_of_none e hp)]; exact e
  n := by rw [List.length_append, ← r.n]; rfl
  inj := fun i j hi hj q => by
    have hi' : i < ω.n + 1 := hi
    have hj' : j < ω.n + 1 := hj
    have q' : (if i = ω.n then p else ω.β i) = (if j = ω.n then p else ω.β j) := q
    by_cases e1 : i = ω.n
    · by_cases e2 : j = ω.n
      · omega
      · rw [if_pos e1, if_neg e2] at q'
        obtain ⟨u, z, _⟩ := r.mut (show j < ω.n by omega)
        rw [← q', hp] at z; cases z
    · by_cases e2 : j = ω.n
      · rw [if_neg e1, if_pos e2] at q'
        obtain ⟨u, z, _⟩ := r.mut (show i < ω.n by omega)
        rw [q', hp] at z; cases z
      · rw [if_neg e1, if_neg e2] at q'
        exact r.inj i j (by omega) (by omega) q'
  inA := fun i hi => by
    have hi' : i < ω.n + 1 := hi
    by_cases e1 : i = ω.n
    · exact .inr (if_pos e1)
    · refine .inl ?_
      show ω.A (if i = ω.n then p else ω.β i)
      rw [if_neg e1]; exact r.inA i (by omega)
  sub := fun q x z => by
    have z' : upd ω.H p o q = none := z
    by_cases e : q = p
    · rw [e, upd_same] at z'; cases z'
    · rw [upd_ne e] at z'
      rcases x with x | x
      · exact r.sub q x z'
      · exact e x
  cel := fun i c' hi => by
    by_cases e1 : i = ω.n
    · have e2 : i = h.length := e1.trans r.n
      rw [List.getElem?_append_right (by omega), e2, Nat.sub_self] at hi
      have e3 : c = c' := by simpa using hi
      subst e3
      have e4 : (ω.cell p o).β i = p := if_pos e1
      rw [e4]; exact hc
    · have hlt : i < ω.n := by
        have := (List.getElem?_eq_some_iff.mp hi).1
        rw [List.length_append, ← r.n] at this
        simp at this; omega
      rw [List.getElem?_append_left (by rw [← r.n]; exact hlt)] at hi
      have e4 : (ω.cell p o).β i = ω.β i := if_neg e1
      rw [e4]
      obtain ⟨u, z, _⟩ := r.mut hlt
      have ne : ω.β i ≠ p := ne_of_none z hp
      have x := r.cel i c' hi
      have e := Ext.cell (ω := ω) (p := p) (o := o) hp
      cases c' with
      | lst xs =>
        obtain ⟨vs, e1, e2⟩ := x
        exact ⟨vs, (upd_ne ne).trans e1, monoL r e _ _ e2⟩
      | dct ks xs =>
        obtain ⟨vs, e1, e3, e2⟩ := x
        exact ⟨vs, (upd_ne ne).trans e1, e3, monoL r e _ _ e2⟩
/-- cell i is changed -/
theorem Ext.put {o u : HO} {i : Nat} (hi : i < ω.n) (hu : ω.H (ω.β i) = some u) : Ext ω (ω.up (ω.β i) o) where
  n := Nat.le_refl _
  b := fun _ _ => rfl
  a := fun _ x => x
  aN := fun _ x => .inl x
  nw := fun i h1 h2 => absurd h2 (Nat.not_lt.mpr h1)
  dom := fun q x => by
    have x' : upd ω.H (ω.β i) o q = none := x
    by_cases e : q = ω.β i
    · rw [e, upd_same] at x'; cases x'
    · rw [upd_ne e] at x'; exact x'
  keep := fun q w x _ hb => by
    show upd ω.H (ω.β i) o q = some w
    rw [upd_ne (fun e => hb i hi e.symm)]; exact x
theorem Rel.put {o : HO} {c : C} {i : Nat} (r : Rel K ω h) (hi : i < ω.n) (hc : RelC K (ω.up (ω.β i) o) (ω.β i) c) : Rel K (ω.up (ω.β i) o) (h.set i c) := by
  obtain ⟨u, hu, _⟩ := r.mut hi
  have e := Ext.put (o := o) hi hu
  refine ⟨by rw [List.length_set]; exact r.n, r.inj, r.inA, fun q x z => r.sub q x (e.dom q z), fun j c' hj => ?_, tabs_keep r.tabs fun b w e1 nm => by
    show upd ω.H (ω.β i) o b = some w
    rw [upd_ne (fun z => nm (by
      obtain ⟨w', e2, m⟩ := r.mut hi
      rw [z, e2] at e1; cases e1
      exact m))]; exact e1⟩
  by_cases ej : j = i
  · subst ej
    rw [List.getElem?_set_self (by rw [← r.n]; exact hi)] at hj
    have e3 : c = c' := by simpa using hj
    subst e3
    exact hc
  · rw [List.getElem?_set_ne (Ne.symm ej)] at hj
    have hl : j < ω.n := by rw [r.n]; exact (List.getElem?_eq_some_iff.mp hj).1
    have ne : ω.β j ≠ ω.β i := fun q => ej (r.inj j i hl hi q)
    have x := r.cel j c' hj
    show RelC K (ω.up (ω.β i) o) (ω.β j) c'
    cases c' with
    | lst xs =>
      obtain ⟨vs, e1, e2⟩ := x
      exact ⟨vs, (upd_ne ne).trans e1, monoL r e _ _ e2⟩
    | dct ks xs =>
      obtain ⟨vs, e1, e3, e2⟩ := x
      exact ⟨vs, (upd_ne ne).trans e1, e3, monoL r e _ _ e2⟩
end
end Mp
/-! LayB: what an expression, a test, a statement means over data. -/
namespace Mp
open PySem PySem.Spec PyProof.Rows L2
abbrev SE := Sl → Hc → R D
abbrev SB := Sl → Hc → R Bool
abbrev SA := Sl → Hc → R (List D)
/-- an exception over data -/
def RelX (K : PySem.W.Frag) (mg : Str → Option Value) (ω : Wo) (x : Str) (fs : List Str) (ds : List D) (cls : Value) (dx : Option Addr) : Prop :=
  ∃ (C d : Addr) (vs : List V), cls = .ref C ∧ dx = some d ∧ mg x = some (.ref C) ∧ ω.H d = some (.xd (fs.zip vs)) ∧ fs.length = vs.length ∧ RelL K ω ds vs
def Post {α β : Type} (K : PySem.W.Frag) (mg : Str → Option Value) (W : WX) (σ : L2.St) (ω : Wo) (rel : Wo → α → β → Prop) (Q : β → Hp → Prop) : R α → Prop
  | .ok a h => ∀ b ω', Ext ω ω' → Rel K ω' h → rel ω' a b → Q b ω'.H
  | .ex x fs ds h => ∀ cls dx ω', Ext ω ω' → Rel K ω' h → RelX K mg ω' x fs ds cls dx → W cls dx σ ω'.H
  | .bad => False
section
variable {α β α' β' : Type} {K : PySem.W.Frag} {mg : Str → Option Value} {W : WX} {σ : L2.St} {ω ω' : Wo} {rel : Wo → α → β → Prop} {Q : β → Hp → Prop} {rel' : Wo → α' → β' → Prop} {Q' : β' → Hp → Prop}
theorem Post.bd {r : R α} {f : α → Hc → R α'} (hp : Post K mg W σ ω rel' Q' (r.bd f))
    (hq : ∀ a h b ω', Ext ω ω' → Rel K ω' h → rel ω' a b → Post K mg W σ ω' rel' Q' (f a h) → Q b ω'.H) : Post K mg W σ ω rel Q r := by
  cases r with
  | ok a h =>
    intro b ω' e r1 ra
    refine hq a h b ω' e r1 ra ?_
    have hp' : Post K mg W σ ω rel' Q' (f a h) := hp
    cases q : f a h with
    | ok a2 h2 => rw [q] at hp'; exact fun b2 ω2 e2 => hp' b2 ω2 (e.trans e2)
    | ex x fs ds h2 => rw [q] at hp'; exact fun c d ω2 e2 => hp' c d ω2 (e.trans e2)
    | bad => rw [q] at hp'; exact hp'
  | ex x fs ds h => exact hp
  | bad => exact hp
theorem Post.mono {r : R α} (hp : Post K mg W σ ω rel Q r) (e : Ext ω ω') : Post K mg W σ ω' rel Q r := by
  cases r with
  | ok a h => exact fun b2 ω2 e2 => hp b2 ω2 (e.trans e2)
  | ex x fs ds h2 => exact fun c d ω2 e2 => hp c d ω2 (e.trans e2)
  | bad => exact hp
end
/-- a reading by data -/
def tOf {α β : Type} (K : PySem.W.Frag) (mg : Str → Option Value) (W : WX) (rel : Wo → α → β → Prop) (m : Sl → Hc → R α) : L2.St → Hp → (β → Hp → Prop) → Prop := fun σ H Q =>
  ∃ ω h ds, ω.H = H ∧ Rel K ω h ∧ RelS K ω ds σ ∧ Post K mg W σ ω rel Q (m ds h)
def relB : Wo → Bool → Bool → Prop := fun _ a b => a = b
abbrev tE (X : Cx) (W : WX) (m : SE) : TE := tOf X.K X.mg W (RelD X.K) m
abbrev tT (X : Cx) (W : WX) (m : SB) : TT := tOf X.K X.mg W relB m
abbrev tA (X : Cx) (W : WX) (m : SA) : TA := tOf X.K X.mg W (RelL X.K) m
abbrev DE (X : Cx) (W : WX) (e : Expr) (m : SE) : Prop := PE X e (tE X W m)
abbrev DT (X : Cx) (W : WX) (e : Expr) (m : SB) : Prop := PT X e (tT X W m)
abbrev DW (X : Cx) (W : WX) (e : Expr) (m : SB) : Prop := PW X e (tT X W m)
abbrev DA (X : Cx) (W : WX) (es : List Expr) (m : SA) : Prop := PA X es (tA X W m)
section
variable {X : Cx} {W : WX} {e a b : Expr} {es : List Expr} {pos : Pos} {ma mb m : SE} {t u : SB} {as : SA} {t1 : TE}
theorem de_of (h : PE X e t1) (hw : ∀ σ H Q, tE X W m σ H Q → t1 σ H Q) : DE X W e m := ⟨fun pins s σ H Q I q => h.run pins s σ H Q I (hw σ H Q q)⟩
theorem dt_of {t1 : TT} (h : PT X e t1) (hw : ∀ σ H Q, tT X W t σ H Q → t1 σ H Q) : DT X W e t := ⟨fun pins s σ H Q I q => h.run pins s σ H Q I (hw σ H Q q)⟩
theorem dw_of {t1 : TT} (h : PW X e t1) (hw : ∀ σ H Q, tT X W t σ H Q → t1 σ H Q) : DW X W e t := ⟨fun wh pins s σ H Q I q => h.run wh pins s σ H Q I (hw σ H Q q)⟩
theorem da_of {t1 : TA} (h : PA X es t1) (hw : ∀ σ H Q, tA X W as σ H Q → t1 σ H Q) : DA X W es as := ⟨fun pos pins s σ H Q I q => h.run pos pins s σ H Q I (hw σ H Q q)⟩
/-! ### names, constants -/
def eVar (i : Nat) : SE := fun ds h => match ds[i]? with
  | some (some d) => .ok d h
  | _ => .bad
def eC (d : D) : SE := fun _ h => .ok d h
theorem de_var {i : Nat} (h : PE X e (tVar i)) : DE X W e (eVar i) := de_of h fun σ H Q ⟨ω, h, ds, e1, r, s, p⟩ => by
  subst e1
  unfold eVar at p
  cases q : ds[i]? with
  | none => rw [q] at p; exact False.elim p
  | some o =>
    cases o with
    | none => rw [q] at p; exact False.elim p
    | some d =>
      rw [q] at p
      obtain ⟨v, e2, rd⟩ := s.2 i d q
      exact ⟨v, e2, p v ω (Ext.refl ω) r rd⟩
/-- a constant: it stands for d in every world -/
theorem de_c {v : V} {d : D} (h : PE X e (tC v)) (hd : ∀ ω, RelD X.K ω d v) : DE X W e (eC d) := de_of h fun σ H Q ⟨ω, h, ds, e1, r, s, p⟩ => by
  subst e1
  exact p v ω (Ext.refl ω) r (hd ω)
theorem de_int {i : Int} {j : Nat} : DE X W (.Constant (.int i) j pos) (eC (.int i)) := de_c pe_int fun _ => by unfold RelD; rfl
theorem de_bl {b : Bool} {j : Nat} : DE X W (.Constant (.bool b) j pos) (eC (.bl b)) := de_c pe_bl fun _ => by unfold RelD; rfl
theorem de_non {j : Nat} : DE X W (.Constant .none j pos) (eC .non) := de_c pe_non fun _ => by unfold RelD; rfl
/-! ### operators by values -/
def OpD (X : Cx) (r : R2) (f : D → D → Hc → R D) : Prop := ∀ (W : WX) (σ : L2.St) (ω : Wo) (h : Hc) (x y : D) (v u : V) (Q : VK), Rel X.K ω h → RelD X.K ω x v → RelD X.K ω y u → Post X.K X.mg W σ ω (RelD X.K) Q (f x y h) → r v u ω.H Q
def eOp (f : D → D → Hc → R D) (ma mb : SE) : SE := fun ds h => (ma ds h).bd fun x h1 => (mb ds h1).bd fun y h2 => f x y h2
theorem opw {r : R2} {f : D → D → Hc → R D} (ho : OpD X r f) : ∀ σ H Q, tE X W (eOp f ma mb) σ H Q → tOp r (tE X W ma) (tE X W mb) σ H Q := fun σ H Q ⟨ω, h, ds, e1, r, s, p⟩ => by
  subst e1
  exact ⟨ω, h, ds, rfl, r, s, p.bd fun x h1 v ω1 e1 r1 d1 p1 => ⟨ω1, h1, ds, rfl, r1, monoS r e1 s, p1.bd fun y h2 u ω2 e2 r2 d2 p2 => ho W σ ω2 h2 x y v u Q r2 (mono r1 e2 _ _ d1) d2 p2⟩⟩
theorem de_op {op : Operator} {r : R2} {f : D → D → Hc → R D} (ho : OpR X (binaryOp op) r) (hd : OpD X r f) (ha : DE X W a ma) (hb : DE X W b mb) : DE X W (.BinOp a op b pos) (eOp f ma mb) := de_of (pe_op ho ha hb) (opw hd)
theorem de_cmp {op : CmpOp} {r : R2} {f : D → D → Hc → R D} (ho : OpR X (compareOp op) r) (hd : OpD X r f) (ha : DE X W a ma) (hb : DE X W b mb) (hm : behindInMarks op b = false) : DE X W (.Compare a [op] [b] pos) (eOp f ma mb) := de_of (pe_cmpR ho ha hb hm) (opw hd)
theorem de_ix {r : R2} {f : D → D → Hc → R D} (hr : IxR X r) (hd : OpD X r f) (ha : DE X W a ma) (hb : DE X W b mb) (hs : PlainIx b) : DE X W (.Subscript a b pos) (eOp f ma mb) := de_of (pe_ix hr ha hb hs) (opw hd)
def UnD (X : Cx) (r : V → Hp → VK → Prop) (f : D → Hc → R D) : Prop := ∀ (W : WX) (σ : L2.St) (ω : Wo) (h : Hc) (x : D) (v : V) (Q : VK), Rel X.K ω h → RelD X.K ω x v → Post X.K X.mg W σ ω (RelD X.K) Q (f x h) → r v ω.H Q
def eUn (f : D → Hc → R D) (ma : SE) : SE := fun ds h => (ma ds h).bd fun x h1 => f x h1
theorem de_un {op : UnaryOp} {r : V → Hp → VK → Prop} {f : D → Hc → R D} (ho : UnR X (unaryOp op) r) (hd : UnD X r f) (ha : DE X W a ma) : DE X W (.UnaryOp op a pos) (eUn f ma) := de_of (pe_un ho ha) fun σ H Q ⟨ω, h, ds, e1, r, s, p⟩ => by
  subst e1
  exact ⟨ω, h, ds, rfl, r, s, p.bd fun x h1 v ω1 e1 r1 d1 p1 => hd W σ ω1 h1 x v Q r1 d1 p1⟩
/-! ### and, or, not, if as values -/
def isBl : D → Option Bool
  | .bl b => some b
  | _ => none
theorem isBl_rel {K : PySem.W.Frag} {ω : Wo} {d : D} {v : V} {b : Bool} (h : isBl d = some b) (r : RelD K ω d v) : v = .bl b := by
  cases d <;> simp [isBl] at h
  subst h
  unfold RelD at r; exact r
def eAnd (ma mb : SE) : SE := fun ds h => (ma ds h).bd fun x h1 => match isBl x with
  | some true => mb ds h1
  | some false => .ok (.bl false) h1
  | none => .bad
def eOr (ma mb : SE) : SE := fun ds h => (ma ds h).bd fun x h1 => match isBl x with
  | some true => .ok (.bl true) h1
  | some false => mb ds h1
  | none => .bad
def eNot (ma : SE) : SE := fun ds h => (ma ds h).bd fun x h1 => match isBl x with
  | some b => .ok (.bl (!b)) h1
  | none => .bad
theorem de_one {op : BoolOp} (ha : DE X W a ma) : DE X W (.BoolOp op [a] pos) ma := pe_one ha
theorem de_and (ha : DE X W a ma) (hb : DE X W (.BoolOp .And (b :: es) pos) mb) : DE X W (.BoolOp .And (a :: b :: es) pos) (eAnd ma mb) := de_of (pe_and ha hb) fun σ H Q ⟨ω, h, ds, e1, r, s, p⟩ => by
  subst e1
  refine ⟨ω, h, ds, rfl, r, s, p.bd fun x h1 v ω1 e1 r1 d1 p1 => ?_⟩
  cases q : isBl x with
  | none => rw [q] at p1; exact False.elim p1
  | some b =>
    rw [q] at p1
    refine ⟨b, isBl_rel q d1, ?_⟩
    cases b with
    | true => rw [if_pos rfl]; exact ⟨ω1, h1, ds, rfl, r1, monoS r e1 s, p1⟩
    | false => rw [if_neg Bool.false_ne_true]; exact p1 _ ω1 (Ext.refl _) r1 (by unfold RelD; rfl)
theorem de_not (ha : DE X W a ma) : DE X W (.UnaryOp .Not a pos) (eNot ma) := de_of (pe_not ha) fun σ H Q ⟨ω, h, ds, e1, r, s, p⟩ => by
  subst e1
  refine ⟨ω, h, ds, rfl, r, s, p.bd fun x h1 v ω1 e1 r1 d1 p1 => ?_⟩
  cases q : isBl x with
  | none => rw [q] at p1; exact False.elim p1
  | some b => rw [q] at p1; exact ⟨b, isBl_rel q d1, p1 _ ω1 (Ext.refl _) r1 (by unfold RelD; rfl)⟩
def eIf (t : SB) (ma mb : SE) : SE := fun ds h => (t ds h).bd fun b h1 => if b = true then ma ds h1 else mb ds h1
theorem de_if {c : Expr} (hc : DT X W c t) (ha : DE X W a ma) (hb : DE X W b mb) : DE X W (.IfExp c a b pos) (eIf t ma mb) := de_of (pe_ifExp hc ha hb) fun σ H Q ⟨ω, h, ds, e1, r, s, p⟩ => by
  subst e1
  refine ⟨ω, h, ds, rfl, r, s, p.bd fun x h1 v ω1 e1 r1 d1 p1 => ?_⟩
  have d1' : x = v := d1
  subst d1'
  cases x with
  | true => exact ⟨ω1, h1, ds, rfl, r1, monoS r e1 s, p1⟩
  | false => exact ⟨ω1, h1, ds, rfl, r1, monoS r e1 s, p1⟩
/-! ### tests -/
def bEx (m : SE) : SB := fun ds h => (m ds h).bd fun x h1 => match isBl x with
  | some b => .ok b h1
  | none => .bad
theorem dt_cmp {op : CmpOp} {r : R2} {f : D → D → Hc → R D} (ho : OpR X (compareOp op) r) (hd : OpD X r f) (ha : DE X W a ma) (hb : DE X W b mb) (hm : behindInMarks op b = false) : DT X W (.Compare a [op] [b] pos) (bEx (eOp f ma mb)) :=
  dt_of (pt_cmpR ho ha hb hm) fun σ H Q h => by
    obtain ⟨ω, h, ds, e1, r, s, p⟩ := h
    subst e1
    have p' : Post X.K X.mg W σ ω relB Q ((ma ds h).bd fun x h1 => (mb ds h1).bd fun y h2 => (f x y h2).bd fun x h1 => match isBl x with
      | some b => .ok b h1
      | none => .bad) := by
      unfold bEx eOp at p
      cases q : ma ds h with
      | ok x h1 =>
        rw [q] at p
        simp only [R.bd_ok] at p ⊢
        cases q2 : mb ds h1 with
        | ok y h2 => rw [q2] at p; exact p
        | ex _ _ _ _ => rw [q2] at p; exact p
        | bad => rw [q2] at p; exact p
      | ex _ _ _ _ => rw [q] at p; exact p
      | bad => rw [q] at p; exact p
    refine ⟨ω, h, ds, rfl, r, s, p'.bd fun x h1 v ω1 e1 r1 d1 p1 => ⟨ω1, h1, ds, rfl, r1, monoS r e1 s, p1.bd fun y h2 u ω2 e2 r2 d2 p2 => hd W σ ω2 h2 x y v u _ r2 (mono r1 e2 _ _ d1) d2 ?_⟩⟩
    refine p2.bd fun z h3 w ω3 e3 r3 d3 p3 => ?_
    cases q : isBl z with
    | none => rw [q] at p3; exact False.elim p3
    | some b => rw [q] at p3; exact ⟨b, isBl_rel q d3, p3 b ω3 (Ext.refl _) r3 rfl⟩
def bAnd (t u : SB) : SB := fun ds h => (t ds h).bd fun b h1 => if b = true then u ds h1 else .ok false h1
def bOr (t u : SB) : SB := fun ds h => (t ds h).bd fun b h1 => if b = true then .ok true h1 else u ds h1
def bNot (t : SB) : SB := fun ds h => (t ds h).bd fun b h1 => .ok (!b) h1
theorem dw_and1 (ha : DT X W a t) : DW X W (.BoolOp .And [a] pos) t := pw_and1 ha
theorem dw_or1 (ha : DT X W a t) : DW X W (.BoolOp .Or [a] pos) t := pw_or1 ha
theorem dw_and (ha : DT X W a t) (hb : DW X W (.BoolOp .And (b :: es) pos) u) : DW X W (.BoolOp .And (a :: b :: es) pos) (bAnd t u) := dw_of (pw_and ha hb) fun σ H Q ⟨ω, h, ds, e1, r, s, p⟩ => by
  subst e1
  refine ⟨ω, h, ds, rfl, r, s, p.bd fun x h1 v ω1 e1 r1 d1 p1 => ?_⟩
  have d1' : x = v := d1
  subst d1'
  cases x with
  | true => exact ⟨ω1, h1, ds, rfl, r1, monoS r e1 s, p1⟩
  | false => exact p1 _ ω1 (Ext.refl _) r1 rfl
theorem dw_or (ha : DT X W a t) (hb : DW X W (.BoolOp .Or (b :: es) pos) u) : DW X W (.BoolOp .Or (a :: b :: es) pos) (bOr t u) := dw_of (pw_or ha hb) fun σ H Q ⟨ω, h, ds, e1, r, s, p⟩ => by
  subst e1
  refine ⟨ω, h, ds, rfl, r, s, p.bd fun x h1 v ω1 e1 r1 d1 p1 => ?_⟩
  have d1' : x = v := d1
  subst d1'
  cases x with
  | true => exact p1 _ ω1 (Ext.refl _) r1 rfl
  | false => exact ⟨ω1, h1, ds, rfl, r1, monoS r e1 s, p1⟩
theorem dt_not (ha : DT X W a t) : DT X W (.UnaryOp .Not a pos) (bNot t) := dt_of (pt_not ha) fun σ H Q ⟨ω, h, ds, e1, r, s, p⟩ => by
  subst e1
  refine ⟨ω, h, ds, rfl, r, s, p.bd fun x h1 v ω1 e1 r1 d1 p1 => ?_⟩
  have d1' : x = v := d1
  subst d1'
  exact p1 _ ω1 (Ext.refl _) r1 rfl
/-! ### arguments, displays -/
def aNil : SA := fun _ h => .ok [] h
def aCons (m : SE) (as : SA) : SA := fun ds h => (m ds h).bd fun x h1 => (as ds h1).bd fun xs h2 => .ok (x :: xs) h2
theorem da_nil : DA X W [] aNil := da_of pa_nil fun σ H Q ⟨ω, h, ds, e1, r, s, p⟩ => by
  subst e1
  exact p _ ω (Ext.refl _) r RelL.nil
theorem da_cons (ha : DE X W e m) (hr : DA X W es as) (hs : starEach (e :: es) X.env = (false, eval e X.env) :: starEach es X.env := by rfl) : DA X W (e :: es) (aCons m as) := da_of (pa_cons ha hr hs) fun σ H Q ⟨ω, h, ds, e1, r, s, p⟩ => by
  subst e1
  exact ⟨ω, h, ds, rfl, r, s, p.bd fun x h1 v ω1 e1 r1 d1 p1 => ⟨ω1, h1, ds, rfl, r1, monoS r e1 s, p1.bd fun xs h2 vs ω2 e2 r2 d2 p2 => p2 _ ω2 (Ext.refl _) r2 (RelL.cons (mono r1 e2 _ _ d1) d2)⟩⟩
def lim : Nat := 1000000
theorem lim_le {n : Nat} (h : n ≤ lim) : n ≤ sizeLine := Nat.le_trans h (by rw [sizeLine_eq]; decide)
theorem lim_lt {n : Nat} (h : n < lim) : n < sizeLine := Nat.lt_of_lt_of_le h (by rw [sizeLine_eq]; decide)
def eTup (as : SA) : SE := fun ds h => (as ds h).bd fun xs h1 => if xs.length ≤ lim then .ok (.tup xs) h1 else .bad
/-- a list display whose list is never changed -/
def eLst (as : SA) : SE := fun ds h => (as ds h).bd fun xs h1 => if xs.length ≤ lim then .ok (.lst xs) h1 else .bad
/-- a list display: a new cell -/
def eCell (as : SA) : SE := fun ds h => (as ds h).bd fun xs h1 => if xs.length ≤ lim then .ok (.ref h1.length) (h1 ++ [.lst xs]) else .bad
theorem de_tup {x1} (ha : DA X W es as) : DE X W (.Tuple es x1 pos) (eTup as) := de_of (pe_tup ha) fun σ H Q ⟨ω, h, ds, e1, r, s, p⟩ => by
  subst e1
  refine ⟨ω, h, ds, rfl, r, s, p.bd fun xs h1 vs ω1 e1 r1 d1 p1 => ?_⟩
  by_cases hl : xs.length ≤ lim
  · rw [if_pos hl] at p1
    refine ⟨by rw [← d1.len]; exact lim_le hl, fun q hq => p1 _ (ω1.up q (.tup vs)) (Ext.up hq) (r1.up hq) ?_⟩
    unfold RelD
    exact ⟨q, vs, rfl, .inl (.inl upd_same), monoL r1 (Ext.up hq) _ _ d1⟩
  · rw [if_neg hl] at p1; exact False.elim p1
theorem fz_new {K : PySem.W.Frag} {ω : Wo} {h : Hc} {q : Addr} {xs : List D} {vs : List V} (r : Rel K ω h) (hq : ω.H q = none) (d : RelL K ω xs vs) : RelD K (ω.up q (.lst vs)) (.lst xs) (.ref q) := by
  unfold RelD
  exact ⟨q, vs, rfl, ⟨upd_same, r.free hq⟩, monoL r (Ext.up hq) _ _ d⟩
theorem cell_new {K : PySem.W.Frag} {ω : Wo} {h : Hc} {q : Addr} {xs : List D} {vs : List V} (r : Rel K ω h) (hq : ω.H q = none) (d : RelL K ω xs vs) :
    Rel K (ω.cell q (.lst vs)) (h ++ [.lst xs]) ∧ RelD K (ω.cell q (.lst vs)) (.ref h.length) (.ref q) := by
  refine ⟨r.cell hq ⟨vs, upd_same, monoL r (Ext.cell hq) _ _ d⟩, ?_⟩
  unfold RelD
  rw [← r.n]
  exact ⟨Nat.lt_succ_self _, by rw [Wo.cell_at]⟩
theorem de_lst (ha : DA X W es as) : DE X W (.List es pos) (eLst as) := de_of (pe_lst ha) fun σ H Q ⟨ω, h, ds, e1, r, s, p⟩ => by
  subst e1
  refine ⟨ω, h, ds, rfl, r, s, p.bd fun xs h1 vs ω1 e1 r1 d1 p1 => ?_⟩
  by_cases hl : xs.length ≤ lim
  · rw [if_pos hl] at p1
    exact ⟨by rw [← d1.len]; exact lim_le hl, fun q hq => p1 _ (ω1.up q (.lst vs)) (Ext.up hq) (r1.up hq) (fz_new r1 hq d1)⟩
  · rw [if_neg hl] at p1; exact False.elim p1
theorem de_cell (ha : DA X W es as) : DE X W (.List es pos) (eCell as) := de_of (pe_lst ha) fun σ H Q ⟨ω, h, ds, e1, r, s, p⟩ => by
  subst e1
  refine ⟨ω, h, ds, rfl, r, s, p.bd fun xs h1 vs ω1 e1 r1 d1 p1 => ?_⟩
  by_cases hl : xs.length ≤ lim
  · rw [if_pos hl] at p1
    exact ⟨by rw [← d1.len]; exact lim_le hl, fun q hq => p1 _ (ω1.cell q (.lst vs)) (Ext.cell hq) (cell_new r1 hq d1).1 (cell_new r1 hq d1).2⟩
  · rw [if_neg hl] at p1; exact False.elim p1
end
/-! ### statements -/
inductive O where
  | nx (ds : Sl) (h : Hc) | rt (d : D) (h : Hc) | bk (ds : Sl) (h : Hc) | ct (ds : Sl) (h : Hc) | ex (x : Str) (fs : List Str) (vs : List D) (ds : Sl) (h : Hc) | bad
abbrev SS := Sl → Hc → O
def PostO (K : PySem.W.Frag) (mg : Str → Option Value) (W : WX) (ω : Wo) (E : Ends) : O → Prop
  | .nx ds h => ∀ σ' ω', Ext ω ω' → Rel K ω' h → RelS K ω' ds σ' → E.nx σ' ω'.H
  | .rt d h => ∀ v ω', Ext ω ω' → Rel K ω' h → RelD K ω' d v → E.rt v ω'.H
  | .bk ds h => ∀ σ' ω', Ext ω ω' → Rel K ω' h → RelS K ω' ds σ' → E.bk σ' ω'.H
  | .ct ds h => ∀ σ' ω', Ext ω ω' → Rel K ω' h → RelS K ω' ds σ' → E.ct σ' ω'.H
  | .ex x fs vs ds h => ∀ cls dx σ' ω', Ext ω ω' → Rel K ω' h → RelS K ω' ds σ' → RelX K mg ω' x fs vs cls dx → W cls dx σ' ω'.H
  | .bad => False
def tS (X : Cx) (W : WX) (m : SS) : TS := fun E σ H => ∃ ω h ds, ω.H = H ∧ Rel X.K ω h ∧ RelS X.K ω ds σ ∧ PostO X.K X.mg W ω E (m ds h)
abbrev DS (X : Cx) (W : WX) (st : Stmt) (m : SS) : Prop := PS X st (tS X W m)
abbrev DSs (X : Cx) (W : WX) (st : List Stmt) (m : SS) : Prop := PSs X st (tS X W m)
/-- behind an expression -/
def sBd {α : Type} (r : R α) (ds : Sl) (f : α → Hc → O) : O := match r with
  | .ok a h => f a h
  | .ex x fs vs h => .ex x fs vs ds h
  | .bad => .bad
@[simp] theorem sBd_ok {α : Type} (a : α) (h : Hc) (ds : Sl) (f : α → Hc → O) : sBd (.ok a h) ds f = f a h := Eq.trans rfl rfl
section
variable {X : Cx} {W : WX} {K : PySem.W.Frag} {mg : Str → Option Value} {E : Ends} {ω ω' : Wo} {σ : L2.St} {ds : Sl} {h : Hc}
theorem PostO.mono {o : O} (p : PostO K mg W ω E o) (e : Ext ω ω') : PostO K mg W ω' E o := by
  cases o with
  | nx ds h => exact fun s w x => p s w (e.trans x)
  | rt d h => exact fun s w x => p s w (e.trans x)
  | bk ds h => exact fun s w x => p s w (e.trans x)
  | ct ds h => exact fun s w x => p s w (e.trans x)
  | ex x fs vs ds h => exact fun c d s w x => p c d s w (e.trans x)
  | bad => exact p
theorem PostO.bd {α β : Type} {r : R α} {f : α → Hc → O} {rel : Wo → α → β → Prop} {Q : β → Hp → Prop} (hr : Rel K ω h) (hs : RelS K ω ds σ) (hp : PostO K mg W ω E (sBd r ds f))
    (hq : ∀ a h b ω', Ext ω ω' → Rel K ω' h → rel ω' a b → RelS K ω' ds σ → PostO K mg W ω' E (f a h) → Q b ω'.H) : Post K mg W σ ω rel Q r := by
  cases r with
  | ok a h1 => exact fun b ω' e r1 ra => hq a h1 b ω' e r1 ra (monoS hr e hs) (PostO.mono (o := f a h1) hp e)
  | ex x fs vs h1 => exact fun c d ω' e r1 rx => hp c d σ ω' e r1 (monoS hr e hs) rx
  | bad => exact hp
end
def sSeq (a b : SS) : SS := fun ds h => match a ds h with
  | .nx ds' h' => b ds' h'
  | o => o
def sNext : SS := fun ds h => .nx ds h
def sRet (m : SE) : SS := fun ds h => sBd (m ds h) ds fun d h1 => .rt d h1
def sDrop (m : SE) : SS := fun ds h => sBd (m ds h) ds fun _ h1 => .nx ds h1
def sIf (t : SB) (a b : SS) : SS := fun ds h => sBd (t ds h) ds fun c h1 => if c = true then a ds h1 else b ds h1
def sBad : SS := fun _ _ => .bad
section
variable {X : Cx} {W : WX} {st : Stmt} {rest sts : List Stmt} {a b m : SS} {me : SE} {t : SB} {e c : Expr} {pos : Pos}
theorem ds_of {t1 : TS} (h : PS X st t1) (hw : ∀ E σ H, tS X W m E σ H → t1 E σ H) : DS X W st m := ⟨fun pins s σ H E I q => h.run pins s σ H E I (hw E σ H q)⟩
theorem dss_of {t1 : TS} (h : PSs X sts t1) (hw : ∀ E σ H, tS X W m E σ H → t1 E σ H) : DSs X W sts m := ⟨fun pins s σ H E I q => h.run pins s σ H E I (hw E σ H q)⟩
theorem dss_nil : DSs X W [] sNext := dss_of pss_nil fun E σ H ⟨ω, h, ds, e1, r, s, p⟩ => by
  subst e1
  exact p σ ω (Ext.refl _) r s
theorem dss_one (h : DS X W st m) : DSs X W [st] m := pss_one h
theorem dss_cons (ha : DS X W st a) (hb : DSs X W rest b) : DSs X W (st :: rest) (sSeq a b) := dss_of (pss_cons ha hb) fun E σ H ⟨ω, h, ds, e1, r, s, p⟩ => by
  subst e1
  refine ⟨ω, h, ds, rfl, r, s, ?_⟩
  unfold sSeq at p
  cases q : a ds h with
  | nx ds' h' =>
    rw [q] at p
    exact fun σ' ω' e r' s' => ⟨ω', h', ds', rfl, r', s', PostO.mono (o := b ds' h') p e⟩
  | rt d h' => rw [q] at p; exact p
  | bk ds' h' => rw [q] at p; exact p
  | ct ds' h' => rw [q] at p; exact p
  | ex x fs vs ds' h' => rw [q] at p; exact p
  | bad => rw [q] at p; exact p
theorem ds_break : DS X W (.Break pos) (fun ds h => .bk ds h) := ds_of ps_break fun E σ H ⟨ω, h, ds, e1, r, s, p⟩ => by
  subst e1
  exact p σ ω (Ext.refl _) r s
theorem ds_ret (he : DE X W e me) : DS X W (.Return (some e) pos) (sRet me) := ds_of (ps_ret he) fun E σ H ⟨ω, h, ds, e1, r, s, p⟩ => by
  subst e1
  exact ⟨ω, h, ds, rfl, r, s, PostO.bd r s p fun d h1 v ω' e r1 rd s1 p1 => p1 v ω' (Ext.refl _) r1 rd⟩
theorem ds_drop (he : DE X W e me) (hs : swapsWith e none pos.line X.env = pure false := by rfl) : DS X W (.Expr e pos) (sDrop me) := ds_of (ps_expr he hs) fun E σ H ⟨ω, h, ds, e1, r, s, p⟩ => by
  subst e1
  exact ⟨ω, h, ds, rfl, r, s, PostO.bd r s p fun d h1 v ω' e r1 rd s1 p1 => p1 σ ω' (Ext.refl _) r1 s1⟩
theorem ds_if (hc : DT X W c t) (ha : DSs X W sts a) (hb : DSs X W rest b) : DS X W (.If c sts rest pos) (sIf t a b) := ds_of (ps_if hc ha hb) fun E σ H ⟨ω, h, ds, e1, r, s, p⟩ => by
  subst e1
  refine ⟨ω, h, ds, rfl, r, s, PostO.bd r s p fun x h1 v ω' e r1 rd s1 p1 => ?_⟩
  have rd' : x = v := rd
  subst rd'
  cases x with
  | true => exact ⟨ω', h1, ds, rfl, r1, s1, p1⟩
  | false => exact ⟨ω', h1, ds, rfl, r1, s1, p1⟩
/-! ### stores -/
theorem RelS.set {K : PySem.W.Frag} {ω : Wo} {ds : Sl} {σ : L2.St} {d : D} {v : V} (s : RelS K ω ds σ) (i : Nat) (r : RelD K ω d v) : RelS K ω (ds.set i (some d)) (σ.set i (some v)) := by
  refine ⟨by rw [List.length_set, List.length_set]; exact s.1, fun j d' hj => ?_⟩
  by_cases hi : i = j
  · subst hi
    have hl : i < ds.length := by
      have := (List.getElem?_eq_some_iff.mp hj).1
      rw [List.length_set] at this; exact this
    rw [List.getElem?_set_self hl] at hj
    have : d = d' := by simpa using hj
    subst this
    exact ⟨v, by rw [List.getElem?_set_self (by rw [← s.1]; exact hl)], r⟩
  · rw [List.getElem?_set_ne hi] at hj
    obtain ⟨v', e1, e2⟩ := s.2 j d' hj
    exact ⟨v', by rw [List.getElem?_set_ne hi]; exact e1, e2⟩
def sSet (i : Nat) (m : SE) : SS := fun ds h => sBd (m ds h) ds fun d h1 => .nx (ds.set i (some d)) h1
theorem ds_set {i : Nat} {tg : Expr} (h : PS X (.Assign [tg] e pos) (tAsg (tE X W me) (gName i))) : DS X W (.Assign [tg] e pos) (sSet i me) := ds_of h fun E σ H ⟨ω, h, ds, e1, r, s, p⟩ => by
  subst e1
  exact ⟨ω, h, ds, rfl, r, s, PostO.bd r s p fun d h1 v ω' e r1 rd s1 p1 => p1 _ ω' (Ext.refl _) r1 (s1.set i rd)⟩
end
end Mp
/-! LayC: loops, targets, comprehensions, calls, defs. -/
namespace Mp
open PySem PySem.Spec PyProof.Rows L2
/-! ### while -/
def wl (t : SB) (b : SS) : Nat → SS
  | 0 => sBad
  | n + 1 => fun ds h => sBd (t ds h) ds fun c h1 => if c = true then (match b ds h1 with
      | .nx ds' h' => wl t b n ds' h'
      | .ct ds' h' => wl t b n ds' h'
      | .bk ds' h' => .nx ds' h'
      | o => o) else .nx ds h1
section
variable {X : Cx} {W : WX} {sts : List Stmt} {b : SS} {t : SB} {c : Expr} {pos : Pos}
end
/-! ### targets -/
inductive Pt where
  | n (i : Nat) | t (ps : List Pt)
mutual
def Pt.slots : Pt → List Nat
  | .n i => [i]
  | .t ps => Pt.slotsL ps
def Pt.slotsL : List Pt → List Nat
  | [] => []
  | p :: ps => p.slots ++ Pt.slotsL ps
end
/-- the items of a sequence -/
def seqD (h : Hc) : D → Option (List D)
  | .tup xs => some xs
  | .lst xs => some xs
  | .scr xs => some xs
  | .ref i => match h[i]? with
    | some (.lst xs) => some xs
    | _ => none
  | _ => none
mutual
def bindP (h : Hc) : Pt → D → Sl → Option Sl
  | .n i, d, ds => some (ds.set i (some d))
  | .t ps, d, ds => match seqD h d with
    | some xs => bindPs h ps xs ds
    | none => none
def bindPs (h : Hc) : List Pt → List D → Sl → Option Sl
  | [], [], ds => some ds
  | p :: ps, x :: xs, ds => match bindP h p x ds with
    | some ds1 => bindPs h ps xs ds1
    | none => none
  | _, _, _ => none
end
section
variable {K : PySem.W.Frag} {ω ω' : Wo} {h h' : Hc} {d : D} {v : V}
theorem seqD_rel {xs : List D} (r : Rel K ω h) (e : seqD h d = some xs) (x : RelD K ω d v) : ∃ p vs, v = .ref p ∧ (SqT K ω.H p vs ∨ SqL K ω.H p vs) ∧ RelL K ω xs vs := by
  cases d with
  | tup ys =>
    simp [seqD] at e; subst e
    unfold RelD at x
    obtain ⟨p, vs, e1, e2, e3⟩ := x
    exact ⟨p, vs, e1, .inl e2, e3⟩
  | lst ys =>
    simp [seqD] at e; subst e
    unfold RelD at x
    obtain ⟨p, vs, e1, e2, e3⟩ := x
    exact ⟨p, vs, e1, .inr (.inl (.inl e2.1)), e3⟩
  | scr ys =>
    simp [seqD] at e; subst e
    unfold RelD at x
    obtain ⟨p, vs, e1, e2, e3⟩ := x
    exact ⟨p, vs, e1, .inr e2.sq, e3⟩
  | ref i =>
    unfold RelD at x
    obtain ⟨hi, e1⟩ := x
    unfold seqD at e
    cases q : h[i]? with
    | none => simp [q] at e
    | some c =>
      cases c with
      | lst ys =>
        simp [q] at e; subst e
        obtain ⟨vs, e2, e3⟩ := r.cel i _ q
        exact ⟨_, vs, e1, .inr (.inl (.inl e2)), e3⟩
      | dct ks ys => simp [q] at e
  | _ => simp [seqD] at e
theorem wipe_set_out {σ : L2.St} {i : Nat} {x : Option V} : ∀ {ws : List Nat}, i ∉ ws → wipe (σ.set i x) ws = (wipe σ ws).set i x
  | [], _ => rfl
  | w :: ws, hn => by
    have h1 : i ≠ w := fun e => hn (by simp [e])
    have h2 : i ∉ ws := fun e => hn (by simp [e])
    unfold wipe
    rw [wipe_set_out h2, List.set_comm _ _ h1]
theorem wipe_set_in {σ : L2.St} {i : Nat} {x : Option V} : ∀ {ws : List Nat}, i ∈ ws → wipe (σ.set i x) ws = wipe σ ws
  | [], hi => by simp at hi
  | w :: ws, hi => by
    unfold wipe
    by_cases h2 : i ∈ ws
    · rw [wipe_set_in h2]
    · have e : i = w := by simpa [h2] using hi
      subst e
      rw [wipe_set_out h2, List.set_set]
end
/-- a target's reading -/
def tP (K : PySem.W.Frag) (p : Pt) : TG := fun v σ H Q => ∃ ω h ds d ds', ω.H = H ∧ Rel K ω h ∧ RelS K ω ds σ ∧ RelD K ω d v ∧ bindP h p d ds = some ds' ∧ ∀ σ', RelS K ω ds' σ' → (∀ ws, (∀ i ∈ p.slots, i ∈ ws) → wipe σ' ws = wipe σ ws) → Q σ' H
def tPs (K : PySem.W.Frag) (ps : List Pt) : TGs := fun vs σ H Q => ∃ ω h ds xs ds', ω.H = H ∧ Rel K ω h ∧ RelS K ω ds σ ∧ RelL K ω xs vs ∧ bindPs h ps xs ds = some ds' ∧ ∀ σ', RelS K ω ds' σ' → (∀ ws, (∀ i ∈ Pt.slotsL ps, i ∈ ws) → wipe σ' ws = wipe σ ws) → Q σ' H
abbrev DG (X : Cx) (tg : Expr) (p : Pt) : Prop := PG X tg (tP X.K p)
abbrev DGs (X : Cx) (tgs : List Expr) (ps : List Pt) : Prop := PGs X tgs (tPs X.K ps)
section
variable {X : Cx} {tg : Expr} {tgs es : List Expr} {p : Pt} {ps : List Pt} {pos : Pos} {k : Nat}
theorem dg_of {t1 : TG} (h : PG X tg t1) (hw : ∀ v σ H Q, tP X.K p v σ H Q → t1 v σ H Q) : DG X tg p := ⟨fun pins s σ H v u Q I r q => h.run pins s σ H v u Q I r (hw v σ H Q q)⟩
theorem dgs_of {t1 : TGs} (h : PGs X tgs t1) (hw : ∀ v σ H Q, tPs X.K ps v σ H Q → t1 v σ H Q) : DGs X tgs ps := ⟨fun pins s σ H v u Q I r q => h.run pins s σ H v u Q I r (hw v σ H Q q)⟩
theorem dg_n {i : Nat} (h : PG X tg (gName i)) : DG X tg (.n i) := dg_of h fun v σ H Q ⟨ω, h, ds, d, ds', e1, r, s, rd, eb, q⟩ => by
  subst e1
  simp [bindP] at eb; subst eb
  exact q _ (s.set i rd) fun ws hw => wipe_set_in (hw i (by simp [Pt.slots]))
theorem dgs_nil : DGs X [] [] := dgs_of pgs_nil fun v σ H Q ⟨ω, h, ds, xs, ds', e1, r, s, rd, eb, q⟩ => by
  subst e1
  cases xs with
  | nil =>
    simp [bindPs] at eb; subst eb
    exact ⟨rd.inv0, q σ s fun _ _ => rfl⟩
  | cons x xs => simp [bindPs] at eb
theorem dgs_cons {e : Expr} (h1 : DG X e p) (h2 : DGs X es ps) (h : PGs X (e :: es) (gCons (tP X.K p) (tPs X.K ps))) : DGs X (e :: es) (p :: ps) := dgs_of h fun v σ H Q ⟨ω, h, ds, xs, ds', e1, r, s, rd, eb, q⟩ => by
  subst e1
  cases xs with
  | nil => simp [bindPs] at eb
  | cons x xs =>
    obtain ⟨v1, ws, rfl, ra, rb⟩ := rd.inv
    unfold bindPs at eb
    cases q1 : bindP h p x ds with
    | none => simp [q1] at eb
    | some ds1 =>
      simp [q1] at eb
      exact ⟨v1, ws, rfl, ω, h, ds, x, ds1, rfl, r, s, ra, q1, fun σ' s' w' => ⟨ω, h, ds1, xs, ds', rfl, r, s', rb, eb, fun σ'' s'' w'' => q σ'' s'' fun ws' hw => (w'' ws' fun i hi => hw i (by simp [Pt.slotsL, hi])).trans (w' ws' fun i hi => hw i (by simp [Pt.slotsL, hi]))⟩⟩
theorem bindPs_len : ∀ {h : Hc} {ps : List Pt} {xs : List D} {ds ds' : Sl}, bindPs h ps xs ds = some ds' → xs.length = ps.length
  | _, [], [], _, _, _ => rfl
  | _, [], x :: xs, _, _, e => by simp [bindPs] at e
  | _, p :: ps, [], _, _, e => by simp [bindPs] at e
  | h, p :: ps, x :: xs, ds, ds', e => by
    unfold bindPs at e
    cases q1 : bindP h p x ds with
    | none => simp [q1] at e
    | some ds1 => simp [q1] at e; rw [List.length_cons, List.length_cons, bindPs_len e]
theorem pg_or {t1 t2 : TG} (h1 : PG X tg t1) (h2 : PG X tg t2) : PG X tg (fun v σ H Q => t1 v σ H Q ∨ t2 v σ H Q) :=
  ⟨fun pins s σ H v u Q I r q => q.elim (fun q => h1.run pins s σ H v u Q I r q) fun q => h2.run pins s σ H v u Q I r q⟩
theorem dg_t (hc : X.calm = true) (h : DGs X es ps)
    (h1 : PG X (.Tuple es k pos) (gTup X.K ps.length (tPs X.K ps))) (h2 : PG X (.Tuple es k pos) (gLst X.K ps.length (tPs X.K ps))) : DG X (.Tuple es k pos) (.t ps) :=
  dg_of (pg_or h1 h2) fun v σ H Q ⟨ω, h, ds, d, ds', e1, r, s, rd, eb, q⟩ => by
    subst e1
    unfold bindP at eb
    cases q1 : seqD h d with
    | none => simp [q1] at eb
    | some xs =>
      simp [q1] at eb
      obtain ⟨a, vs, rfl, sq, rl⟩ := seqD_rel r q1 rd
      have hl : vs.length = ps.length := by rw [← rl.len]; exact bindPs_len eb
      have q' : tPs X.K ps vs σ ω.H Q := ⟨ω, h, ds, xs, ds', rfl, r, s, rl, eb, fun σ' s' w' => q σ' s' fun ws hw => w' ws fun i hi => hw i (by simp [Pt.slots, hi])⟩
      rcases sq with sq | sq
      · exact .inl ⟨a, vs, rfl, sq, hl, q'⟩
      · exact .inr ⟨a, vs, rfl, sq, hl, q'⟩
end
/-- target = expression -/
def sAsg (p : Pt) (m : SE) : SS := fun ds h => sBd (m ds h) ds fun d h1 => match bindP h1 p d ds with
  | some ds' => .nx ds' h1
  | none => .bad
/-! ### what is walked -/
structure ItD where
  items : List D
  chk : Hc → Bool
abbrev SI := Sl → Hc → R ItD
def ItOk (K : PySem.W.Frag) (ω : Wo) (it : ItD) (J : It) : Prop := ∀ (i : Nat) (ω' : Wo) (h' : Hc), Ext ω ω' → Rel K ω' h' → it.chk h' = true →
  (∀ d, it.items[i]? = some d → J.go i ω'.H ∧ ∀ x H', J.yld i ω'.H x H' → ∃ ω2, ω2.H = H' ∧ Ext ω' ω2 ∧ Rel K ω2 h' ∧ RelD K ω2 d x) ∧ (it.items[i]? = none → J.stop i ω'.H)
abbrev tI (X : Cx) (W : WX) (m : SI) : TI := tOf X.K X.mg W (ItOk X.K) m
abbrev DI (X : Cx) (W : WX) (tg iter : Expr) (m : SI) : Prop := PI X tg iter (tI X W m)
section
variable {X : Cx} {W : WX} {tg iter e : Expr} {m : SE} {mi : SI}
theorem di_of {t1 : TI} (h : PI X tg iter t1) (hw : ∀ σ H R, tI X W mi σ H R → t1 σ H R) : DI X W tg iter mi := ⟨fun pins s σ H R I q => h.run pins s σ H R I (hw σ H R q)⟩
theorem pi_or {t1 t2 : TI} (h1 : PI X tg iter t1) (h2 : PI X tg iter t2) : PI X tg iter (fun σ H R => t1 σ H R ∨ t2 σ H R) :=
  ⟨fun pins s σ H R I q => q.elim (fun q => h1.run pins s σ H R I q) fun q => h2.run pins s σ H R I q⟩
end
def fl (chk : Hc → Bool) (p : Pt) (b : SS) : List D → SS
  | [] => fun ds h => if chk h = true then .nx ds h else .bad
  | d :: r => fun ds h => if chk h = true then (match bindP h p d ds with
      | some ds1 => (match b ds1 h with
        | .nx ds' h' => fl chk p b r ds' h'
        | .ct ds' h' => fl chk p b r ds' h'
        | .bk ds' h' => .nx ds' h'
        | o => o)
      | none => .bad) else .bad
def sFor (mi : SI) (p : Pt) (b : SS) : SS := fun ds h => sBd (mi ds h) ds fun it h1 => fl it.chk p b it.items ds h1
theorem PostO.if_ {K : PySem.W.Frag} {mg : Str → Option Value} {W : WX} {ω : Wo} {E : Ends} {c : Prop} [Decidable c] {o : O} (p : PostO K mg W ω E (if c then o else .bad)) : c ∧ PostO K mg W ω E o := by
  by_cases h : c
  · rw [if_pos h] at p; exact ⟨h, p⟩
  · rw [if_neg h] at p; exact False.elim p
theorem ds_for {X : Cx} {W : WX} {tg iter : Expr} {sts : List Stmt} {mi : SI} {p : Pt} {b : SS} {pos : Pos}
    (h : PS X (.For tg iter sts [] pos) (tFor (tI X W mi) (tP X.K p) (tS X W b))) : DS X W (.For tg iter sts [] pos) (sFor mi p b) := ds_of h fun E σ H ⟨ω, h, ds, e1, r, s, q⟩ => by
  subst e1
  refine ⟨ω, h, ds, rfl, r, s, PostO.bd r s q fun it h1 J ω1 ex1 r1 ok s1 p1 => ?_⟩
  refine ⟨fun i m σ' H' => ∃ ω2 h2 ds2, ω2.H = H' ∧ Ext ω1 ω2 ∧ Rel X.K ω2 h2 ∧ RelS X.K ω2 ds2 σ' ∧ m = (it.items.drop i).length ∧ PostO X.K X.mg W ω2 E (fl it.chk p b (it.items.drop i) ds2 h2), ⟨_, ω1, h1, ds, rfl, Ext.refl _, r1, s1, rfl, p1⟩, ?_⟩
  rintro i m σ' H' ⟨ω2, h2, ds2, rfl, e2, r2, s2, hm, p2⟩
  cases q1 : it.items.drop i with
  | nil =>
    rw [q1] at p2
    unfold fl at p2
    obtain ⟨hk, p2⟩ := p2.if_
    refine .inl ⟨(ok i ω2 h2 e2 r2 hk).2 ?_, p2 σ' ω2 (Ext.refl _) r2 s2⟩
    have : it.items.length ≤ i := List.drop_eq_nil_iff.mp q1
    exact List.getElem?_eq_none this
  | cons d rest =>
    rw [q1] at p2
    unfold fl at p2
    obtain ⟨hk, p2⟩ := p2.if_
    have hd : it.items[i]? = some d := by
      have := congrArg (fun l => l[0]?) q1
      simpa using this
    have hrest : it.items.drop (i + 1) = rest := by
      have := congrArg List.tail q1
      simpa using this
    obtain ⟨go, yl⟩ := (ok i ω2 h2 e2 r2 hk).1 d hd
    refine .inr ⟨go, fun σ3 H3 => ∃ ω3 h3 ds3, ω3.H = H3 ∧ Ext ω1 ω3 ∧ Rel X.K ω3 h3 ∧ RelS X.K ω3 ds3 σ3 ∧ PostO X.K X.mg W ω3 E (fl it.chk p b rest ds3 h3), fun σ3 H3 ⟨ω3, h3, ds3, a1, a2, a3, a4, a5⟩ => ⟨rest.length, by rw [hm, q1]; exact Nat.lt_succ_self _, ω3, h3, ds3, a1, a2, a3, a4, by rw [hrest], by rw [hrest]; exact a5⟩, fun x H' hy => ?_⟩
    obtain ⟨ω3, rfl, e3, r3, d3⟩ := yl x H' hy
    cases q2 : bindP h2 p d ds2 with
    | none => rw [q2] at p2; exact False.elim p2
    | some ds3 =>
      rw [q2] at p2
      refine ⟨ω3, h2, ds2, d, ds3, rfl, r3, monoS r2 e3 s2, d3, q2, fun σ4 s4 _ => ⟨ω3, h2, ds3, rfl, r3, s4, ?_⟩⟩
      have p3 := PostO.mono p2 e3
      cases q3 : b ds3 h2 with
      | nx ds' h' => simp only [q3] at p3; exact fun σ5 ω5 e5 r5 s5 => ⟨ω5, h', ds', rfl, (e2.trans e3).trans e5, r5, s5, PostO.mono (o := fl it.chk p b rest ds' h') p3 e5⟩
      | ct ds' h' => simp only [q3] at p3; exact fun σ5 ω5 e5 r5 s5 => ⟨ω5, h', ds', rfl, (e2.trans e3).trans e5, r5, s5, PostO.mono (o := fl it.chk p b rest ds' h') p3 e5⟩
      | bk ds' h' => simp only [q3] at p3; exact p3
      | rt d h' => simp only [q3] at p3; exact p3
      | ex x fs vs ds' h' => simp only [q3] at p3; exact p3
      | bad => simp only [q3] at p3; exact p3
/-! ### comprehensions -/
def R.nox {α : Type} : R α → R α
  | .ok a h => .ok a h
  | _ => .bad
@[simp] theorem R.nox_ok {α : Type} (a : α) (h : Hc) : (R.ok a h).nox = .ok a h := Eq.trans rfl rfl
def wipeD (ds : Sl) : List Nat → Sl
  | [] => ds
  | v :: vs => (wipeD ds vs).set v none
abbrev W0 : WX := fun _ _ _ _ => False
def lcR (chk : Hc → Bool) (p : Pt) (own : List Nat) (c : SB) (m : SE) (ds : Sl) : List D → List D → Hc → R (List D)
  | [], acc, h => if chk h = true then .ok acc h else .bad
  | d :: r, acc, h => if chk h = true then (match bindP h p d (wipeD ds own) with
      | some ds1 => (c ds1 h).nox.bd fun b h1 => if b = true then (m ds1 h1).nox.bd fun y h2 => if acc.length < lim then lcR chk p own c m ds r (acc ++ [y]) h2 else .bad else lcR chk p own c m ds r acc h1
      | none => .bad) else .bad
def eLc (mi : SI) (p : Pt) (own : List Nat) (c : SB) (m : SE) : SE := fun ds h => (mi ds h).bd fun it h1 => (lcR it.chk p own c m ds it.items [] h1).bd fun xs h2 => .ok (.lst xs) h2
def eLcC (mi : SI) (p : Pt) (own : List Nat) (c : SB) (m : SE) : SE := fun ds h => (mi ds h).bd fun it h1 => (lcR it.chk p own c m ds it.items [] h1).bd fun xs h2 => .ok (.ref h2.length) (h2 ++ [.lst xs])
section
variable {K : PySem.W.Frag} {ω ω' : Wo} {h h' : Hc} {ds : Sl} {σ : L2.St}
theorem RelS.wipe (s : RelS K ω ds σ) : ∀ own : List Nat, RelS K ω (wipeD ds own) (wipe σ own)
  | [] => s
  | v :: vs => by
    have ih := RelS.wipe s vs
    unfold wipeD L2.wipe
    refine ⟨by rw [List.length_set, List.length_set]; exact ih.1, fun j d hj => ?_⟩
    by_cases hv : v = j
    · subst hv
      have hl : v < (wipeD ds vs).length := by
        have := (List.getElem?_eq_some_iff.mp hj).1
        rw [List.length_set] at this; exact this
      rw [List.getElem?_set_self hl] at hj; cases hj
    · rw [List.getElem?_set_ne hv] at hj ⊢
      exact ih.2 j d hj
/-- the list at q, which is not read as data, grows -/
theorem hid (r : Rel K ω h) {q : Addr} {vs ws : List V} (hA : ω.A q) (hb : ∀ i, i < ω.n → ω.β i ≠ q) (hq : ω.H q = some (.lst vs)) :
    Rel K (ω.up q (.lst ws)) h ∧ (∀ d v, RelD K ω d v → RelD K (ω.up q (.lst ws)) d v) ∧ ∀ ds vs, RelL K ω ds vs → RelL K (ω.up q (.lst ws)) ds vs := by
  have stT : ∀ p vs', SqT K ω.H p vs' → SqT K (upd ω.H q (.lst ws)) p vs' := fun p vs' x => by
    have ne : ∀ o, ω.H p = some o → (∀ l, o ≠ .lst l) → p ≠ q := fun o z1 z2 e => by rw [e, hq] at z1; cases z1; exact z2 _ rfl
    rcases x with (x | ⟨o, x⟩) | x
    · exact .inl (.inl (by rw [upd_ne (ne _ x (by intro l z; cases z))]; exact x))
    · exact .inl (.inr ⟨o, by rw [upd_ne (ne _ x (by intro l z; cases z))]; exact x⟩)
    · exact .inr x
  have stR : ∀ p o, ω.H p = some o → ¬ ω.A p → (upd ω.H q (.lst ws)) p = some o := fun p o x n => by
    have ne : p ≠ q := fun e => n (e ▸ hA)
    rw [upd_ne ne]; exact x
  have stK : ∀ p vs', LkL K ω p vs' → LkL K (ω.up q (.lst ws)) p vs' := fun p vs' x => by
    rcases x with ⟨o, x⟩ | x
    · refine .inl ⟨o, ?_⟩
      show upd ω.H q (.lst ws) p = _
      rw [upd_ne (fun e => by rw [e, hq] at x; cases x)]; exact x
    · exact .inr x
  have key : (∀ d v, RelD K ω d v → RelD K (ω.up q (.lst ws)) d v) ∧ ∀ ds vs, RelL K ω ds vs → RelL K (ω.up q (.lst ws)) ds vs := by
    have aux := @D.rec (motive_1 := fun d => ∀ v, RelD K ω d v → RelD K (ω.up q (.lst ws)) d v) (motive_2 := fun ds => ∀ vs, RelL K ω ds vs → RelL K (ω.up q (.lst ws)) ds vs)
      (fun v x => by unfold RelD at x ⊢; exact x) (fun b v x => by unfold RelD at x ⊢; exact x) (fun i v x => by unfold RelD at x ⊢; exact x) (fun s v x => by unfold RelD at x ⊢; exact x)
      (fun ds ih v x => by unfold RelD at x ⊢; obtain ⟨p, vs', e1, e2, e3⟩ := x; exact ⟨p, vs', e1, stT p vs' e2, ih _ e3⟩)
      (fun ds ih v x => by unfold RelD at x ⊢; obtain ⟨p, vs', e1, ⟨e2, n⟩, e3⟩ := x; exact ⟨p, vs', e1, ⟨stR _ _ e2 n, n⟩, ih _ e3⟩)
      (fun ds ih v x => by unfold RelD at x ⊢; obtain ⟨p, vs', e1, e2, e3⟩ := x; exact ⟨p, vs', e1, stK _ _ e2, ih _ e3⟩)
      (fun ks ds ih v x => by unfold RelD at x ⊢; obtain ⟨p, vs', e1, ⟨e2, n⟩, e3, e4⟩ := x; exact ⟨p, vs', e1, ⟨stR _ _ e2 n, n⟩, e3, ih _ e4⟩)
      (fun i v x => by unfold RelD at x ⊢; exact x) (fun t v x => by unfold RelD at x ⊢; exact x)
      (fun vs x => by unfold RelL at x ⊢; exact x)
      (fun d ds ih1 ih2 vs x => by unfold RelL at x ⊢; obtain ⟨v, ws', e1, e2, e3⟩ := x; exact ⟨v, ws', e1, ih1 _ e2, ih2 _ e3⟩)
    refine ⟨aux, fun ds => ?_⟩
    induction ds with
    | nil => intro vs x; unfold RelL at x ⊢; exact x
    | cons d ds ih => intro vs x; obtain ⟨v, ws', rfl, e2, e3⟩ := x.inv; exact RelL.cons (aux d v e2) (ih _ e3)
  refine ⟨⟨r.n, r.inj, r.inA, fun p hp z => ?_, fun i c hi => ?_, tabs_keep r.tabs fun b u e nm => by
    show upd ω.H q (.lst ws) b = some u
    rw [upd_ne (fun z => nm (by rw [z, hq] at e; cases e; exact .inl ⟨_, rfl⟩))]; exact e⟩, key.1, key.2⟩
  · have z' : upd ω.H q (.lst ws) p = none := z
    by_cases e : p = q
    · rw [e, upd_same] at z'; cases z'
    · rw [upd_ne e] at z'; exact r.sub p hp z'
  · have hl : i < ω.n := by rw [r.n]; exact (List.getElem?_eq_some_iff.mp hi).1
    have x := r.cel i c hi
    show RelC K (ω.up q (.lst ws)) (ω.β i) c
    cases c with
    | lst xs => obtain ⟨vs', e1, e2⟩ := x; exact ⟨vs', (upd_ne (hb i hl)).trans e1, key.2 _ _ e2⟩
    | dct ks xs => obtain ⟨vs', e1, e3, e2⟩ := x; exact ⟨vs', (upd_ne (hb i hl)).trans e1, e3, key.2 _ _ e2⟩
/-- fewer addresses may change -/
theorem shrink {B : Addr → Prop} (r : Rel K ω h) (hB : ∀ q, B q → ω.A q) (hc : ∀ i, i < ω.n → B (ω.β i)) :
    Rel K { ω with A := B } h ∧ (∀ d v, RelD K ω d v → RelD K { ω with A := B } d v) ∧ ∀ ds vs, RelL K ω ds vs → RelL K { ω with A := B } ds vs := by
  have key : (∀ d v, RelD K ω d v → RelD K { ω with A := B } d v) ∧ ∀ ds vs, RelL K ω ds vs → RelL K { ω with A := B } ds vs := by
    have aux := @D.rec (motive_1 := fun d => ∀ v, RelD K ω d v → RelD K { ω with A := B } d v) (motive_2 := fun ds => ∀ vs, RelL K ω ds vs → RelL K { ω with A := B } ds vs)
      (fun v x => by unfold RelD at x ⊢; exact x) (fun b v x => by unfold RelD at x ⊢; exact x) (fun i v x => by unfold RelD at x ⊢; exact x) (fun s v x => by unfold RelD at x ⊢; exact x)
      (fun ds ih v x => by unfold RelD at x ⊢; obtain ⟨p, vs', e1, e2, e3⟩ := x; exact ⟨p, vs', e1, e2, ih _ e3⟩)
      (fun ds ih v x => by unfold RelD at x ⊢; obtain ⟨p, vs', e1, ⟨e2, n⟩, e3⟩ := x; exact ⟨p, vs', e1, ⟨e2, fun z => n (hB _ z)⟩, ih _ e3⟩)
      (fun ds ih v x => by unfold RelD at x ⊢; obtain ⟨p, vs', e1, e2, e3⟩ := x; exact ⟨p, vs', e1, e2, ih _ e3⟩)
      (fun ks ds ih v x => by unfold RelD at x ⊢; obtain ⟨p, vs', e1, ⟨e2, n⟩, e3, e4⟩ := x; exact ⟨p, vs', e1, ⟨e2, fun z => n (hB _ z)⟩, e3, ih _ e4⟩)
      (fun i v x => by unfold RelD at x ⊢; exact x) (fun t v x => by unfold RelD at x ⊢; exact x)
      (fun vs x => by unfold RelL at x ⊢; exact x)
      (fun d ds ih1 ih2 vs x => by unfold RelL at x ⊢; obtain ⟨v, ws', e1, e2, e3⟩ := x; exact ⟨v, ws', e1, ih1 _ e2, ih2 _ e3⟩)
    refine ⟨aux, fun ds => ?_⟩
    induction ds with
    | nil => intro vs x; unfold RelL at x ⊢; exact x
    | cons d ds ih => intro vs x; obtain ⟨v, ws', rfl, e2, e3⟩ := x.inv; exact RelL.cons (aux d v e2) (ih _ e3)
  refine ⟨⟨r.n, r.inj, hc, fun p hp => r.sub p (hB p hp), fun i c hi => ?_, r.tabs⟩, key.1, key.2⟩
  have x := r.cel i c hi
  cases c with
  | lst xs => obtain ⟨vs', e1, e2⟩ := x; exact ⟨vs', e1, key.2 _ _ e2⟩
  | dct ks xs => obtain ⟨vs', e1, e3, e2⟩ := x; exact ⟨vs', e1, e3, key.2 _ _ e2⟩
end
theorem Post.if_ {α β : Type} {K : PySem.W.Frag} {mg : Str → Option Value} {W : WX} {σ : L2.St} {ω : Wo} {rel : Wo → α → β → Prop} {Q : β → Hp → Prop} {c : Prop} [Decidable c] {o : R α} (p : Post K mg W σ ω rel Q (if c then o else .bad)) : c ∧ Post K mg W σ ω rel Q o := by
  by_cases h : c
  · rw [if_pos h] at p; exact ⟨h, p⟩
  · rw [if_neg h] at p; exact False.elim p
theorem wipe_wipe {σ : L2.St} : ∀ ws : List Nat, wipe (wipe σ ws) ws = wipe σ ws
  | [] => rfl
  | v :: vs => by
    have ih := wipe_wipe (σ := σ) vs
    show (wipe ((wipe σ vs).set v none) vs).set v none = (wipe σ vs).set v none
    by_cases h : v ∈ vs
    · rw [wipe_set_in h, ih]
    · rw [wipe_set_out h, ih, List.set_set]
/-- the world without q -/
def Wo.drop (ω : Wo) (q : Addr) : Wo := { ω with A := fun a => ω.A a ∧ a ≠ q, H := fun a => if a = q then none else ω.H a }
theorem Wo.drop_ne {ω : Wo} {q a : Addr} (h : a ≠ q) : (ω.drop q).H a = ω.H a := if_neg h
theorem Wo.drop_eq {ω : Wo} {q : Addr} : (ω.drop q).H q = none := if_pos rfl
theorem Wo.drop_up {ω : Wo} {q : Addr} {o : HO} : (ω.up q o).drop q = ω.drop q := by
  unfold Wo.drop Wo.up
  congr 1
  funext a
  by_cases h : a = q
  · rw [if_pos h, if_pos h]
  · rw [if_neg h, if_neg h]; exact upd_ne h
theorem Ext.drop {ω ω' : Wo} (e : Ext ω ω') (q : Addr) : Ext (ω.drop q) (ω'.drop q) where
  n := e.n
  b := e.b
  a := fun a h => ⟨e.a a h.1, h.2⟩
  aN := fun a h => by
    rcases e.aN a h.1 with z | z
    · exact .inl ⟨z, h.2⟩
    · exact .inr (by rw [Wo.drop_ne h.2]; exact z)
  nw := fun i h1 h2 => by
    have z := e.nw i h1 h2
    show (if _ then _ else _) = _
    split
    · rfl
    · exact z
  dom := fun a h => by
    by_cases ha : a = q
    · rw [ha]; exact Wo.drop_eq
    · rw [Wo.drop_ne ha] at h ⊢; exact e.dom a h
  keep := fun a o h nt hb => by
    by_cases ha : a = q
    · rw [ha, Wo.drop_eq] at h; cases h
    · rw [Wo.drop_ne ha] at h ⊢; exact e.keep a o h nt hb
/-- into a block, q being the list that is made: nothing is raised there -/
theorem Post.into {α β α' β' : Type} {K : PySem.W.Frag} {mg : Str → Option Value} {W : WX} {σ σ' : L2.St} {ω : Wo} {rel : Wo → α → β → Prop} {Q : β → Hp → Prop} {rel' : Wo → α' → β' → Prop} {Q' : β' → Hp → Prop} {r : R α} {f : α → Hc → R α'} {q : Addr}
    (hp : Post K mg W σ (ω.drop q) rel' Q' (r.nox.bd f)) (hq : ∀ a h b ω', Ext ω ω' → Rel K ω' h → rel ω' a b → Post K mg W σ (ω'.drop q) rel' Q' (f a h) → Q b ω'.H) : Post K mg W0 σ' ω rel Q r := by
  cases r with
  | ok a h => exact fun b ω' e r1 ra => hq a h b ω' e r1 ra (Post.mono (r := f a h) hp (e.drop q))
  | ex x fs ds h => exact False.elim hp
  | bad => exact False.elim hp
theorem bd_bd {α β γ : Type} (r : R α) (f : α → Hc → R β) (g : β → Hc → R γ) : (r.bd f).bd g = r.bd fun a h => (f a h).bd g := by cases r <;> rfl
section
variable {X : Cx} {W : WX} {tg iter elt : Expr} {ifs : List Expr} {mi : SI} {p : Pt} {own : List Nat} {c : SB} {m : SE} {scope : Scope} {pos : Pos}
/-- the comprehension's list is made; fin: what is done with it -/
theorem lcW {fin : List D → Hc → R D} (ho : ∀ i ∈ p.slots, i ∈ own)
    (hfin : ∀ (σ : L2.St) (ω : Wo) (h : Hc) (q : Addr) (xs : List D) (vs : List V) (Q : VK), Rel X.K ω h → ω.H q = some (.lst vs) → ω.A q → (∀ i, i < ω.n → ω.β i ≠ q) → RelL X.K ω xs vs →
      Post X.K X.mg W σ (ω.drop q) (RelD X.K) Q (fin xs h) → Q (.ref q) ω.H) :
    ∀ σ H Q, tE X W (fun ds h => (mi ds h).bd fun it h1 => (lcR it.chk p own c m ds it.items [] h1).bd fin) σ H Q → tLc (tI X W mi) (tP X.K p) (tT X W0 c) (tE X W0 m) own σ H Q := fun σ H Q ⟨ω, h, ds, e1, r, s, q⟩ => by
  subst e1
  refine ⟨ω, h, ds, rfl, r, s, q.bd fun it h1 J ω1 ex1 r1 ok p1 => ?_⟩
  intro Da hD
  have s1 := monoS r ex1 s
  have e0 : Ext ω1 { ω1 with A := fun q => ω1.A q ∨ q = Da, H := upd ω1.H Da (.lst []) } := by
    refine ⟨Nat.le_refl _, fun _ _ => rfl, fun _ z => .inl z, fun q z => ?_, fun i a b => absurd b (Nat.not_lt.mpr a), (Ext.up (o := .lst []) hD).dom, (Ext.up (o := .lst []) hD).keep⟩
    rcases z with z | z
    · exact .inl z
    · exact .inr (by rw [z]; exact hD)
  have nD : ∀ j, j < ω1.n → ω1.β j ≠ Da := fun j hj z => by
    obtain ⟨u, e, _⟩ := r1.mut hj
    rw [z, hD] at e; cases e
  refine ⟨fun i k H' => ∃ ω2 h2 acc vs, ω2.H = H' ∧ Ext ω1 ω2 ∧ Rel X.K ω2 h2 ∧ ω2.A Da ∧ (∀ j, j < ω2.n → ω2.β j ≠ Da) ∧ ω2.H Da = some (.lst vs) ∧ RelL X.K ω2 acc vs ∧ k = (it.items.drop i).length ∧
      Post X.K X.mg W σ (ω2.drop Da) (RelD X.K) Q ((lcR it.chk p own c m ds (it.items.drop i) acc h2).bd fin), ⟨_, { ω1 with A := fun q => ω1.A q ∨ q = Da, H := upd ω1.H Da (.lst []) }, h1, [], [], rfl, e0, ?_, .inr rfl, nD, upd_same, RelL.nil, rfl, ?_⟩, ?_⟩
  · refine r1.ext1 e0 rfl (fun q z w => ?_) (fun i hi => upd_ne (nD i hi)) (tabs_keep r1.tabs fun b u e _ => by
      show upd ω1.H Da (.lst []) b = some u
      rw [upd_ne (ne_of_none e hD)]; exact e)
    have w' : upd ω1.H Da (.lst []) q = none := w
    by_cases e : q = Da
    · rw [e, upd_same] at w'; cases w'
    · rw [upd_ne e] at w'
      rcases z with z | z
      · exact r1.sub q z w'
      · exact e z
  · refine Post.mono (r := (lcR it.chk p own c m ds it.items [] h1).bd fin) p1 ⟨Nat.le_refl _, fun _ _ => rfl, fun a ha => ⟨.inl ha, fun z => r1.free hD (z ▸ ha)⟩, fun a ha => ?_, fun i a b => absurd b (Nat.not_lt.mpr a), fun a ha => ?_, fun a o ha _ _ => ?_⟩
    · rcases ha.1 with z | z
      · exact .inl z
      · exact absurd z ha.2
    · by_cases z : a = Da
      · rw [z]; exact hD
      · rw [Wo.drop_ne z] at ha
        have ha' : upd ω1.H Da (.lst []) a = none := ha
        rw [upd_ne z] at ha'; exact ha'
    · have z := ne_of_none ha hD
      rw [Wo.drop_ne z]
      show upd ω1.H Da (.lst []) a = some o
      rw [upd_ne z]; exact ha
  · rintro i k H' ⟨ω2, h2, acc, vs, rfl, e2, r2, aD, bD, hDa, rl, hk, p2⟩
    cases q1 : it.items.drop i with
    | nil =>
      rw [q1] at p2
      unfold lcR at p2
      by_cases hck : it.chk h2 = true
      · rw [if_pos hck] at p2
        refine .inl ⟨(ok i ω2 h2 e2 r2 hck).2 (List.getElem?_eq_none (List.drop_eq_nil_iff.mp q1)), ?_⟩
        exact hfin σ ω2 h2 Da acc vs Q r2 hDa aD bD rl p2
      · rw [if_neg hck] at p2; exact False.elim p2
    | cons d rest =>
      rw [q1] at p2
      unfold lcR at p2
      by_cases hck : it.chk h2 = true
      · rw [if_pos hck] at p2
        have hd : it.items[i]? = some d := by
          have := congrArg (fun l => l[0]?) q1
          simpa using this
        have hrest : it.items.drop (i + 1) = rest := by
          have := congrArg List.tail q1
          simpa using this
        obtain ⟨go, yl⟩ := (ok i ω2 h2 e2 r2 hck).1 d hd
        refine .inr ⟨go, fun H3 => ∃ ω3 h3 acc vs, ω3.H = H3 ∧ Ext ω1 ω3 ∧ Rel X.K ω3 h3 ∧ ω3.A Da ∧ (∀ j, j < ω3.n → ω3.β j ≠ Da) ∧ ω3.H Da = some (.lst vs) ∧ RelL X.K ω3 acc vs ∧ Post X.K X.mg W σ (ω3.drop Da) (RelD X.K) Q ((lcR it.chk p own c m ds rest acc h3).bd fin),
          fun H3 ⟨ω3, h3, acc', vs', a1, a2, a3, a4, a5, a6, a7, a8⟩ => ⟨rest.length, by rw [hk, q1]; exact Nat.lt_succ_self _, ω3, h3, acc', vs', a1, a2, a3, a4, a5, a6, a7, by rw [hrest], by rw [hrest]; exact a8⟩, fun x H' hy => ?_⟩
        obtain ⟨ω3, rfl, e3, r3, d3⟩ := yl x H' hy
        cases q2 : bindP h2 p d (wipeD ds own) with
        | none => rw [q2] at p2; exact False.elim p2
        | some ds3 =>
          rw [q2] at p2
          have st : ∀ {ω4 : Wo}, Ext ω2 ω4 → ω4.A Da ∧ (∀ j, j < ω4.n → ω4.β j ≠ Da) ∧ ω4.H Da = some (.lst vs) := fun {ω4} e4 => by
            refine ⟨e4.a _ aD, fun j hj z => ?_, e4.keep _ _ hDa (by intro _ z; cases z) fun j hj => bD j hj⟩
            by_cases hj2 : j < ω2.n
            · rw [e4.b j hj2] at z; exact bD j hj2 z
            · have := e4.nw j (Nat.not_lt.mp hj2) hj
              rw [z, hDa] at this; cases this
          refine ⟨ω3, h2, wipeD ds own, d, ds3, rfl, r3, monoS r2 e3 (monoS r1 e2 s1 |>.wipe own), d3, q2, fun σ4 s4 hw => ⟨(hw own ho).trans (wipe_wipe own), ω3, h2, ds3, rfl, r3, s4, ?_⟩⟩
          have p3 := Post.mono p2 (e3.drop Da)
          simp only at p3
          rw [bd_bd] at p3
          refine Post.into p3 fun b h4 b' ω4 e4 r4 hb p4 => ?_
          have hb' : b = b' := hb
          subst hb'
          obtain ⟨aD4, bD4, hD4⟩ := st (e3.trans e4)
          cases b with
          | false => exact ⟨ω4, h4, acc, vs, rfl, (e2.trans e3).trans e4, r4, aD4, bD4, hD4, monoL r2 (e3.trans e4) _ _ rl, p4⟩
          | true =>
            rw [if_pos rfl] at p4 ⊢
            rw [bd_bd] at p4
            refine ⟨ω4, h4, ds3, rfl, r4, monoS r3 e4 s4, Post.into p4 fun y h5 v ω5 e5 r5 hy p5 => ?_⟩
            obtain ⟨aD5, bD5, hD5⟩ := st ((e3.trans e4).trans e5)
            have rl5 := monoL r2 ((e3.trans e4).trans e5) _ _ rl
            by_cases hl : acc.length < lim
            · rw [if_pos hl] at p5
              obtain ⟨k1, k2, k3⟩ := hid (ws := vs ++ [v]) r5 aD5 bD5 hD5
              refine ⟨vs, hD5, by rw [← rl5.len]; exact lim_lt hl, ω5.up Da (.lst (vs ++ [v])), h5, acc ++ [y], vs ++ [v], rfl, ?_, k1, aD5, bD5, upd_same, k3 _ _ (rl5.append (RelL.cons hy RelL.nil)), by rw [Wo.drop_up]; exact p5⟩
              have e15 := ((e2.trans e3).trans e4).trans e5
              refine ⟨e15.n, e15.b, e15.a, e15.aN, e15.nw, fun a ha => ?_, fun a o ha nt hb => ?_⟩
              · have ha' : upd ω5.H Da (.lst (vs ++ [v])) a = none := ha
                by_cases z : a = Da
                · rw [z, upd_same] at ha'; cases ha'
                · rw [upd_ne z] at ha'; exact e15.dom a ha'
              · have z := ne_of_none ha hD
                show upd ω5.H Da (.lst (vs ++ [v])) a = some o
                rw [upd_ne z]; exact e15.keep a o ha nt hb
            · rw [if_neg hl] at p5; exact False.elim p5
      · rw [if_neg hck] at p2; exact False.elim p2
theorem lc_fz (σ : L2.St) (ω : Wo) (h : Hc) (q : Addr) (xs : List D) (vs : List V) (Q : VK) (r : Rel X.K ω h) (hq : ω.H q = some (.lst vs)) (aq : ω.A q) (bq : ∀ i, i < ω.n → ω.β i ≠ q) (rl : RelL X.K ω xs vs)
    (p : Post X.K X.mg W σ (ω.drop q) (RelD X.K) Q (.ok (.lst xs) h)) : Q (.ref q) ω.H := by
  obtain ⟨k1, k2, k3⟩ := shrink (B := fun a => ω.A a ∧ a ≠ q) r (fun _ z => z.1) fun i hi => ⟨r.inA i hi, bq i hi⟩
  refine p (.ref q) { ω with A := fun a => ω.A a ∧ a ≠ q } ⟨Nat.le_refl _, fun _ _ => rfl, fun _ z => z, fun _ z => .inl z, fun i a b => absurd b (Nat.not_lt.mpr a), fun a ha => ?_, fun a o ha _ _ => ?_⟩ k1 ?_
  · by_cases z : a = q
    · rw [z]; exact Wo.drop_eq
    · rw [Wo.drop_ne z]; exact ha
  · by_cases z : a = q
    · rw [z, Wo.drop_eq] at ha; cases ha
    · rw [Wo.drop_ne z] at ha; exact ha
  · unfold RelD
    exact ⟨q, vs, rfl, ⟨hq, fun z => z.2 rfl⟩, k3 _ _ rl⟩
theorem lc_cell (σ : L2.St) (ω : Wo) (h : Hc) (q : Addr) (xs : List D) (vs : List V) (Q : VK) (r : Rel X.K ω h) (hq : ω.H q = some (.lst vs)) (aq : ω.A q) (bq : ∀ i, i < ω.n → ω.β i ≠ q) (rl : RelL X.K ω xs vs)
    (p : Post X.K X.mg W σ (ω.drop q) (RelD X.K) Q (.ok (.ref h.length) (h ++ [.lst xs]))) : Q (.ref q) ω.H := by
  have e1 : Ext ω ⟨ω.A, fun i => if i = ω.n then q else ω.β i, ω.n + 1, ω.H⟩ ∨ True := .inr trivial
  -- the data keep their meaning when one more cell is counted
  have key : (∀ d v, RelD X.K ω d v → RelD X.K ⟨ω.A, fun i => if i = ω.n then q else ω.β i, ω.n + 1, ω.H⟩ d v) ∧ ∀ ds vs, RelL X.K ω ds vs → RelL X.K ⟨ω.A, fun i => if i = ω.n then q else ω.β i, ω.n + 1, ω.H⟩ ds vs := by
    have aux := @D.rec (motive_1 := fun d => ∀ v, RelD X.K ω d v → RelD X.K ⟨ω.A, fun i => if i = ω.n then q else ω.β i, ω.n + 1, ω.H⟩ d v) (motive_2 := fun ds => ∀ vs, RelL X.K ω ds vs → RelL X.K ⟨ω.A, fun i => if i = ω.n then q else ω.β i, ω.n + 1, ω.H⟩ ds vs)
      (fun v x => by unfold RelD at x ⊢; exact x) (fun b v x => by unfold RelD at x ⊢; exact x) (fun i v x => by unfold RelD at x ⊢; exact x) (fun s v x => by unfold RelD at x ⊢; exact x)
      (fun ds ih v x => by unfold RelD at x ⊢; obtain ⟨p, vs', e1, e2, e3⟩ := x; exact ⟨p, vs', e1, e2, ih _ e3⟩)
      (fun ds ih v x => by unfold RelD at x ⊢; obtain ⟨p, vs', e1, e2, e3⟩ := x; exact ⟨p, vs', e1, e2, ih _ e3⟩)
      (fun ds ih v x => by unfold RelD at x ⊢; obtain ⟨p, vs', e1, e2, e3⟩ := x; exact ⟨p, vs', e1, e2, ih _ e3⟩)
      (fun ks ds ih v x => by unfold RelD at x ⊢; obtain ⟨p, vs', e1, e2, e3, e4⟩ := x; exact ⟨p, vs', e1, e2, e3, ih _ e4⟩)
      (fun i v x => by unfold RelD at x ⊢; exact ⟨Nat.lt_succ_of_lt x.1, by rw [x.2]; show _ = V.ref (if i = ω.n then q else ω.β i); rw [if_neg (Nat.ne_of_lt x.1)]⟩) (fun t v x => by unfold RelD at x ⊢; exact x)
      (fun vs x => by unfold RelL at x ⊢; exact x)
      (fun d ds ih1 ih2 vs x => by unfold RelL at x ⊢; obtain ⟨v, ws', e1, e2, e3⟩ := x; exact ⟨v, ws', e1, ih1 _ e2, ih2 _ e3⟩)
    refine ⟨aux, fun ds => ?_⟩
    induction ds with
    | nil => intro vs x; unfold RelL at x ⊢; exact x
    | cons d ds ih => intro vs x; obtain ⟨v, ws', rfl, e2, e3⟩ := x.inv; exact RelL.cons (aux d v e2) (ih _ e3)
  refine p (.ref q) ⟨ω.A, fun i => if i = ω.n then q else ω.β i, ω.n + 1, ω.H⟩ ⟨Nat.le_succ _, fun i hi => if_neg (Nat.ne_of_lt hi), fun _ z => z.1, fun a z => ?_, fun i a b => ?_, fun a ha => ?_, fun a o ha _ _ => ?_⟩ ⟨?_, fun i j hi hj z => ?_, fun i hi => ?_, r.sub, fun i c hi => ?_, r.tabs⟩ ?_
  · by_cases e : a = q
    · exact .inr (by rw [e]; exact Wo.drop_eq)
    · exact .inl ⟨z, e⟩
  · have b' : i < ω.n + 1 := b
    have a' : ω.n ≤ i := a
    show (ω.drop q).H (if i = ω.n then q else ω.β i) = none
    rw [if_pos (by omega)]; exact Wo.drop_eq
  · by_cases z : a = q
    · rw [z]; exact Wo.drop_eq
    · rw [Wo.drop_ne z]; exact ha
  · by_cases z : a = q
    · rw [z, Wo.drop_eq] at ha; cases ha
    · rw [Wo.drop_ne z] at ha; exact ha
  · rw [List.length_append, ← r.n]; rfl
  · have hi' : i < ω.n + 1 := hi
    have hj' : j < ω.n + 1 := hj
    have z' : (if i = ω.n then q else ω.β i) = (if j = ω.n then q else ω.β j) := z
    by_cases e1 : i = ω.n
    · by_cases e2 : j = ω.n
      · omega
      · rw [if_pos e1, if_neg e2] at z'
        exact absurd z'.symm (bq j (by omega))
    · by_cases e2 : j = ω.n
      · rw [if_neg e1, if_pos e2] at z'
        exact absurd z' (bq i (by omega))
      · rw [if_neg e1, if_neg e2] at z'
        exact r.inj i j (by omega) (by omega) z'
  · have hi' : i < ω.n + 1 := hi
    show ω.A (if i = ω.n then q else ω.β i)
    by_cases e1 : i = ω.n
    · rw [if_pos e1]; exact aq
    · rw [if_neg e1]; exact r.inA i (by omega)
  · show RelC X.K _ (if i = ω.n then q else ω.β i) c
    by_cases e1 : i = ω.n
    · have e2 : i = h.length := e1.trans r.n
      rw [List.getElem?_append_right (by omega), e2, Nat.sub_self] at hi
      have e3 : C.lst xs = c := by simpa using hi
      subst e3
      rw [if_pos e1]
      exact ⟨vs, hq, key.2 _ _ rl⟩
    · have hlt : i < ω.n := by
        have := (List.getElem?_eq_some_iff.mp hi).1
        rw [List.length_append, ← r.n] at this
        simp at this; omega
      rw [List.getElem?_append_left (by rw [← r.n]; exact hlt)] at hi
      rw [if_neg e1]
      have x := r.cel i c hi
      cases c with
      | lst ys => obtain ⟨vs', e1, e2⟩ := x; exact ⟨vs', e1, key.2 _ _ e2⟩
      | dct ks ys => obtain ⟨vs', e1, e3, e2⟩ := x; exact ⟨vs', e1, e3, key.2 _ _ e2⟩
  · unfold RelD
    rw [← r.n]
    exact ⟨Nat.lt_succ_self _, by show _ = V.ref (if ω.n = ω.n then q else _); rw [if_pos rfl]⟩
theorem de_lc (ho : ∀ i ∈ p.slots, i ∈ own) (h : PE X (.ListComp elt [⟨tg, iter, ifs, 0⟩] scope pos) (tLc (tI X W mi) (tP X.K p) (tT X W0 c) (tE X W0 m) own)) : DE X W (.ListComp elt [⟨tg, iter, ifs, 0⟩] scope pos) (eLc mi p own c m) :=
  de_of h (lcW (fin := fun xs h => .ok (.lst xs) h) ho lc_fz)
theorem de_lcC (ho : ∀ i ∈ p.slots, i ∈ own) (h : PE X (.ListComp elt [⟨tg, iter, ifs, 0⟩] scope pos) (tLc (tI X W mi) (tP X.K p) (tT X W0 c) (tE X W0 m) own)) : DE X W (.ListComp elt [⟨tg, iter, ifs, 0⟩] scope pos) (eLcC mi p own c m) :=
  de_of h (lcW (fin := fun xs h => .ok (.ref h.length) (h ++ [.lst xs])) ho lc_cell)
end
end Mp
/-! LayD: calls and defs. -/
namespace Mp
open PySem PySem.Spec PyProof.Rows L2
mutual
/-- no cell within -/
def flat : D → Bool
  | .ref _ => false
  | .tup ds => flatL ds
  | .lst ds => flatL ds
  | .scr ds => flatL ds
  | .dct _ ds => flatL ds
  | _ => true
def flatL : List D → Bool
  | [] => true
  | d :: ds => flat d && flatL ds
end
def flatC : C → Bool
  | .lst ds => flatL ds
  | .dct _ ds => flatL ds
abbrev Fn := List D → Hc → R D
/-- a def's promise -/
def spD (K : PySem.W.Frag) (mg : Str → Option Value) (np : Nat) (m : Fn) : Sp := fun vs H Q E =>
  vs.length = np ∧ ∃ ω h ds, ω.H = H ∧ Rel K ω h ∧ RelL K ω ds vs ∧ Post K mg (fun c d _ H' => E c d H') ([] : L2.St) ω (RelD K) Q (m ds h)
/-! ### a def's body -/
def runB (n : Nat) (m : SS) : Fn := fun as h => match m (as.map some ++ List.replicate (n - as.length) none) h with
  | .nx _ h' => .ok .non h'
  | .rt d h' => .ok d h'
  | .ex x fs vs _ h' => .ex x fs vs h'
  | _ => .bad
abbrev WF (E : XK) : WX := fun c d _ H => E c d H
theorem RelL.slots {K : PySem.W.Frag} {ω : Wo} : ∀ {ds : List D} {vs : List V} {n : Nat}, RelL K ω ds vs → RelS K ω (ds.map some ++ List.replicate n none) (vs.map some ++ List.replicate n none)
  | [], vs, n, x => by
    rw [x.inv0]
    refine ⟨by simp, fun i d hi => ?_⟩
    simp [List.getElem?_replicate] at hi
  | d :: ds, vs, n, x => by
    obtain ⟨v, ws, rfl, e2, e3⟩ := x.inv
    have ih := RelL.slots (n := n) e3
    refine ⟨by simpa using ih.1, fun i d' hi => ?_⟩
    cases i with
    | zero =>
      have : d = d' := by simpa using hi
      subst this
      exact ⟨v, rfl, e2⟩
    | succ i => exact ih.2 i d' (by simpa using hi)
section
variable {P : Program} {w : World} {K : PySem.W.Frag} {mg : Str → Option Value} {base : Heap}
theorem fn_ok {x qual : Str} {st : Stmt} {f : Addr} {fd : FuncData} {N ps : List Str} {k : Nat} {m : SS} (F : Fun K x qual st f fd) (S : FnScope N ps (defScope st))
    (hb : ∀ (cdv : Value) (A : Around) (outer : List Env) (s : Shared) (H : Hp) (E : XK), Room k (A.deeper (envOfC qual (defScope st) s.heap.objs.size f cdv)) →
      DSs (cxOf (L2.CX P w) P w K mg base N qual (defScope st) f cdv A outer s H E) (WF E) (defBody st) m) :
    FnOk P w K mg base (L2.CX P w) (k + 1) f fd ps (spD K mg ps.length (runB N.length m)) :=
  F.okX S (fun vs H Q E h => h.1) fun cdv A outer s H vs Q E hr h => by
    refine ⟨_, hb cdv A outer s H E hr, ?_⟩
    obtain ⟨hl, ω, h, ds, e1, r, rl, p⟩ := h
    subst e1
    have e2 : N.length - ds.length = N.length - vs.length := by rw [rl.len]
    refine ⟨ω, h, ds.map some ++ List.replicate (N.length - ds.length) none, rfl, r, by rw [e2]; exact rl.slots, ?_⟩
    unfold runB at p
    cases q : m (ds.map some ++ List.replicate (N.length - ds.length) none) h with
    | nx ds' h' => rw [q] at p; exact fun σ' ω' e r' s' => p _ ω' e r' (by unfold RelD; rfl)
    | rt d h' => rw [q] at p; exact fun v ω' e r' s' => p _ ω' e r' s'
    | bk ds' h' => rw [q] at p; exact False.elim p
    | ct ds' h' => rw [q] at p; exact False.elim p
    | ex x fs vs' ds' h' => rw [q] at p; exact fun c d σ' ω' e r' s' rx => p c d ω' e r' rx
    | bad => rw [q] at p; exact False.elim p
end
/-! ### a call over the caller's cells -/
def eCallG (m : Fn) (as : SA) : SE := fun ds h => (as ds h).bd fun xs h1 => m xs h1
/-! ### a call: the callee sees the cells that are passed, no others -/
def refsOf : List D → List Nat
  | [] => []
  | .ref i :: r => let l := refsOf r; if i ∈ l then l else i :: l
  | _ :: r => refsOf r
def renD (rs : List Nat) : D → Option D
  | .ref i => (rs.findIdx? (· == i)).map .ref
  | d => if flat d = true then some d else none
def renL (rs : List Nat) : List D → Option (List D)
  | [] => some []
  | d :: ds => match renD rs d, renL rs ds with
    | some e, some es => some (e :: es)
    | _, _ => none
def cellsAt (h : Hc) : List Nat → Option (List C)
  | [] => some []
  | i :: r => match h[i]?, cellsAt h r with
    | some c, some cs => some (c :: cs)
    | _, _ => none
/-- what is handed back: a cell of the callee's own is never changed any more -/
def frzD (rs : List Nat) (h : Hc) : Nat → D → Option D
  | 0, d => if flat d = true then some d else none
  | n + 1, d => if flat d = true then some d else match d with
    | .ref i => if i < rs.length then (rs[i]?).map .ref else match h[i]? with
      | some (.lst ds) => (frzL (frzD rs h n) ds).map .lst
      | some (.dct ks ds) => (frzL (frzD rs h n) ds).map (.dct ks)
      | none => none
    | .tup ds => (frzL (frzD rs h n) ds).map .tup
    | _ => none
where
  frzL (f : D → Option D) : List D → Option (List D)
    | [] => some []
    | d :: ds => match f d, frzL f ds with
      | some e, some es => some (e :: es)
      | _, _ => none
def wb : Hc → List Nat → Hc → Hc
  | h, r :: rs, c :: cs => wb (h.set r c) rs cs
  | h, _, _ => h
def callL (m : Fn) (as : List D) (h : Hc) : R D :=
  match renL (refsOf as) as, cellsAt h (refsOf as) with
  | some as', some hc => if hc.all flatC = true then (match m as' hc with
    | .ok d h' => match frzD (refsOf as) h' 8 d with
      | some d' => if (h'.take (refsOf as).length).all flatC = true then .ok d' (wb h (refsOf as) h') else .bad
      | none => .bad
    | .ex x fs vs h' => if (h'.take (refsOf as).length).all flatC = true ∧ flatL vs = true then .ex x fs vs (wb h (refsOf as) h') else .bad
    | .bad => .bad) else .bad
  | _, _ => .bad
def eCall (m : Fn) (as : SA) : SE := fun ds h => (as ds h).bd fun xs h1 => callL m xs h1
section
variable {K : PySem.W.Frag} {ω ω' ω1 ω2 : Wo} {h h' : Hc}
theorem flat_rel (hH : ω2.H = ω1.H) (hA : ∀ p, ω2.A p → ω1.A p) : (∀ d v, flat d = true → RelD K ω1 d v → RelD K ω2 d v) ∧ ∀ ds vs, flatL ds = true → RelL K ω1 ds vs → RelL K ω2 ds vs := by
  have aux := @D.rec (motive_1 := fun d => ∀ v, flat d = true → RelD K ω1 d v → RelD K ω2 d v) (motive_2 := fun ds => ∀ vs, flatL ds = true → RelL K ω1 ds vs → RelL K ω2 ds vs)
    (fun v _ x => by unfold RelD at x ⊢; exact x) (fun b v _ x => by unfold RelD at x ⊢; exact x) (fun i v _ x => by unfold RelD at x ⊢; exact x) (fun s v _ x => by unfold RelD at x ⊢; exact x)
    (fun ds ih v hf x => by unfold RelD at x ⊢; obtain ⟨p, vs', e1, e2, e3⟩ := x; exact ⟨p, vs', e1, by rw [hH]; exact e2, ih _ (by simpa [flat] using hf) e3⟩)
    (fun ds ih v hf x => by unfold RelD at x ⊢; obtain ⟨p, vs', e1, ⟨e2, n⟩, e3⟩ := x; exact ⟨p, vs', e1, ⟨by rw [hH]; exact e2, fun z => n (hA _ z)⟩, ih _ (by simpa [flat] using hf) e3⟩)
    (fun ds ih v hf x => by
      unfold RelD at x ⊢
      obtain ⟨p, vs', e1, e2, e3⟩ := x
      refine ⟨p, vs', e1, ?_, ih _ (by simpa [flat] using hf) e3⟩
      rcases e2 with ⟨o, e2⟩ | e2
      · exact .inl ⟨o, by rw [hH]; exact e2⟩
      · exact .inr e2)
    (fun ks ds ih v hf x => by unfold RelD at x ⊢; obtain ⟨p, vs', e1, ⟨e2, n⟩, e3, e4⟩ := x; exact ⟨p, vs', e1, ⟨by rw [hH]; exact e2, fun z => n (hA _ z)⟩, e3, ih _ (by simpa [flat] using hf) e4⟩)
    (fun i v hf x => by simp [flat] at hf) (fun t v _ x => by unfold RelD at x ⊢; exact x)
    (fun vs _ x => by unfold RelL at x ⊢; exact x)
    (fun d ds ih1 ih2 vs hf x => by
      unfold RelL at x ⊢
      obtain ⟨v, ws', e1, e2, e3⟩ := x
      simp [flatL] at hf
      exact ⟨v, ws', e1, ih1 _ hf.1 e2, ih2 _ hf.2 e3⟩)
  refine ⟨aux, fun ds => ?_⟩
  induction ds with
  | nil => intro vs _ x; unfold RelL at x ⊢; exact x
  | cons d ds ih =>
    intro vs hf x
    obtain ⟨v, ws', rfl, e2, e3⟩ := x.inv
    simp [flatL] at hf
    exact RelL.cons (aux d v hf.1 e2) (ih _ hf.2 e3)
theorem flat_relC {p : Addr} {c : C} (hH : ω2.H = ω1.H) (hA : ∀ p, ω2.A p → ω1.A p) (hf : flatC c = true) (x : RelC K ω1 p c) : RelC K ω2 p c := by
  cases c with
  | lst ds => obtain ⟨vs, e1, e2⟩ := x; exact ⟨vs, by rw [hH]; exact e1, (flat_rel hH hA).2 _ _ hf e2⟩
  | dct ks ds => obtain ⟨vs, e1, e3, e2⟩ := x; exact ⟨vs, by rw [hH]; exact e1, e3, (flat_rel hH hA).2 _ _ hf e2⟩
theorem refsOf_nodup : ∀ as : List D, (refsOf as).Nodup
  | [] => List.nodup_nil
  | d :: r => by
    have ih := refsOf_nodup r
    cases d <;> try exact ih
    rename_i i
    show (let l := refsOf r; if i ∈ l then l else i :: l).Nodup
    by_cases hi : i ∈ refsOf r
    · simp only [hi, if_true]; exact ih
    · simp only [hi, if_false]; exact List.nodup_cons.mpr ⟨hi, ih⟩
theorem cellsAt_get : ∀ {rs : List Nat} {cs : List C} {j : Nat} {i : Nat}, cellsAt h rs = some cs → rs[j]? = some i → ∃ c, cs[j]? = some c ∧ h[i]? = some c
  | [], _, j, i, _, e => by simp at e
  | r :: rs, cs, j, i, q, e => by
    unfold cellsAt at q
    cases q1 : h[r]? with
    | none => simp [q1] at q
    | some c =>
      cases q2 : cellsAt h rs with
      | none => simp [q1, q2] at q
      | some cs' =>
        simp [q1, q2] at q; subst q
        cases j with
        | zero => have : r = i := by simpa using e
                  subst this
                  exact ⟨c, rfl, q1⟩
        | succ j =>
          obtain ⟨c', z1, z2⟩ := cellsAt_get (j := j) q2 (by simpa using e)
          exact ⟨c', by simpa using z1, z2⟩
theorem cellsAt_len : ∀ {rs : List Nat} {cs : List C}, cellsAt h rs = some cs → cs.length = rs.length
  | [], cs, q => by simp [cellsAt] at q; subst q; rfl
  | r :: rs, cs, q => by
    unfold cellsAt at q
    cases q1 : h[r]? with
    | none => simp [q1] at q
    | some c =>
      cases q2 : cellsAt h rs with
      | none => simp [q1, q2] at q
      | some cs' => simp [q1, q2] at q; subst q; simp [cellsAt_len q2]
/-- the callee's world -/
def Wo.sub (ω : Wo) (rs : List Nat) : Wo := { ω with β := fun j => ω.β (rs.getD j 0), n := rs.length }
theorem sub_at {rs : List Nat} {j i : Nat} (e : rs[j]? = some i) : (ω.sub rs).β j = ω.β i := by
  show ω.β (rs.getD j 0) = ω.β i
  rw [List.getD_eq_getElem?_getD, e]; rfl
theorem rs_lt {rs : List Nat} {hc : List C} (r : Rel K ω h) (q : cellsAt h rs = some hc) {j i : Nat} (e : rs[j]? = some i) : i < ω.n := by
  obtain ⟨c, _, z⟩ := cellsAt_get q e
  rw [r.n]; exact (List.getElem?_eq_some_iff.mp z).1
theorem Rel.sub_ {rs : List Nat} {hc : List C} (r : Rel K ω h) (nd : rs.Nodup) (q : cellsAt h rs = some hc) (hf : hc.all flatC = true) : Rel K (ω.sub rs) hc where
  tabs := r.tabs
  n := (cellsAt_len q).symm
  inj := fun i j hi hj z => by
    have hi' : i < rs.length := hi
    have hj' : j < rs.length := hj
    have e1 := List.getElem?_eq_getElem hi'
    have e2 := List.getElem?_eq_getElem hj'
    rw [sub_at e1, sub_at e2] at z
    have := r.inj _ _ (rs_lt r q e1) (rs_lt r q e2) z
    exact (List.getElem_inj nd).mp this
  inA := fun i hi => by
    have hi' : i < rs.length := hi
    have e1 := List.getElem?_eq_getElem hi'
    rw [sub_at e1]
    exact r.inA _ (rs_lt r q e1)
  sub := r.sub
  cel := fun j c hj => by
    have hl : j < rs.length := by rw [← cellsAt_len q]; exact (List.getElem?_eq_some_iff.mp hj).1
    have e1 := List.getElem?_eq_getElem hl
    obtain ⟨c', z1, z2⟩ := cellsAt_get q e1
    rw [hj] at z1; cases z1
    rw [sub_at e1]
    exact flat_relC (ω1 := ω) rfl (fun _ z => z) (List.all_eq_true.mp hf c (List.mem_of_getElem? hj)) (r.cel _ _ z2)
theorem findIdx_some {rs : List Nat} {i j : Nat} (e : rs.findIdx? (· == i) = some j) : rs[j]? = some i := by
  obtain ⟨h1, h2, _⟩ := List.findIdx?_eq_some_iff_getElem.mp e
  rw [List.getElem?_eq_getElem h1]
  simpa using h2
theorem renD_rel {rs : List Nat} {d e : D} {v : V} (q : renD rs d = some e) (x : RelD K ω d v) : RelD K (ω.sub rs) e v := by
  by_cases hr : ∃ i, d = .ref i
  · obtain ⟨i, rfl⟩ := hr
    unfold renD at q
    cases q1 : rs.findIdx? (· == i) with
    | none => simp [q1] at q
    | some j =>
      simp [q1] at q; subst q
      have z := findIdx_some q1
      unfold RelD at x ⊢
      refine ⟨(List.getElem?_eq_some_iff.mp z).1, ?_⟩
      rw [sub_at z]; exact x.2
  · have q' : (if flat d = true then some d else none) = some e := by
      cases d <;> first | exact q | exact absurd ⟨_, rfl⟩ hr
    by_cases hf : flat d = true
    · rw [if_pos hf] at q'
      cases q'
      exact (flat_rel (ω1 := ω) (ω2 := ω.sub rs) rfl fun _ z => z).1 _ _ hf x
    · rw [if_neg hf] at q'; cases q'
theorem renL_rel {rs : List Nat} : ∀ {ds es : List D} {vs : List V}, renL rs ds = some es → RelL K ω ds vs → RelL K (ω.sub rs) es vs
  | [], es, vs, q, x => by simp [renL] at q; subst q; rw [x.inv0]; exact RelL.nil
  | d :: ds, es, vs, q, x => by
    obtain ⟨v, ws, rfl, e2, e3⟩ := x.inv
    unfold renL at q
    cases q1 : renD rs d with
    | none => simp [q1] at q
    | some e =>
      cases q2 : renL rs ds with
      | none => simp [q1, q2] at q
      | some es' => simp [q1, q2] at q; subst q; exact RelL.cons (renD_rel q1 e2) (renL_rel q2 e3)
/-- behind the call: the caller's world -/
def Wo.back (ω ω' : Wo) : Wo := { ω with H := ω'.H }
theorem Ext.back {rs : List Nat} (hl : ∀ (j i : Nat), rs[j]? = some i → i < ω.n) (e : Ext (ω.sub rs) ω') : Ext ω (ω.back ω') where
  n := Nat.le_refl _
  b := fun _ _ => rfl
  a := fun _ z => z
  aN := fun _ z => .inl z
  nw := fun i a b => absurd b (Nat.not_lt.mpr a)
  dom := e.dom
  keep := fun q o hq nt hb => e.keep q o hq nt fun j hj z => by
    have hj' : j < rs.length := hj
    have e1 := List.getElem?_eq_getElem hj'
    rw [sub_at e1] at z
    exact hb _ (hl j _ e1) z
theorem frz_rel {rs : List Nat} (r : Rel K ω h) (hl : ∀ (j i : Nat), rs[j]? = some i → i < ω.n) (e : Ext (ω.sub rs) ω') (r' : Rel K ω' h') : ∀ (n : Nat) (d d' : D) (v : V), frzD rs h' n d = some d' → RelD K ω' d v → RelD K (ω.back ω') d' v := by
  have hA : ∀ p, (ω.back ω').A p → ω'.A p := fun p z => e.a p z
  have one : ∀ d v, flat d = true → RelD K ω' d v → RelD K (ω.back ω') d v := (flat_rel (ω1 := ω') (ω2 := ω.back ω') rfl hA).1
  have lst : ∀ (f : D → Option D), (∀ d d' v, f d = some d' → RelD K ω' d v → RelD K (ω.back ω') d' v) → ∀ ds ds' vs, frzD.frzL f ds = some ds' → RelL K ω' ds vs → RelL K (ω.back ω') ds' vs := fun f hf ds => by
    induction ds with
    | nil => intro ds' vs q x; simp [frzD.frzL] at q; subst q; rw [x.inv0]; exact RelL.nil
    | cons d ds ih =>
      intro ds' vs q x
      obtain ⟨v, ws, rfl, e2, e3⟩ := x.inv
      unfold frzD.frzL at q
      cases q1 : f d with
      | none => simp [q1] at q
      | some e =>
        cases q2 : frzD.frzL f ds with
        | none => simp [q1, q2] at q
        | some es' => simp [q1, q2] at q; subst q; exact RelL.cons (hf _ _ _ q1 e2) (ih _ _ q2 e3)
  intro n
  induction n with
  | zero =>
    intro d d' v q x
    unfold frzD at q
    by_cases hf : flat d = true
    · rw [if_pos hf] at q; cases q; exact one _ _ hf x
    · rw [if_neg hf] at q; cases q
  | succ n ih =>
    intro d d' v q x
    unfold frzD at q
    by_cases hf : flat d = true
    · rw [if_pos hf] at q; cases q; exact one _ _ hf x
    · rw [if_neg hf] at q
      cases d with
      | ref i =>
        simp only at q
        unfold RelD at x
        obtain ⟨hi, rfl⟩ := x
        by_cases hr : i < rs.length
        · rw [if_pos hr] at q
          have e1 := List.getElem?_eq_getElem hr
          rw [e1] at q
          simp at q; subst q
          unfold RelD
          refine ⟨hl _ _ e1, ?_⟩
          have z := e.b i hr
          rw [z, sub_at e1]; rfl
        · rw [if_neg hr] at q
          have nA : ¬ (ω.back ω').A (ω'.β i) := fun z => r.sub _ z (e.nw i (Nat.not_lt.mp hr) hi)
          cases q1 : h'[i]? with
          | none => simp [q1] at q
          | some c =>
            have rc := r'.cel i c q1
            cases c with
            | lst ds =>
              simp only [q1] at q
              cases q2 : frzD.frzL (frzD rs h' n) ds with
              | none => simp [q2] at q
              | some ds' =>
                simp [q2] at q; subst q
                obtain ⟨vs, e1, e2⟩ := rc
                unfold RelD
                exact ⟨_, vs, rfl, ⟨e1, nA⟩, lst _ ih _ _ _ q2 e2⟩
            | dct ks ds =>
              simp only [q1] at q
              cases q2 : frzD.frzL (frzD rs h' n) ds with
              | none => simp [q2] at q
              | some ds' =>
                simp [q2] at q; subst q
                obtain ⟨vs, e1, e3, e2⟩ := rc
                unfold RelD
                exact ⟨_, vs, rfl, ⟨e1, nA⟩, e3, lst _ ih _ _ _ q2 e2⟩
      | tup ds =>
        simp only at q
        cases q2 : frzD.frzL (frzD rs h' n) ds with
        | none => simp [q2] at q
        | some ds' =>
          simp [q2] at q; subst q
          unfold RelD at x ⊢
          obtain ⟨p, vs, e1, e2, e3⟩ := x
          exact ⟨p, vs, e1, e2, lst _ ih _ _ _ q2 e3⟩
      | _ => simp at q
theorem wb_get : ∀ {rs : List Nat} {cs : Hc} {h : Hc} {i : Nat} {c : C}, rs.Nodup → rs.length ≤ cs.length → (wb h rs cs)[i]? = some c → (∃ j : Nat, rs[j]? = some i ∧ cs[j]? = some c) ∨ (h[i]? = some c ∧ i ∉ rs)
  | [], cs, h, i, c, _, _, e => by
    have : wb h [] cs = h := by cases cs <;> rfl
    rw [this] at e
    exact .inr ⟨e, by simp⟩
  | r :: rs, [], h, i, c, _, hl, _ => by simp at hl
  | r :: rs, c0 :: cs, h, i, c, nd, hl, e => by
    have nd' := List.nodup_cons.mp nd
    rcases wb_get (h := h.set r c0) nd'.2 (by simpa using hl) e with ⟨j, a, b⟩ | ⟨a, b⟩
    · exact .inl ⟨j + 1, by simpa using a, by simpa using b⟩
    · by_cases hi : r = i
      · subst hi
        have hr : r < h.length := by
          have := (List.getElem?_eq_some_iff.mp a).1
          rw [List.length_set] at this; exact this
        rw [List.getElem?_set_self hr] at a
        exact .inl ⟨0, rfl, by simpa using a⟩
      · rw [List.getElem?_set_ne hi] at a
        refine .inr ⟨a, ?_⟩
        simp only [List.mem_cons, not_or]
        exact ⟨fun z => hi z.symm, b⟩
theorem wb_len : ∀ {rs : List Nat} {cs h : Hc}, (wb h rs cs).length = h.length
  | [], cs, h => by cases cs <;> rfl
  | r :: rs, [], h => rfl
  | r :: rs, c :: cs, h => by
    show (wb (h.set r c) rs cs).length = h.length
    rw [wb_len, List.length_set]
theorem Rel.back {rs : List Nat} {hc : List C} (r : Rel K ω h) (nd : rs.Nodup) (q : cellsAt h rs = some hc) (e : Ext (ω.sub rs) ω') (r' : Rel K ω' h') (hf : (h'.take rs.length).all flatC = true) : Rel K (ω.back ω') (wb h rs h') := by
  have hl : ∀ (j i : Nat), rs[j]? = some i → i < ω.n := fun j i z => rs_lt r q z
  have eb := Ext.back hl e
  have ln : rs.length ≤ h'.length := by
    have := e.n
    rw [r'.n] at this; exact this
  refine ⟨by rw [wb_len]; exact r.n, r.inj, r.inA, fun p hp z => r.sub p hp (e.dom p z), fun i c hi => ?_, r'.tabs⟩
  show RelC K (ω.back ω') (ω.β i) c
  rcases wb_get nd ln hi with ⟨j, a, b⟩ | ⟨a, b⟩
  · have hj : j < rs.length := (List.getElem?_eq_some_iff.mp a).1
    have x := r'.cel j c b
    rw [e.b j hj, sub_at a] at x
    have fc : flatC c = true := List.all_eq_true.mp hf c (List.mem_of_getElem? (i := j) (by rw [List.getElem?_take_of_lt hj]; exact b))
    exact flat_relC (ω1 := ω') rfl (fun p z => e.a p z) fc x
  · have hi' : i < ω.n := by rw [r.n]; exact (List.getElem?_eq_some_iff.mp a).1
    have x := r.cel i c a
    obtain ⟨o, ho, hm⟩ := r.mut hi'
    have st : ω'.H (ω.β i) = ω.H (ω.β i) := by
      rw [ho]
      refine e.keep _ _ ho (fun ps z => by rcases hm with ⟨_, q⟩ | ⟨_, q⟩ <;> (rw [q] at z; cases z)) fun j hj z => ?_
      have hj' : j < rs.length := hj
      have e1 := List.getElem?_eq_getElem hj'
      rw [sub_at e1] at z
      have := r.inj _ _ (hl _ _ e1) hi' z
      exact b (List.mem_of_getElem? (this ▸ e1))
    cases c with
    | lst ys => obtain ⟨vs', e1, e2⟩ := x; exact ⟨vs', st.trans e1, monoL r eb _ _ e2⟩
    | dct ks ys => obtain ⟨vs', e1, e3, e2⟩ := x; exact ⟨vs', st.trans e1, e3, monoL r eb _ _ e2⟩
end
section
variable {X : Cx} {W : WX} {es : List Expr} {as : SA} {m : Fn} {σ : L2.St} {np : Nat}
theorem callL_sp {K : PySem.W.Frag} {mg : Str → Option Value} {ω : Wo} {h : Hc} {xs : List D} {vs : List V} {Q : VK} (hn : vs.length = np) (r : Rel K ω h) (d : RelL K ω xs vs) (p : Post K mg W σ ω (RelD K) Q (callL m xs h)) : spD K mg np m vs ω.H Q (WE W σ) := by
  unfold callL at p
  cases q1 : renL (refsOf xs) xs with
  | none => rw [q1] at p; exact False.elim p
  | some xs' =>
    cases q2 : cellsAt h (refsOf xs) with
    | none => rw [q1, q2] at p; exact False.elim p
    | some hc =>
      rw [q1, q2] at p
      simp only at p
      obtain ⟨hf, p⟩ := p.if_
      have nd := refsOf_nodup xs
      have hl : ∀ (j i : Nat), (refsOf xs)[j]? = some i → i < ω.n := fun j i z => rs_lt r q2 z
      refine ⟨hn, ω.sub (refsOf xs), hc, xs', rfl, r.sub_ nd q2 hf, renL_rel q1 d, ?_⟩
      cases q3 : m xs' hc with
      | bad => rw [q3] at p; exact False.elim p
      | ex x fs ds h' =>
        rw [q3] at p
        simp only at p
        by_cases hh : (h'.take (refsOf xs).length).all flatC = true ∧ flatL ds = true
        · rw [if_pos hh] at p
          intro c dx ω' e r' rx
          refine p c dx (ω.back ω') (Ext.back hl e) (r.back nd q2 e r' hh.1) ?_
          obtain ⟨C, dd, vs', a1, a2, a3, a4, a5, a6⟩ := rx
          exact ⟨C, dd, vs', a1, a2, a3, a4, a5, (flat_rel (ω1 := ω') (ω2 := ω.back ω') rfl fun p z => e.a p z).2 _ _ hh.2 a6⟩
        · rw [if_neg hh] at p; exact False.elim p
      | ok dd h' =>
        rw [q3] at p
        simp only at p
        cases q4 : frzD (refsOf xs) h' 8 dd with
        | none => rw [q4] at p; exact False.elim p
        | some d' =>
          rw [q4] at p
          simp only at p
          obtain ⟨hh, p⟩ := p.if_
          intro v ω' e r' rv
          exact p v (ω.back ω') (Ext.back hl e) (r.back nd q2 e r' hh) (frz_rel r hl e r' 8 dd d' v q4 rv)
variable {k : Nat} {f : Addr} {fd : FuncData} {ps : List Str} {x : Str} {p pos : Pos} {e : Expr}
/-- f(..) -/
theorem de_call (tk : Takes X W) (F : FnOk X.prog X.w X.K X.mg X.base (L2.CX X.prog X.w) k f fd ps (spD X.K X.mg np m)) (hr : Room k X.A) (hg : Gl X x) (hm : X.mg x = some (.ref f)) (hk : PySem.W.keepIn X.K (.ref f) = true) (hb : Binds X.K fd ps [])
    (hn : (e :: es).length = np) (hl : ∀ ds h xs h', as ds h = .ok xs h' → xs.length = (e :: es).length) (ha : DA X W (e :: es) as) (hdb : (x == ("__debug__" : Str)) = false := by decide) (he : starEach (e :: es) X.env = (false, eval e X.env) :: starEach es X.env := by rfl) (hpl : (backTo pos (starEach es X.env)).any (·.1) = false := by rfl) :
    DE X W (.Call (.Name x p) (e :: es) [] pos) (eCall m as) := de_of (pe_callS F hr hg hm hk hb (fun σ => passAt tk σ) ha hdb he hpl) fun σ H Q ⟨ω, h, ds, e1, r, s, p⟩ => by
  subst e1
  refine ⟨ω, h, ds, rfl, r, s, ?_⟩
  cases q : as ds h with
  | ok xs h1 =>
    unfold eCall at p
    rw [q] at p
    have p' : Post X.K X.mg W σ ω (RelD X.K) Q (callL m xs h1) := p
    intro vs ω' e' r' rl
    exact callL_sp (by rw [← rl.len, hl _ _ _ _ q]; exact hn) r' rl (Post.mono p' e')
  | ex x' fs ds' h1 =>
    unfold eCall at p
    rw [q] at p; exact p
  | bad =>
    unfold eCall at p
    rw [q] at p; exact p
end
/-- how many arguments come -/
theorem aNil_len (ds : Sl) (h : Hc) (xs : List D) (h' : Hc) (e : aNil ds h = .ok xs h') : xs.length = 0 := by
  unfold aNil at e; cases e; rfl
theorem aCons_len {m : SE} {as : SA} {n : Nat} (ih : ∀ ds h xs h', as ds h = .ok xs h' → xs.length = n) (ds : Sl) (h : Hc) (xs : List D) (h' : Hc) (e : aCons m as ds h = .ok xs h') : xs.length = n + 1 := by
  unfold aCons at e
  cases q : m ds h with
  | ok x h1 =>
    rw [q] at e
    simp only [R.bd_ok] at e
    cases q2 : as ds h1 with
    | ok ys h2 =>
      rw [q2] at e
      simp only [R.bd_ok] at e
      cases e
      rw [List.length_cons, ih _ _ _ _ q2]
    | ex _ _ _ _ => rw [q2] at e; cases e
    | bad => rw [q2] at e; cases e
  | ex _ _ _ _ => rw [q] at e; cases e
  | bad => rw [q] at e; cases e
end Mp
/-! LayE: operators, subscripts, built-ins, what is walked: by data. -/
namespace Mp
open PySem PySem.Spec PyProof.Rows L2
section
variable {X : Cx} {K : PySem.W.Frag} {mg : Str → Option Value} {ω ω' : Wo} {h h' : Hc} {d : D} {v : V}
/-! ### what data stands for what -/
theorem rd_int {i : Int} (r : RelD K ω (.int i) v) : v = .int i := by unfold RelD at r; exact r
theorem rd_bl {i : Bool} (r : RelD K ω (.bl i) v) : v = .bl i := by unfold RelD at r; exact r
theorem rd_str {i : Str} (r : RelD K ω (.str i) v) : v = .str i := by unfold RelD at r; exact r
theorem rd_non (r : RelD K ω .non v) : v = .non := by unfold RelD at r; exact r
theorem rd_ty {n : String} (r : RelD K ω (.ty n) v) : v = .ty n := by unfold RelD at r; exact r
theorem int_rd {i : Int} : RelD K ω (.int i) (.int i) := by unfold RelD; rfl
theorem bl_rd {i : Bool} : RelD K ω (.bl i) (.bl i) := by unfold RelD; rfl
theorem str_rd {i : Str} : RelD K ω (.str i) (.str i) := by unfold RelD; rfl
theorem non_rd : RelD K ω .non .non := by unfold RelD; rfl
theorem ty_rd {n : String} : RelD K ω (.ty n) (.ty n) := by unfold RelD; rfl
theorem Post.here {W : WX} {σ : L2.St} {Q : VK} {d : D} (p : Post K mg W σ ω (RelD K) Q (.ok d h)) (r : Rel K ω h) (x : RelD K ω d v) : Q v ω.H := p v ω (Ext.refl _) r x
theorem rd_lst {xs : List D} (r : RelD K ω (.lst xs) v) : ∃ p vs, v = .ref p ∧ ω.H p = some (.lst vs) ∧ RelL K ω xs vs := by
  unfold RelD at r
  obtain ⟨p, vs, e1, e2, e3⟩ := r
  exact ⟨p, vs, e1, e2.1, e3⟩
theorem rd_tup {xs : List D} (r : RelD K ω (.tup xs) v) : ∃ p vs, v = .ref p ∧ SqT K ω.H p vs ∧ RelL K ω xs vs := by unfold RelD at r; exact r
theorem rd_scr {xs : List D} (r : RelD K ω (.scr xs) v) : ∃ p vs, v = .ref p ∧ SqL K ω.H p vs ∧ RelL K ω xs vs := by
  unfold RelD at r
  obtain ⟨p, vs, e1, e2, e3⟩ := r
  exact ⟨p, vs, e1, e2.sq, e3⟩
theorem rd_cel {xs : List D} {i : Nat} (rr : Rel K ω h) (r : RelD K ω (.ref i) v) (e : h[i]? = some (.lst xs)) : ∃ vs, i < ω.n ∧ v = .ref (ω.β i) ∧ ω.H (ω.β i) = some (.lst vs) ∧ RelL K ω xs vs := by
  unfold RelD at r
  obtain ⟨vs, e2, e3⟩ := rr.cel i _ e
  exact ⟨vs, r.1, r.2, e2, e3⟩
/-- the items of a list that is tracked as such -/
def lstD (h : Hc) : D → Option (List D)
  | .lst xs => some xs
  | .ref i => match h[i]? with
    | some (.lst xs) => some xs
    | _ => none
  | _ => none
theorem lstD_rel {xs : List D} (r : Rel K ω h) (e : lstD h d = some xs) (x : RelD K ω d v) : ∃ p vs, v = .ref p ∧ ω.H p = some (.lst vs) ∧ RelL K ω xs vs := by
  cases d <;> simp [lstD] at e
  · subst e; exact rd_lst x
  · rename_i i
    cases q : h[i]? with
    | none => simp [q] at e
    | some c =>
      cases c with
      | lst ys => simp [q] at e; subst e; obtain ⟨vs, _, e1, e2, e3⟩ := rd_cel r x q; exact ⟨_, vs, e1, e2, e3⟩
      | dct ks ys => simp [q] at e
/-- the items of a list that is read -/
def rdlD (h : Hc) : D → Option (List D)
  | .scr xs => some xs
  | d => lstD h d
theorem rdlD_rel {xs : List D} (r : Rel K ω h) (e : rdlD h d = some xs) (x : RelD K ω d v) : ∃ p vs, v = .ref p ∧ SqL K ω.H p vs ∧ RelL K ω xs vs := by
  by_cases hs : ∃ ys, d = .scr ys
  · obtain ⟨ys, rfl⟩ := hs
    simp [rdlD] at e; subst e
    exact rd_scr x
  · have e' : lstD h d = some xs := by
      cases d <;> first | exact e | exact absurd ⟨_, rfl⟩ hs
    obtain ⟨p, vs, e1, e2, e3⟩ := lstD_rel r e' x
    exact ⟨p, vs, e1, .inl (.inl e2), e3⟩
/-! ### ints -/
def iF (c : Int → Int → Bool) (g : Int → Int → D) : D → D → Hc → R D
  | .int i, .int j, h => if c i j = true then .ok (g i j) h else .bad
  | _, _, _ => .bad
theorem opd_i {C : Int → Int → Prop} {c : Int → Int → Bool} {g : Int → Int → D} {gV : Int → Int → V} (hc : ∀ i j, c i j = true → C i j) (hg : ∀ i j (ω : Wo), RelD X.K ω (g i j) (gV i j)) : OpD X (rI C gV) (iF c g) := fun W σ ω h x y v u Q r rx ry p => by
  cases x <;> cases y <;> try exact False.elim p
  rename_i i j
  obtain ⟨hcc, p⟩ := p.if_
  exact ⟨i, j, rd_int rx, rd_int ry, hc i j hcc, p.here r (hg i j ω)⟩
def i0F (g : Int → Int → D) : D → D → Hc → R D
  | .int i, .int j, h => .ok (g i j) h
  | _, _, _ => .bad
@[simp] theorem i0F_int (g : Int → Int → D) (i j : Int) (h : Hc) : i0F g (.int i) (.int j) h = .ok (g i j) h := Eq.trans rfl rfl
@[simp] theorem iF_int (c : Int → Int → Bool) (g : Int → Int → D) (i j : Int) (h : Hc) : iF c g (.int i) (.int j) h = if c i j = true then .ok (g i j) h else .bad := Eq.trans rfl rfl
theorem opd_i0 {g : Int → Int → D} {gV : Int → Int → V} (hg : ∀ i j (ω : Wo), RelD X.K ω (g i j) (gV i j)) : OpD X (rI0 gV) (i0F g) := fun W σ ω h x y v u Q r rx ry p => by
  cases x <;> cases y <;> try exact False.elim p
  exact ⟨_, _, rd_int rx, rd_int ry, p.here r (hg _ _ ω)⟩
/-! ### sums: ints, texts, lists, tuples -/
def addF (x y : D) (h : Hc) : R D := match x, y with
  | .int i, .int j => .ok (.int (i + j)) h
  | .str a, .str b => if a.length + b.length ≤ lim then .ok (.str (a ++ b)) h else .bad
  | .tup xs, .tup ys => if xs.length + ys.length ≤ lim then .ok (.tup (xs ++ ys)) h else .bad
  | x, y => match lstD h x, lstD h y with
    | some xs, some ys => if xs.length + ys.length ≤ lim then .ok (.lst (xs ++ ys)) h else .bad
    | _, _ => .bad
@[simp] theorem addF_int (i j : Int) (h : Hc) : addF (.int i) (.int j) h = .ok (.int (i + j)) h := Eq.trans rfl rfl
def rAddA (K : PySem.W.Frag) : R2 := fun x y H Q => (rI0 fun i j => .int (i + j)) x y H Q ∨ (∃ i j, x = .str i ∧ y = .str j ∧ i.length + j.length ≤ sizeLine ∧ Q (.str (i ++ j)) H) ∨ rCat x y H Q ∨ rCatA K x y H Q
theorem op_addA : OpR X (binaryOp .Add) (rAddA X.K) := op_add.or (op_add_str.or (op_cat.or op_catA))
theorem opd_add : OpD X (rAddA X.K) addF := fun W σ ω h x y v u Q r rx ry p => by
  unfold addF at p
  split at p
  · exact .inl ⟨_, _, rd_int rx, rd_int ry, p.here r int_rd⟩
  · obtain ⟨hl, p⟩ := p.if_
    exact .inr (.inl ⟨_, _, rd_str rx, rd_str ry, lim_le hl, p.here r str_rd⟩)
  · rename_i xs ys
    obtain ⟨hl, p⟩ := p.if_
    obtain ⟨a, vs, e1, e2, e3⟩ := rd_tup rx
    obtain ⟨b, ws, e4, e5, e6⟩ := rd_tup ry
    subst e1; subst e4
    refine .inr (.inr (.inr ⟨a, b, vs, ws, rfl, rfl, e2, e5, by rw [← e3.len, ← e6.len]; exact lim_le hl, fun z => ?_, fun z1 z2 => ?_, fun _ _ q hq => ?_⟩))
    · subst z
      have : xs = [] := List.eq_nil_of_length_eq_zero e3.len
      subst this
      exact p.here r ry
    · subst z2
      have : ys = [] := List.eq_nil_of_length_eq_zero e6.len
      subst this
      rw [List.append_nil] at p
      exact p.here r rx
    · refine p (.ref q) (ω.up q _) (Ext.up hq) (r.up hq) ?_
      unfold RelD
      exact ⟨q, _, rfl, .inl (.inl upd_same), monoL r (Ext.up hq) _ _ (e3.append e6)⟩
  · split at p
    · rename_i xs ys q1 q2
      obtain ⟨hl, p⟩ := p.if_
      obtain ⟨a, vs, e1, e2, e3⟩ := lstD_rel r q1 rx
      obtain ⟨b, ws, e4, e5, e6⟩ := lstD_rel r q2 ry
      exact .inr (.inr (.inl ⟨a, b, vs, ws, e1, e4, e2, e5, by rw [← e3.len, ← e6.len]; exact lim_le hl, fun q hq => p (.ref q) (ω.up q _) (Ext.up hq) (r.up hq) (fz_new r hq (e3.append e6))⟩))
    · exact False.elim p
abbrev subF := i0F fun i j => .int (i - j)
theorem opd_sub : OpD X (rI0 fun i j => .int (i - j)) subF := opd_i0 fun _ _ _ => int_rd
def mulOk (i j : Int) : Bool := decide (-(2 ^ 64) < i ∧ i < 2 ^ 64) || decide (-(2 ^ 64) < j ∧ j < 2 ^ 64) || decide (i.natAbs.log2 + j.natAbs.log2 < 1000000)
/-- n copies of a list's items -/
def repD (n : Nat) (xs : List D) : List D := (List.replicate n xs).flatten
def mulF (x y : D) (h : Hc) : R D := match x, y with
  | .int i, .int j => if mulOk i j = true then .ok (.int (i * j)) h else .bad
  | x, .int k => match lstD h x with
    | some xs => if k ≤ lim ∧ -lim ≤ k ∧ xs.length * k.toNat ≤ lim then .ok (.lst (repD k.toNat xs)) h else .bad
    | none => .bad
  | _, _ => .bad
@[simp] theorem mulF_int (i j : Int) (h : Hc) : mulF (.int i) (.int j) h = if mulOk i j = true then .ok (.int (i * j)) h else .bad := Eq.trans rfl rfl
def rMulA : R2 := fun x y H Q => (rI CMul fun i j => .int (i * j)) x y H Q ∨ (rI CMulW fun i j => .int (i * j)) x y H Q ∨ rRep x y H Q
theorem op_mulA : OpR X (binaryOp .Mult) rMulA := op_mul.or (op_mulW.or op_rep)
theorem RelL.rep {xs : List D} {vs : List V} (x : RelL K ω xs vs) : ∀ n : Nat, RelL K ω (repD n xs) (List.replicate n vs).flatten
  | 0 => by simpa [repD] using RelL.nil
  | n + 1 => by
    have ih := RelL.rep x n
    unfold repD at ih ⊢
    rw [List.replicate_succ, List.replicate_succ, List.flatten_cons, List.flatten_cons]
    exact x.append ih
theorem opd_mul : OpD X rMulA mulF := fun W σ ω h x y v u Q r rx ry p => by
  unfold mulF at p
  split at p
  · rename_i i j
    obtain ⟨hl, p⟩ := p.if_
    unfold mulOk at hl
    simp only [Bool.or_eq_true, decide_eq_true_eq] at hl
    rcases hl with (hl | hl) | hl
    · exact .inl ⟨_, _, rd_int rx, rd_int ry, .inl hl, p.here r int_rd⟩
    · exact .inl ⟨_, _, rd_int rx, rd_int ry, .inr hl, p.here r int_rd⟩
    · exact .inr (.inl ⟨_, _, rd_int rx, rd_int ry, hl, p.here r int_rd⟩)
  · split at p
    · rename_i k _ _ xs q1
      obtain ⟨⟨h1, h2, h3⟩, p⟩ := p.if_
      obtain ⟨a, vs, e1, e2, e3⟩ := lstD_rel r q1 rx
      have l1 : (lim : Int) = 1000000 := rfl
      exact .inr (.inr ⟨a, k, vs, e1, rd_int ry, e2, by omega, by omega, by rw [← e3.len]; exact lim_le h3, fun q hq => p (.ref q) (ω.up q _) (Ext.up hq) (r.up hq) (fz_new r hq (e3.rep _))⟩)
    · exact False.elim p
  · exact False.elim p
def divOk (j : Int) : Bool := decide (j ≠ 0) && decide (j.natAbs.log2 < 9000)
abbrev fdivF := iF (fun _ j => divOk j) fun i j => .int (i.fdiv j)
theorem op_fdivA : OpR X (binaryOp .FloorDiv) (rI (fun _ j => divOk j = true) fun i j => .int (i.fdiv j)) := opI fun i j _ _ _ _ _ hc q => by
  unfold divOk at hc
  simp only [Bool.and_eq_true, decide_eq_true_eq] at hc
  exact floordiv_int hc.1 q (.inl (PyProof.noPylong_of_log2 hc.2))
theorem opd_fdiv : OpD X (rI (fun _ j => divOk j = true) fun i j => .int (i.fdiv j)) fdivF := opd_i (fun _ _ h => h) fun _ _ _ => int_rd
abbrev modF := iF (fun _ j => decide (0 < j)) fun i j => .int (i % j)
theorem opd_mod : OpD X (rI (fun _ j => 0 < j) fun i j => .int (i % j)) modF := opd_i (fun _ _ h => of_decide_eq_true h) fun _ _ _ => int_rd
abbrev powF := iF (fun i j => decide (0 ≤ j) && decide (j ≤ 1000000) && decide (i.natAbs < 2 ^ 64)) fun i j => .int (i ^ j.toNat)
theorem opd_pow : OpD X (rI CPow fun i j => .int (i ^ j.toNat)) powF := opd_i (fun _ _ h => by simp only [Bool.and_eq_true, decide_eq_true_eq] at h; exact ⟨h.1.1, h.1.2, h.2⟩) fun _ _ _ => int_rd
abbrev shlF := iF (fun i j => decide (0 ≤ j) && decide (j ≤ 1000000) && decide (i.natAbs < 2 ^ 64)) fun i j => .int (i * 2 ^ j.toNat)
abbrev shrF := iF (fun _ j => decide (0 ≤ j)) fun i j => .int (i / 2 ^ j.toNat)
abbrev bandF := i0F fun i j => .int (Builtin.bitAnd i j)
abbrev borF := i0F fun i j => .int (Builtin.bitOr i j)
abbrev bxorF := i0F fun i j => .int (Builtin.bitXor i j)
def negF : D → Hc → R D
  | .int i, h => .ok (.int (-i)) h
  | _, _ => .bad
@[simp] theorem negF_int (i : Int) (h : Hc) : negF (.int i) h = .ok (.int (-i)) h := Eq.trans rfl rfl
theorem und_neg : UnD X (rU fun i => .int (-i)) negF := fun W σ ω h x v Q r rx p => by
  cases x <;> try exact False.elim p
  exact ⟨_, rd_int rx, p.here r int_rd⟩
/-! ### order -/
def ordF (g : Int → Int → Bool) (gs : List Nat → List Nat → Bool) : D → D → Hc → R D
  | .int i, .int j, h => .ok (.bl (g i j)) h
  | .str a, .str b, h => .ok (.bl (gs a.cps.toList b.cps.toList)) h
  | _, _, _ => .bad
@[simp] theorem ordF_int (g : Int → Int → Bool) (gs : List Nat → List Nat → Bool) (i j : Int) (h : Hc) : ordF g gs (.int i) (.int j) h = .ok (.bl (g i j)) h := Eq.trans rfl rfl
def rOrd (g : Int → Int → Bool) (gs : List Nat → List Nat → Bool) : R2 := fun x y H Q => (rI0 fun i j => .bl (g i j)) x y H Q ∨ ∃ i j, x = .str i ∧ y = .str j ∧ Q (.bl (gs i.cps.toList j.cps.toList)) H
theorem opd_ord {g : Int → Int → Bool} {gs : List Nat → List Nat → Bool} : OpD X (rOrd g gs) (ordF g gs) := fun W σ ω h x y v u Q r rx ry p => by
  cases x <;> cases y <;> try exact False.elim p
  · exact .inl ⟨_, _, rd_int rx, rd_int ry, p.here r bl_rd⟩
  · exact .inr ⟨_, _, rd_str rx, rd_str ry, p.here r bl_rd⟩
abbrev ltF := ordF (fun i j => decide (i < j)) (fun a b => decide (a < b))
abbrev leF := ordF (fun i j => decide (i ≤ j)) (fun a b => !decide (b < a))
abbrev gtF := ordF (fun i j => decide (j < i)) (fun a b => decide (b < a))
abbrev geF := ordF (fun i j => decide (j ≤ i)) (fun a b => !decide (a < b))
theorem op_ltA : OpR X (compareOp .Lt) (rOrd (fun i j => decide (i < j)) (fun a b => decide (a < b))) := op_lt.or op_lt_str
theorem op_leA : OpR X (compareOp .LtE) (rOrd (fun i j => decide (i ≤ j)) (fun a b => !decide (b < a))) := op_le.or op_le_str
theorem op_geA : OpR X (compareOp .GtE) (rOrd (fun i j => decide (j ≤ i)) (fun a b => !decide (a < b))) := op_ge.or op_ge_str
/-! ### is None -/
def isN : D → Bool
  | .non => true
  | _ => false
theorem isN_rel (r : RelD K ω d v) : decide (v = .non) = isN d := by
  cases d with
  | non => rw [rd_non r]; rfl
  | bl b => rw [rd_bl r]; rfl
  | int b => rw [rd_int r]; rfl
  | str b => rw [rd_str r]; rfl
  | ty b => rw [rd_ty r]; rfl
  | tup b => obtain ⟨p, vs, rfl, _⟩ := rd_tup r; rfl
  | lst b => obtain ⟨p, vs, rfl, _⟩ := rd_lst r; rfl
  | scr b => obtain ⟨p, vs, rfl, _⟩ := rd_scr r; rfl
  | dct ks b => unfold RelD at r; obtain ⟨p, vs, rfl, _⟩ := r; rfl
  | ref i => unfold RelD at r; rw [r.2]; rfl
def isnF (x y : D) (h : Hc) : R D := match y with
  | .non => .ok (.bl (isN x)) h
  | _ => .bad
def notnF (x y : D) (h : Hc) : R D := match y with
  | .non => .ok (.bl (!isN x)) h
  | _ => .bad
@[simp] theorem isnF_non (x : D) (h : Hc) : isnF x .non h = .ok (.bl (isN x)) h := Eq.trans rfl rfl
theorem opd_isn : OpD X (fun x y H Q => y = .non ∧ Q (.bl (decide (x = .non))) H) isnF := fun W σ ω h x y v u Q r rx ry p => by
  cases y <;> try exact False.elim p
  exact ⟨rd_non ry, by rw [isN_rel rx]; exact p.here r bl_rd⟩
/-! ### == -/
mutual
def toPy : D → Option PyData
  | .non => some .none
  | .bl b => some (.bool b)
  | .int i => some (.int i)
  | .str x => some (.str x)
  | .tup xs => (toPyL xs).map .tuple
  | .lst xs => (toPyL xs).map .list
  | .scr xs => (toPyL xs).map .list
  | _ => none
def toPyL : List D → Option (List PyData)
  | [] => some []
  | d :: ds => match toPy d, toPyL ds with
    | some e, some es => some (e :: es)
    | _, _ => none
end
def toPyR (h : Hc) : D → Option PyData
  | .ref i => match h[i]? with
    | some (.lst xs) => (toPyL xs).map .list
    | _ => none
  | d => toPy d
theorem toPy_rel : (∀ d v e, toPy d = some e → RelD K ω d v → Dp K ω.H v e) ∧ ∀ ds vs es, toPyL ds = some es → RelL K ω ds vs → DpAll K ω.H vs es := by
  have cons : ∀ d ds, (∀ v e, toPy d = some e → RelD K ω d v → Dp K ω.H v e) → (∀ vs es, toPyL ds = some es → RelL K ω ds vs → DpAll K ω.H vs es) → ∀ vs es, toPyL (d :: ds) = some es → RelL K ω (d :: ds) vs → DpAll K ω.H vs es := by
    intro d ds ih1 ih2 vs es q x
    obtain ⟨v, ws, rfl, e2, e3⟩ := x.inv
    unfold toPyL at q
    cases q1 : toPy d with
    | none => simp [q1] at q
    | some e =>
      cases q2 : toPyL ds with
      | none => simp [q1, q2] at q
      | some es' => simp [q1, q2] at q; subst q; exact .cons (ih1 _ _ q1 e2) (ih2 _ _ q2 e3)
  have nil : ∀ vs es, toPyL [] = some es → RelL K ω [] vs → DpAll K ω.H vs es := by
    intro vs es q x
    simp [toPyL] at q; subst q
    rw [x.inv0]; exact .nil
  have aux := @D.rec (motive_1 := fun d => ∀ v e, toPy d = some e → RelD K ω d v → Dp K ω.H v e) (motive_2 := fun ds => ∀ vs es, toPyL ds = some es → RelL K ω ds vs → DpAll K ω.H vs es)
    (fun v e q x => by simp [toPy] at q; subst q; rw [rd_non x]; exact .non) (fun b v e q x => by simp [toPy] at q; subst q; rw [rd_bl x]; exact .bl b) (fun b v e q x => by simp [toPy] at q; subst q; rw [rd_int x]; exact .int b) (fun b v e q x => by simp [toPy] at q; subst q; rw [rd_str x]; exact .str b)
    (fun ds ih v e q x => by
      simp only [toPy, Option.map_eq_some_iff] at q
      obtain ⟨es, q1, rfl⟩ := q
      obtain ⟨p, vs, rfl, e2, e3⟩ := rd_tup x
      exact .tup e2 (ih _ _ q1 e3))
    (fun ds ih v e q x => by
      simp only [toPy, Option.map_eq_some_iff] at q
      obtain ⟨es, q1, rfl⟩ := q
      obtain ⟨p, vs, rfl, e2, e3⟩ := rd_lst x
      exact .lst (.inl (.inl e2)) (ih _ _ q1 e3))
    (fun ds ih v e q x => by
      simp only [toPy, Option.map_eq_some_iff] at q
      obtain ⟨es, q1, rfl⟩ := q
      obtain ⟨p, vs, rfl, e2, e3⟩ := rd_scr x
      exact .lst e2 (ih _ _ q1 e3))
    (fun ks ds ih v e q x => by simp [toPy] at q) (fun i v e q x => by simp [toPy] at q) (fun t v e q x => by simp [toPy] at q) nil (fun d ds ih1 ih2 => cons d ds ih1 ih2)
  refine ⟨aux, fun ds => ?_⟩
  induction ds with
  | nil => exact nil
  | cons d ds ih => exact cons d ds (aux d) ih
theorem toPyR_rel {e : PyData} (r : Rel K ω h) (q : toPyR h d = some e) (x : RelD K ω d v) : Dp K ω.H v e := by
  by_cases hs : ∃ i, d = .ref i
  · obtain ⟨i, rfl⟩ := hs
    unfold toPyR at q
    cases q1 : h[i]? with
    | none => simp [q1] at q
    | some c =>
      cases c with
      | dct ks ys => simp [q1] at q
      | lst xs =>
        simp only [q1, Option.map_eq_some_iff] at q
        obtain ⟨es, q2, rfl⟩ := q
        obtain ⟨vs, _, rfl, e2, e3⟩ := rd_cel r x q1
        exact .lst (.inl (.inl e2)) (toPy_rel.2 _ _ _ q2 e3)
  · have q' : toPy d = some e := by cases d <;> first | exact q | exact absurd ⟨_, rfl⟩ hs
    exact toPy_rel.1 _ _ _ q' x
def eqG (neg : Bool) (x y : D) (h : Hc) : R D := match x, y with
  | .int i, .int j => .ok (.bl (if neg then !decide (i = j) else decide (i = j))) h
  | .str i, .str j => .ok (.bl (if neg then !decide (i = j) else decide (i = j))) h
  | .bl i, .bl j => .ok (.bl (if neg then !decide (i = j) else decide (i = j))) h
  | .non, .non => .ok (.bl (!neg)) h
  | .non, .int _ => .ok (.bl neg) h
  | .int _, .non => .ok (.bl neg) h
  | .non, .str _ => .ok (.bl neg) h
  | .str _, .non => .ok (.bl neg) h
  | .int _, .str _ => .ok (.bl neg) h
  | .str _, .int _ => .ok (.bl neg) h
  | x, y => match toPyR h x, toPyR h y with
    | some a, some b => if SeqAt.shaped a = true ∧ SeqAt.shaped b = true then .ok (.bl (if neg then !PyData.eqv a b else PyData.eqv a b)) h else .bad
    | _, _ => .bad
abbrev eqF := eqG false
abbrev neF := eqG true
def rEqA (K : PySem.W.Frag) (neg : Bool) : R2 := fun x y H Q => (scal x y = true ∧ Q (.bl (if neg then !decide (x = y) else decide (x = y))) H) ∨ ∃ d e, Dp K H x d ∧ Dp K H y e ∧ SeqAt.shaped d = true ∧ SeqAt.shaped e = true ∧ Q (.bl (if neg then !PyData.eqv d e else PyData.eqv d e)) H
theorem op_eqA (hu : X.A.units + 64 < cLine) : OpR X (compareOp .Eq) (rEqA X.K false) := op_eq.or (op_eqD hu)
theorem op_neA (hu : X.A.units + 64 < cLine) : OpR X (compareOp .NotEq) (rEqA X.K true) := op_ne.or (op_neD hu)
theorem dec_inj {α : Type} [DecidableEq α] {f : α → V} (hf : ∀ a b, f a = f b → a = b) (a b : α) : decide (f a = f b) = decide (a = b) := by
  by_cases e : a = b
  · subst e; simp
  · rw [decide_eq_false e, decide_eq_false fun z => e (hf _ _ z)]
theorem opd_eqA {neg : Bool} : OpD X (rEqA X.K neg) (eqG neg) := fun W σ ω h x y v u Q r rx ry p => by
  unfold eqG at p
  split at p
  · rw [rd_int rx, rd_int ry]
    exact .inl ⟨rfl, by rw [dec_inj (f := V.int) (fun a b e => by cases e; rfl)]; exact p.here r bl_rd⟩
  · rw [rd_str rx, rd_str ry]
    exact .inl ⟨rfl, by rw [dec_inj (f := V.str) (fun a b e => by cases e; rfl)]; exact p.here r bl_rd⟩
  · rw [rd_bl rx, rd_bl ry]
    exact .inl ⟨rfl, by rw [dec_inj (f := V.bl) (fun a b e => by cases e; rfl)]; exact p.here r bl_rd⟩
  · rw [rd_non rx, rd_non ry]
    exact .inl ⟨rfl, by have := p.here r bl_rd; cases neg <;> exact this⟩
  · rw [rd_non rx, rd_int ry]
    exact .inl ⟨rfl, by have := p.here r bl_rd; cases neg <;> exact this⟩
  · rw [rd_int rx, rd_non ry]
    exact .inl ⟨rfl, by have := p.here r bl_rd; cases neg <;> exact this⟩
  · rw [rd_non rx, rd_str ry]
    exact .inl ⟨rfl, by have := p.here r bl_rd; cases neg <;> exact this⟩
  · rw [rd_str rx, rd_non ry]
    exact .inl ⟨rfl, by have := p.here r bl_rd; cases neg <;> exact this⟩
  · rw [rd_int rx, rd_str ry]
    exact .inl ⟨rfl, by have := p.here r bl_rd; cases neg <;> exact this⟩
  · rw [rd_str rx, rd_int ry]
    exact .inl ⟨rfl, by have := p.here r bl_rd; cases neg <;> exact this⟩
  · split at p
    · rename_i a b q1 q2
      obtain ⟨hs, p⟩ := p.if_
      exact .inr ⟨a, b, toPyR_rel r q1 rx, toPyR_rel r q2 ry, hs.1, hs.2, p.here r bl_rd⟩
    · exact False.elim p
/-! ### in: a flat item in a row of flat items; a sign in a text -/
def scalD : D → Bool
  | .non => true
  | .bl _ => true
  | .int _ => true
  | .str _ => true
  | _ => false
def eqS : D → D → Bool
  | .non, .non => true
  | .bl a, .bl b => a == b
  | .bl a, .int b => (if a then 1 else 0) == b
  | .int a, .bl b => a == (if b then 1 else 0)
  | .int a, .int b => a == b
  | .str a, .str b => a == b
  | _, _ => false
def inG (neg : Bool) (x y : D) (h : Hc) : R D := match x, y with
  | .str a, .str b => match a.cps.toList with
    | [c] => .ok (.bl (if neg then !decide (c ∈ b.cps.toList) else decide (c ∈ b.cps.toList))) h
    | _ => .bad
  | x, y => match seqD h y with
    | some xs => if scalD x = true ∧ xs.all scalD = true then .ok (.bl (if neg then !(xs.any fun y => eqS y x) else xs.any fun y => eqS y x)) h else .bad
    | none => .bad
def rInA (K : PySem.W.Frag) (neg : Bool) : R2 := fun x y H Q => rIn K neg x y H Q ∨ ∃ (c : Nat) (z : Str), x = .str ⟨#[c]⟩ ∧ y = .str z ∧ Q (.bl (if neg then !decide (c ∈ z.cps.toList) else decide (c ∈ z.cps.toList))) H
/-! ### subscripts -/
def ixF (x y : D) (h : Hc) : R D := match y with
  | .int i => match x with
    | .str z => if z.length ≤ lim then (match atI z.cps.toList i with
      | some c => .ok (.str ⟨#[c]⟩) h
      | none => .bad) else .bad
    | x => match seqD h x with
      | some xs => match atI xs i with
        | some d => .ok d h
        | none => .bad
      | none => .bad
  | _ => .bad
theorem atI_rel {ds : List D} {vs : List V} {i : Int} (x : RelL K ω ds vs) (e : atI ds i = some d) : ∃ v, atI vs i = some v ∧ RelD K ω d v := by
  unfold atI at e ⊢
  rw [← x.len]
  cases q : ixN ds.length i with
  | none => rw [q] at e; cases e
  | some j =>
    rw [q] at e
    exact x.get e
theorem opd_ix : OpD X (rIx X.K) ixF := fun W σ ω h x y v u Q r rx ry p => by
  unfold ixF at p
  split at p
  · rename_i i
    split at p
    · rename_i z
      obtain ⟨hl, p⟩ := p.if_
      split at p
      · rename_i c q
        exact .inr (.inr ⟨z, i, c, rd_str rx, rd_int ry, lim_le hl, q, p.here r str_rd⟩)
      · exact False.elim p
    · split at p
      · rename_i xs q
        split at p
        · rename_i d q2
          obtain ⟨a, vs, e1, e2, e3⟩ := seqD_rel r q rx
          obtain ⟨w, e4, e5⟩ := atI_rel e3 q2
          rcases e2 with e2 | e2
          · exact .inr (.inl ⟨a, vs, i, w, e1, rd_int ry, e2, e4, p.here r e5⟩)
          · exact .inl ⟨a, vs, i, w, e1, rd_int ry, e2, e4, p.here r e5⟩
        · exact False.elim p
      · exact False.elim p
  · exact False.elim p
/-! ### slices -/
def cutD {α : Type} (xs : List α) (lo hi : Option Int) : List α := (xs.drop (HT.sIx xs.length 0 lo)).take (HT.sIx xs.length xs.length hi - HT.sIx xs.length 0 lo)
def slF (x : D) (lo hi : Option Int) (h : Hc) : R D := match x with
  | .tup xs => .ok (.tup (cutD xs lo hi)) h
  | .str z => if z.length ≤ lim then .ok (.str ⟨(cutD z.cps.toList lo hi).toArray⟩) h else .bad
  | x => match rdlD h x with
    | some xs => .ok (.lst (cutD xs lo hi)) h
    | none => .bad
def slC (x : D) (lo hi : Option Int) (h : Hc) : R D := match rdlD h x with
    | some xs => .ok (.ref h.length) (h ++ [.lst (cutD xs lo hi)])
    | none => .bad
def rSlAll (K : PySem.W.Frag) : V → Option Int → Option Int → Hp → VK → Prop := fun x lo hi H Q => rSlA K x lo hi H Q ∨ (∃ z, x = .str z ∧ z.length ≤ sizeLine ∧ Q (.str (cutS z lo hi)) H) ∨ rSlL K x lo hi H Q
theorem sl_all : SlR X (rSlAll X.K) := sl_tupA.or (sl_str.or sl_list)
def optI (m : Option SE) : Sl → Hc → R (Option Int) := fun ds h => match m with
  | none => .ok none h
  | some m => (m ds h).bd fun d h1 => match d with
    | .int i => .ok (some i) h1
    | _ => .bad
def eSl (f : D → Option Int → Option Int → Hc → R D) (m : SE) (lo hi : Option SE) : SE := fun ds h => (m ds h).bd fun x h1 => (optI lo ds h1).bd fun l h2 => (optI hi ds h2).bd fun u h3 => f x l u h3
end
end Mp
/-! LayF: built-in functions, methods, stores, what is walked. -/
namespace Mp
open PySem PySem.Spec PyProof.Rows L2
section
variable {X : Cx} {W : WX} {K : PySem.W.Frag} {mg : Str → Option Value} {ω ω' : Wo} {h h' : Hc} {d : D} {v : V} {e a b : Expr} {es : List Expr} {m ma mb : SE} {as : SA} {pos p : Pos} {x : Str}
/-! ### slices -/
theorem cut_rel {xs : List D} {vs : List V} (x : RelL K ω xs vs) (lo hi : Option Int) : RelL K ω (cutD xs lo hi) (cutV vs lo hi) := by
  unfold cutD cutV
  rw [x.len]
  exact (x.drop _).take _
theorem cut_all {α : Type} (xs : List α) (lo hi : Option Int) (h1 : HT.sIx xs.length 0 lo = 0) (h2 : HT.sIx xs.length xs.length hi = xs.length) : cutD xs lo hi = xs := by
  unfold cutD
  rw [h1, h2]
  simp
def SlD (X : Cx) (r : V → Option Int → Option Int → Hp → VK → Prop) (f : D → Option Int → Option Int → Hc → R D) : Prop :=
  ∀ (W : WX) (σ : L2.St) (ω : Wo) (h : Hc) (x : D) (lo hi : Option Int) (v : V) (Q : VK), Rel X.K ω h → RelD X.K ω x v → Post X.K X.mg W σ ω (RelD X.K) Q (f x lo hi h) → r v lo hi ω.H Q
theorem sld_f : SlD X (rSlAll X.K) slF := fun W σ ω h x lo hi v Q r rx p => by
  unfold slF at p
  split at p
  · rename_i xs
    obtain ⟨a, vs, e1, e2, e3⟩ := rd_tup rx
    subst e1
    refine .inl ⟨a, vs, rfl, e2, fun z => ?_, fun _ q hq => ?_⟩
    · rw [← e3.len] at z
      rw [cut_all xs lo hi z.1 z.2] at p
      exact p.here r rx
    · refine p (.ref q) (ω.up q _) (Ext.up hq) (r.up hq) ?_
      unfold RelD
      exact ⟨q, _, rfl, .inl (.inl upd_same), monoL r (Ext.up hq) _ _ (cut_rel e3 lo hi)⟩
  · rename_i z
    obtain ⟨hl, p⟩ := p.if_
    exact .inr (.inl ⟨z, rd_str rx, lim_le hl, p.here r str_rd⟩)
  · split at p
    · rename_i xs q
      obtain ⟨a, vs, e1, e2, e3⟩ := rdlD_rel r q rx
      exact .inr (.inr ⟨a, vs, e1, e2, fun q hq => p (.ref q) (ω.up q _) (Ext.up hq) (r.up hq) (fz_new r hq (cut_rel e3 lo hi))⟩)
    · exact False.elim p
abbrev tOI (X : Cx) (W : WX) (m : Option SE) : TO := tOf X.K X.mg W (fun _ a b => a = b) (optI m)
abbrev DO (X : Cx) (W : WX) (e : Option Expr) (m : Option SE) : Prop := PO X e (tOI X W m)
theorem do_none : DO X W none none := ⟨fun pins s σ H Q I q => po_none.run pins s σ H Q I (by
  obtain ⟨ω, h, ds, e1, r, s, p⟩ := q
  subst e1
  exact p _ ω (Ext.refl _) r rfl)⟩
theorem do_some (he : DE X W e m) : DO X W (some e) (some m) := ⟨fun pins s σ H Q I q => (po_some he).run pins s σ H Q I (by
  obtain ⟨ω, h, ds, e1, r, s, p⟩ := q
  subst e1
  refine ⟨ω, h, ds, rfl, r, s, Post.bd (show Post X.K X.mg W σ ω _ Q ((m ds h).bd _) from p) fun d h1 v ω1 e1 r1 d1 p1 => ?_⟩
  split at p1
  · exact ⟨_, rd_int d1, p1 _ ω1 (Ext.refl _) r1 rfl⟩
  · exact False.elim p1)⟩
theorem de_sl {r : V → Option Int → Option Int → Hp → VK → Prop} {f : D → Option Int → Option Int → Hc → R D} {lo hi : Option SE} (h : PE X e (tSl r (tE X W m) (tOI X W lo) (tOI X W hi))) (hd : SlD X r f) : DE X W e (eSl f m lo hi) :=
  de_of h fun σ H Q ⟨ω, h, ds, e1, r, s, p⟩ => by
    subst e1
    exact ⟨ω, h, ds, rfl, r, s, p.bd fun x h1 v ω1 e1 r1 d1 p1 => ⟨ω1, h1, ds, rfl, r1, monoS r e1 s, p1.bd fun l h2 l' ω2 e2 r2 d2 p2 => ⟨ω2, h2, ds, rfl, r2, monoS r (e1.trans e2) s, p2.bd fun u h3 u' ω3 e3 r3 d3 p3 => by
      have d2' : l = l' := d2
      have d3' : u = u' := d3
      subst d2'; subst d3'
      exact hd W σ ω3 h3 x l u v Q r3 (mono r1 (e2.trans e3) _ _ d1) p3⟩⟩⟩
/-! ### built-in functions -/
def CallD (X : Cx) (r : List V → Hp → VK → Prop) (f : List D → Hc → R D) : Prop :=
  ∀ (W : WX) (σ : L2.St) (ω : Wo) (h : Hc) (xs : List D) (vs : List V) (Q : VK), Rel X.K ω h → RelL X.K ω xs vs → Post X.K X.mg W σ ω (RelD X.K) Q (f xs h) → r vs ω.H Q
def eCB (f : List D → Hc → R D) (as : SA) : SE := fun ds h => (as ds h).bd fun xs h1 => f xs h1
theorem de_cb {r : List V → Hp → VK → Prop} {f : List D → Hc → R D} (h : PE X e (tCB r (tA X W as))) (hd : CallD X r f) : DE X W e (eCB f as) := de_of h fun σ H Q ⟨ω, h, ds, e1, r, s, p⟩ => by
  subst e1
  exact ⟨ω, h, ds, rfl, r, s, p.bd fun xs h1 vs ω1 e1 r1 d1 p1 => hd W σ ω1 h1 xs vs Q r1 d1 p1⟩
/-- a dict's keys and values -/
def dctD (h : Hc) : D → Option (List Key × List D)
  | .dct ks ds => some (ks, ds)
  | .ref i => match h[i]? with
    | some (.dct ks ds) => some (ks, ds)
    | _ => none
  | _ => none
theorem dctD_rel {ks : List Key} {ds : List D} (r : Rel K ω h) (e : dctD h d = some (ks, ds)) (x : RelD K ω d v) : ∃ p vs, v = .ref p ∧ ω.H p = some (.dK (ks.zip vs)) ∧ ks.length = vs.length ∧ RelL K ω ds vs := by
  cases d <;> simp [dctD] at e
  · obtain ⟨rfl, rfl⟩ := e
    unfold RelD at x
    obtain ⟨p, vs, e1, e2, e3, e4⟩ := x
    exact ⟨p, vs, e1, e2.1, e3, e4⟩
  · rename_i i
    cases q : h[i]? with
    | none => simp [q] at e
    | some c =>
      cases c with
      | lst ys => simp [q] at e
      | dct ks' ds' =>
        simp [q] at e
        obtain ⟨rfl, rfl⟩ := e
        unfold RelD at x
        obtain ⟨vs, e1, e2, e3⟩ := r.cel i _ q
        exact ⟨_, vs, x.2, e1, e2, e3⟩
/-- len -/
def lenF (xs : List D) (h : Hc) : R D := match xs with
  | [.str z] => if z.length ≤ lim then .ok (.int z.length) h else .bad
  | [d] => match seqD h d with
    | some ys => .ok (.int ys.length) h
    | none => match dctD h d with
      | some (ks, _) => .ok (.int ks.length) h
      | none => .bad
  | _ => .bad
def rLenA (K : PySem.W.Frag) : List V → Hp → VK → Prop := fun xs H Q => (∃ x n, xs = [x] ∧ LenV K x H n ∧ Q (.int n) H) ∨ ∃ a kvs, xs = [V.ref a] ∧ H a = some (.dK kvs) ∧ Q (.int kvs.length) H
theorem call_lenA : CallR X (.builtin "len") (rLenA X.K) := call_len.or call_lenD
theorem zip_len {ks : List Key} {vs : List V} (e : ks.length = vs.length) : (ks.zip vs).length = ks.length := by rw [List.length_zip, e, Nat.min_self]
theorem cd_len : CallD X (rLenA X.K) lenF := fun W σ ω h xs vs Q r rx p => by
  unfold lenF at p
  split at p
  · rename_i z
    obtain ⟨hl, p⟩ := p.if_
    obtain ⟨v, ws, rfl, e2, e3⟩ := rx.inv
    rw [e3.inv0, rd_str e2]
    exact .inl ⟨_, z.length, rfl, ⟨lim_le hl, rfl⟩, p.here r int_rd⟩
  · obtain ⟨v, ws, rfl, e2, e3⟩ := rx.inv
    rw [e3.inv0]
    split at p
    · rename_i ys q
      obtain ⟨a, us, e1, e4, e5⟩ := seqD_rel r q e2
      refine .inl ⟨v, us.length, rfl, ?_, by rw [← e5.len]; exact p.here r int_rd⟩
      rw [e1]
      exact e4.elim (fun z => .inr ⟨us, z, rfl⟩) fun z => .inl ⟨us, z, rfl⟩
    · split at p
      · rename_i ks ds q
        obtain ⟨a, us, e4, e5, e6, e7⟩ := dctD_rel r q e2
        refine .inr ⟨a, _, by rw [e4], e5, ?_⟩
        rw [zip_len e6]; exact p.here r int_rd
      · exact False.elim p
  · exact False.elim p
/-- isinstance -/
def tyD (h : Hc) : D → Option String
  | .non => some "NoneType"
  | .bl _ => some "bool"
  | .int _ => some "int"
  | .str _ => some "str"
  | .tup _ => some "tuple"
  | .lst _ => some "list"
  | .scr _ => some "list"
  | .dct _ _ => some "dict"
  | .ref i => match h[i]? with
    | some (.lst _) => some "list"
    | some (.dct _ _) => some "dict"
    | none => none
  | .ty _ => none
theorem tyD_rel {t : String} (r : Rel K ω h) (e : tyD h d = some t) (x : RelD K ω d v) : TyX K ω.H v (.type t) := by
  have tl : ∀ {p : Addr} {vs : List V}, SqL K ω.H p vs → TyX K ω.H (.ref p) (.type "list") := fun z => by
    rcases z with (z | ⟨o, z⟩) | ⟨o, its, n, z1, z2, _⟩
    · exact .base (.lst z)
    · exact .base (.frz z)
    · exact .kList z1 z2
  cases d <;> simp [tyD] at e
  · subst e; rw [rd_non x]; exact .base .non
  · subst e; rw [rd_bl x]; exact .base (.bl _)
  · subst e; rw [rd_int x]; exact .base (.int _)
  · subst e; rw [rd_str x]; exact .base (.str _)
  · subst e
    obtain ⟨p, vs, rfl, z, _⟩ := rd_tup x
    rcases z with (z | ⟨o, z⟩) | ⟨o, its, n, z1, z2, _⟩
    · exact .base (.tup z)
    · exact .fTuple z
    · exact .kTuple z1 z2
  · subst e
    obtain ⟨p, vs, rfl, z, _⟩ := rd_lst x
    exact tl (.inl (.inl z))
  · subst e
    obtain ⟨p, vs, rfl, z, _⟩ := rd_scr x
    exact tl z
  · rename_i ks ds
    subst e
    obtain ⟨p, vs, rfl, z, _⟩ := dctD_rel (d := .dct ks ds) r rfl x
    exact .base (.dK z)
  · rename_i i
    cases q : h[i]? with
    | none => simp [q] at e
    | some c =>
      cases c with
      | lst ys =>
        simp [q] at e; subst e
        obtain ⟨vs, _, rfl, z, _⟩ := rd_cel r x q
        exact tl (.inl (.inl z))
      | dct ks ds =>
        simp [q] at e; subst e
        obtain ⟨p, vs, rfl, z, _⟩ := dctD_rel (d := .ref i) (ks := ks) (ds := ds) r (by simp only [dctD, q]) x
        exact .base (.dK z)
def tyNames : List String := ["NoneType", "bool", "int", "str", "tuple", "list", "dict"]
def isB (a b : String) : Bool := a == b || (a == "bool" && b == "int")
theorem isB_ok : ∀ a ∈ tyNames, ∀ b ∈ (["bool", "int", "str", "tuple", "list", "dict"] : List String), kitB a b = some (isB a b) := by decide +kernel
theorem tyD_in {t : String} (e : tyD h d = some t) : t ∈ tyNames := by
  cases d <;> simp [tyD] at e <;> try (subst e; decide)
  rename_i i
  cases q : h[i]? with
  | none => simp [q] at e
  | some c => cases c <;> simp [q] at e <;> subst e <;> decide
def tyAsked : List String := ["bool", "int", "str", "tuple", "list", "dict"]
def isF (xs : List D) (h : Hc) : R D := match xs with
  | [x, .ty b] => match tyD h x with
    | some t => if tyAsked.contains b = true then .ok (.bl (isB t b)) h else .bad
    | none => .bad
  | _ => .bad
theorem cd_is : CallD X (rIsi X.K) isF := fun W σ ω h xs vs Q r rx p => by
  unfold isF at p
  split at p
  · rename_i x b
    split at p
    · rename_i t q1
      obtain ⟨hc, p⟩ := p.if_
      obtain ⟨v, ws, rfl, e2, e3⟩ := rx.inv
      obtain ⟨u, ws', rfl, e4, e5⟩ := e3.inv
      rw [e5.inv0]
      exact ⟨v, u, .type t, .type b, isB t b, rfl, by rw [rd_ty e4]; exact .ty b, tyD_rel r q1 e2, kit_ty (isB_ok t (tyD_in q1) b (by simpa [tyAsked] using hc)), p.here r bl_rd⟩
    · exact False.elim p
  · exact False.elim p
/-- isinstance(x, (A, B)) -/
def eIs2 (m : SE) (a b : String) : SE := fun ds h => (m ds h).bd fun x h1 => match tyD h1 x with
  | some t => if tyAsked.contains a = true ∧ tyAsked.contains b = true then .ok (.bl (isB t a || isB t b)) h1 else .bad
  | none => .bad
theorem TyX.up {t : Value} {q : Addr} {o : HO} (hq : ω.H q = none) (x : TyX K ω.H v t) : TyX K (upd ω.H q o) v t := by
  have ne : ∀ {a : Addr} {u : HO}, ω.H a = some u → (upd ω.H q o) a = some u := fun z => by rw [upd_ne (ne_of_none z hq)]; exact z
  cases x with
  | base z =>
    cases z with
    | non => exact .base .non
    | bl b => exact .base (.bl b)
    | int i => exact .base (.int i)
    | str i => exact .base (.str i)
    | flt i => exact .base (.flt i)
    | lst e => exact .base (.lst (ne e))
    | frz e => exact .base (.frz (ne e))
    | tup e => exact .base (.tup (ne e))
    | dK e => exact .base (.dK (ne e))
    | dT e => exact .base (.dT (ne e))
    | ins e a b c d f => exact .base (.ins (ne e) a b c d f)
  | byt b => exact .byt b
  | set e => exact .set (ne e)
  | kList e c => exact .kList e c
  | kTuple e c => exact .kTuple e c
  | kDict e c => exact .kDict e c
  | fTuple e => exact .fTuple (ne e)
  | fDict e => exact .fDict (ne e)
theorem de_is2 {a b : String} {e : Expr} (h : PE X e (tCB (rIsiT X.K) (tCons (tE X W m) (tCons (tTup (tCons (tC (.ty a)) (tCons (tC (.ty b)) tNil))) tNil)))) : DE X W e (eIs2 m a b) := de_of h fun σ H Q ⟨ω, h, ds, e1, r, s, p⟩ => by
  subst e1
  refine ⟨ω, h, ds, rfl, r, s, Post.bd (show Post X.K X.mg W σ ω _ Q ((m ds h).bd _) from p) fun x h1 v ω1 e1 r1 d1 p1 => ?_⟩
  split at p1
  · rename_i t q1
    obtain ⟨⟨ha, hb⟩, p1⟩ := p1.if_
    refine ⟨by show 2 ≤ sizeLine; decide, fun q hq => ⟨v, q, [.ty a, .ty b], .type t, [.type a, .type b], isB t a || isB t b, rfl, upd_same, .cons (.ty a) (.cons (.ty b) .nil), TyX.up hq (tyD_rel r1 q1 d1), ?_, p1 _ (ω1.up q _) (Ext.up hq) (r1.up hq) bl_rd⟩⟩
    have za := kit_ty (K := X.K) (isB_ok t (tyD_in q1) a (by simpa [tyAsked] using ha))
    have zb := kit_ty (K := X.K) (isB_ok t (tyD_in q1) b (by simpa [tyAsked] using hb))
    refine kitAny_cons za (fun z => ?_) fun z => by rw [z]; rfl
    refine kitAny_cons zb (fun z2 => ?_) fun z2 => by rw [z, z2]; rfl
    rw [z, z2]; exact kitAny_nil
  · exact False.elim p1
/-- int -/
def intF (xs : List D) (h : Hc) : R D := match xs with
  | [.int i] => .ok (.int i) h
  | [.bl b] => .ok (.int (if b then 1 else 0)) h
  | _ => .bad
@[simp] theorem intF_int (i : Int) (h : Hc) : intF [.int i] h = .ok (.int i) h := Eq.trans rfl rfl
theorem cd_int : CallD X (fun xs H Q => (∃ i, xs = [.int i] ∧ Q (.int i) H) ∨ ∃ k, xs = [.bl k] ∧ Q (.int (if k then 1 else 0)) H) intF := fun W σ ω h xs vs Q r rx p => by
  unfold intF at p
  split at p
  · obtain ⟨v, ws, rfl, e2, e3⟩ := rx.inv
    rw [e3.inv0, rd_int e2]
    exact .inl ⟨_, rfl, p.here r int_rd⟩
  · obtain ⟨v, ws, rfl, e2, e3⟩ := rx.inv
    rw [e3.inv0, rd_bl e2]
    exact .inr ⟨_, rfl, p.here r int_rd⟩
  · exact False.elim p
/-- math.gcd -/
def gcdF (xs : List D) (h : Hc) : R D := match xs with
  | [.int i, .int j] => .ok (.int ((Nat.gcd i.natAbs j.natAbs : Nat) : Int)) h
  | _ => .bad
@[simp] theorem gcdF_int (i j : Int) (h : Hc) : gcdF [.int i, .int j] h = .ok (.int ((Nat.gcd i.natAbs j.natAbs : Nat) : Int)) h := Eq.trans rfl rfl
theorem cd_gcd : CallD X rGcd gcdF := fun W σ ω h xs vs Q r rx p => by
  unfold gcdF at p
  split at p
  · obtain ⟨v, ws, rfl, e2, e3⟩ := rx.inv
    obtain ⟨v', ws', rfl, e4, e5⟩ := e3.inv
    rw [e5.inv0, rd_int e2, rd_int e4]
    exact ⟨_, _, rfl, p.here r int_rd⟩
  · exact False.elim p
/-- tuple(xs), list(xs) -/
def tupleF (xs : List D) (h : Hc) : R D := match xs with
  | [.tup ys] => .ok (.tup ys) h
  | [d] => match rdlD h d with
    | some ys => .ok (.tup ys) h
    | none => .bad
  | _ => .bad
theorem cd_tuple : CallD X (fun xs H Q => ∃ p ys, xs = [.ref p] ∧ ((SqL X.K H p ys ∧ ∀ l, H l = none → Q (.ref l) (upd H l (.tup ys))) ∨ (SqT X.K H p ys ∧ Q (.ref p) H))) tupleF := fun W σ ω h xs vs Q r rx p => by
  unfold tupleF at p
  split at p
  · obtain ⟨v, ws, rfl, e2, e3⟩ := rx.inv
    rw [e3.inv0]
    obtain ⟨a, us, e4, e5, e6⟩ := rd_tup e2
    subst e4
    exact ⟨a, us, rfl, .inr ⟨e5, p.here r e2⟩⟩
  · obtain ⟨v, ws, rfl, e2, e3⟩ := rx.inv
    rw [e3.inv0]
    split at p
    · rename_i ys q
      obtain ⟨a, us, e4, e5, e6⟩ := rdlD_rel r q e2
      subst e4
      refine ⟨a, us, rfl, .inl ⟨e5, fun l hl => p (.ref l) (ω.up l _) (Ext.up hl) (r.up hl) ?_⟩⟩
      unfold RelD
      exact ⟨l, _, rfl, .inl (.inl upd_same), monoL r (Ext.up hl) _ _ e6⟩
    · exact False.elim p
  · exact False.elim p
def listF (xs : List D) (h : Hc) : R D := match xs with
  | [d] => match seqD h d with
    | some ys => .ok (.lst ys) h
    | none => .bad
  | _ => .bad
def listC (xs : List D) (h : Hc) : R D := match xs with
  | [d] => match seqD h d with
    | some ys => .ok (.ref h.length) (h ++ [.lst ys])
    | none => .bad
  | _ => .bad
theorem cd_list : CallD X (fun xs H Q => ∃ p ys, xs = [.ref p] ∧ (SqL X.K H p ys ∨ SqT X.K H p ys) ∧ ∀ l, H l = none → Q (.ref l) (upd H l (.lst ys))) listF := fun W σ ω h xs vs Q r rx p => by
  unfold listF at p
  split at p
  · obtain ⟨v, ws, rfl, e2, e3⟩ := rx.inv
    rw [e3.inv0]
    split at p
    · rename_i ys q
      obtain ⟨a, us, e4, e5, e6⟩ := seqD_rel r q e2
      subst e4
      exact ⟨a, us, rfl, e5.symm, fun l hl => p (.ref l) (ω.up l _) (Ext.up hl) (r.up hl) (fz_new r hl e6)⟩
    · exact False.elim p
  · exact False.elim p
/-- sum, all, any of a list -/
def intsD : List D → Option (List Int)
  | [] => some []
  | .int i :: r => (intsD r).map (i :: ·)
  | _ :: _ => none
def blsD : List D → Option (List Bool)
  | [] => some []
  | .bl i :: r => (blsD r).map (i :: ·)
  | _ :: _ => none
def strsD : List D → Option (List Str)
  | [] => some []
  | .str i :: r => (strsD r).map (i :: ·)
  | _ :: _ => none
theorem intsD_eq : ∀ {ds : List D} {ns : List Int}, intsD ds = some ns → ds = ns.map D.int
  | [], ns, e => by simp [intsD] at e; subst e; rfl
  | d :: ds, ns, e => by
    cases d <;> simp [intsD] at e
    obtain ⟨a, e1, rfl⟩ := e
    rw [intsD_eq e1]; rfl
theorem blsD_eq : ∀ {ds : List D} {ns : List Bool}, blsD ds = some ns → ds = ns.map D.bl
  | [], ns, e => by simp [blsD] at e; subst e; rfl
  | d :: ds, ns, e => by
    cases d <;> simp [blsD] at e
    obtain ⟨a, e1, rfl⟩ := e
    rw [blsD_eq e1]; rfl
@[simp] theorem intsD_map (ns : List Int) : intsD (ns.map D.int) = some ns := by induction ns with
  | nil => rfl
  | cons n ns ih => simp [intsD, ih]
@[simp] theorem blsD_map (ns : List Bool) : blsD (ns.map D.bl) = some ns := by induction ns with
  | nil => rfl
  | cons n ns ih => simp [blsD, ih]
/-- one list of ints (bools), and what is made of it -/
def lF {α : Type} (get : List D → Option (List α)) (g : List α → D) (xs : List D) (h : Hc) : R D := match xs with
  | [d] => match rdlD h d with
    | some ys => match get ys with
      | some ns => .ok (g ns) h
      | none => .bad
    | none => .bad
  | _ => .bad
abbrev sumF := lF intsD fun ns => .int ns.sum
abbrev allF := lF blsD fun bs => .bl (bs.all id)
abbrev anyF := lF blsD fun bs => .bl (bs.any id)
theorem lF_get {α : Type} {get : List D → Option (List α)} {g : List α → D} {xs : List D} {vs : List V} {Q : VK} {σ : L2.St} (r : Rel X.K ω h) (rx : RelL X.K ω xs vs) (p : Post X.K X.mg W σ ω (RelD X.K) Q (lF get g xs h)) :
    ∃ a us ys ns, vs = [.ref a] ∧ SqL X.K ω.H a us ∧ get ys = some ns ∧ RelL X.K ω ys us ∧ Post X.K X.mg W σ ω (RelD X.K) Q (.ok (g ns) h) := by
  unfold lF at p
  split at p
  · obtain ⟨v, ws, rfl, e2, e3⟩ := rx.inv
    rw [e3.inv0]
    split at p
    · rename_i ys q
      split at p
      · rename_i ns q2
        obtain ⟨a, us, e4, e5, e6⟩ := rdlD_rel r q e2
        subst e4
        exact ⟨a, us, ys, ns, rfl, e5, q2, e6, p⟩
      · exact False.elim p
    · exact False.elim p
  · exact False.elim p
theorem cd_all : CallD X (rAll X.K) allF := fun W σ ω h xs vs Q r rx p => by
  obtain ⟨a, us, ys, ns, rfl, e1, e2, e3, p⟩ := lF_get r rx p
  rw [blsD_eq e2] at e3
  rw [e3.bls] at e1
  exact ⟨a, ns, rfl, e1, p.here r bl_rd⟩
/-! ### methods of lists -/
def MtD (X : Cx) (T : String) (r : V → List V → Hp → VK → Prop) (f : D → List D → Hc → R D) : Prop :=
  ∀ (W : WX) (σ : L2.St) (ω : Wo) (h : Hc) (x : D) (xs : List D) (v : V) (vs : List V) (Q : VK), Rel X.K ω h → RelD X.K ω x v → RelL X.K ω xs vs → Post X.K X.mg W σ ω (RelD X.K) Q (f x xs h) → r v vs ω.H Q
/-- of which type the receiver is, as it is read ahead of the arguments -/
def kindOk (h : Hc) (T : String) (x : D) : Bool := if T == "str" then (match x with | .str _ => true | _ => false) else if T == "list" then (rdlD h x).isSome else if T == "dict" then (dctD h x).isSome else false
theorem kindOk_rel {T : String} (r : Rel K ω h) (e : kindOk h T d = true) (x : RelD K ω d v) : tyV K T v ω.H := by
  unfold kindOk at e
  split at e
  · rename_i ht
    have ht' : T = "str" := by simpa using ht
    subst ht'
    cases d <;> simp at e
    rw [rd_str x]; rfl
  · split at e
    · rename_i ht
      have ht' : T = "list" := by simpa using ht
      subst ht'
      obtain ⟨ys, q⟩ := Option.isSome_iff_exists.mp e
      obtain ⟨a, us, rfl, e5, e6⟩ := rdlD_rel r q x
      exact .inl ⟨rfl, us, e5⟩
    · split at e
      · rename_i ht
        have ht' : T = "dict" := by simpa using ht
        subst ht'
        obtain ⟨⟨ks, ds⟩, q⟩ := Option.isSome_iff_exists.mp e
        obtain ⟨a, us, rfl, e5, e6⟩ := dctD_rel r q x
        exact .inr (.inr (.inl ⟨rfl, .inl ⟨_, e5⟩⟩))
      · cases e
def eBM (T : String) (f : D → List D → Hc → R D) (m : SE) (as : SA) : SE := fun ds h => (m ds h).bd fun x h1 => if kindOk h1 T x = true then (as ds h1).bd fun xs h2 => f x xs h2 else .bad
def eBM0 (T : String) (f : D → List D → Hc → R D) (m : SE) : SE := fun ds h => (m ds h).bd fun x h1 => if kindOk h1 T x = true then f x [] h1 else .bad
theorem de_bm {T : String} {r : V → List V → Hp → VK → Prop} {f : D → List D → Hc → R D} (h : PE X e (tBM X.K T r (tE X W m) (tA X W as))) (hd : MtD X T r f) : DE X W e (eBM T f m as) := de_of h fun σ H Q ⟨ω, h, ds, e1, r, s, p⟩ => by
  subst e1
  refine ⟨ω, h, ds, rfl, r, s, Post.bd (show Post X.K X.mg W σ ω _ Q ((m ds h).bd _) from p) fun x h1 v ω1 e1 r1 d1 p1 => ?_⟩
  obtain ⟨hk, p1⟩ := p1.if_
  exact ⟨kindOk_rel r1 hk d1, ω1, h1, ds, rfl, r1, monoS r e1 s, p1.bd fun xs h2 vs ω2 e2 r2 d2 p2 => hd W σ ω2 h2 x xs v vs Q r2 (mono r1 e2 _ _ d1) d2 p2⟩
/-- xs.append(d) -/
def appF (x : D) (as : List D) (h : Hc) : R D := match x, as with
  | .ref i, [d] => match h[i]? with
    | some (.lst xs) => if xs.length < lim then .ok .non (h.set i (.lst (xs ++ [d]))) else .bad
    | _ => .bad
  | _, _ => .bad
theorem put_lst {i : Nat} {xs ys : List D} {vs : List V} (r : Rel K ω h) (q : h[i]? = some (.lst xs)) (y : RelL K ω ys vs) :
    Ext ω (ω.up (ω.β i) (.lst vs)) ∧ Rel K (ω.up (ω.β i) (.lst vs)) (h.set i (.lst ys)) := by
  have hi : i < ω.n := by rw [r.n]; exact (List.getElem?_eq_some_iff.mp q).1
  obtain ⟨o, ho, _⟩ := r.mut hi
  have e := Ext.put (o := .lst vs) hi ho
  exact ⟨e, r.put hi ⟨vs, upd_same, monoL r e _ _ y⟩⟩
theorem md_app : MtD X "list" rAppend appF := fun W σ ω h x xs v vs Q r rx ry p => by
  unfold appF at p
  split at p
  · rename_i i d
    split at p
    · rename_i ys q
      obtain ⟨hl, p⟩ := p.if_
      obtain ⟨us, hi, rfl, e2, e3⟩ := rd_cel r rx q
      obtain ⟨u, ws, rfl, e4, e5⟩ := ry.inv
      rw [e5.inv0]
      obtain ⟨e, r'⟩ := put_lst r q (e3.append (RelL.cons e4 RelL.nil))
      exact ⟨_, us, u, rfl, rfl, e2, by rw [← e3.len]; exact lim_lt hl, p _ _ e r' non_rd⟩
    · exact False.elim p
  · exact False.elim p
/-- xs.pop() -/
def popF (x : D) (as : List D) (h : Hc) : R D := match x, as with
  | .ref i, [] => match h[i]? with
    | some (.lst xs) => match xs[xs.length - 1]? with
      | some d => .ok d (h.set i (.lst xs.dropLast))
      | none => .bad
    | _ => .bad
  | _, _ => .bad
/-! ### stores -/
def SetD (X : Cx) (r : TSet) (f : D → D → D → Hc → Option Hc) : Prop :=
  ∀ (ω : Wo) (h h' : Hc) (o i x : D) (ov iv v : V) (Q : Hp → Prop), Rel X.K ω h → RelD X.K ω o ov → RelD X.K ω i iv → RelD X.K ω x v → f o i x h = some h' → (∀ ω', Ext ω ω' → Rel X.K ω' h' → Q ω'.H) → r ov iv v ω.H Q
def setF (o i x : D) (h : Hc) : Option Hc := match o, i with
  | .ref j, .int k => match h[j]? with
    | some (.lst xs) => (ixN xs.length k).map fun n => h.set j (.lst (xs.set n x))
    | _ => none
  | _, _ => none
theorem sd_set : SetD X rSetL setF := fun ω h h' o i x ov iv v Q r ro ri rx e q => by
  unfold setF at e
  split at e
  · rename_i j k
    split at e
    · rename_i xs q1
      rw [Option.map_eq_some_iff] at e
      obtain ⟨n, e1, rfl⟩ := e
      obtain ⟨us, hj, rfl, e2, e3⟩ := rd_cel r ro q1
      obtain ⟨ex, r'⟩ := put_lst r q1 (RelL.set rx n e3)
      exact ⟨_, us, k, n, rfl, rd_int ri, e2, by rw [← e3.len]; exact e1, q _ ex r'⟩
    · cases e
  · cases e
def sPut (f : D → D → D → Hc → Option Hc) (me mo mi : SE) : SS := fun ds h => sBd (me ds h) ds fun x h1 => sBd (mo ds h1) ds fun o h2 => sBd (mi ds h2) ds fun i h3 => match f o i x h3 with
  | some h4 => .nx ds h4
  | none => .bad
theorem ds_put {o i e : Expr} {me mo mi : SE} {r : TSet} {f : D → D → D → Hc → Option Hc} {p' : Pos} (h : PS X (.Assign [.Subscript o i p'] e pos) (tAsg (tE X W me) (gSub (tE X W mo) (tE X W mi) r))) (hd : SetD X r f) : DS X W (.Assign [.Subscript o i p'] e pos) (sPut f me mo mi) :=
  ds_of h fun E σ H ⟨ω, h, ds, e1, r, s, p⟩ => by
    subst e1
    refine ⟨ω, h, ds, rfl, r, s, PostO.bd r s p fun x h1 v ω1 e1 r1 d1 s1 p1 => ⟨ω1, h1, ds, rfl, r1, s1, PostO.bd r1 s1 p1 fun o h2 u ω2 e2 r2 d2 s2 p2 => ⟨ω2, h2, ds, rfl, r2, s2, PostO.bd r2 s2 p2 fun i h3 w ω3 e3 r3 d3 s3 p3 => ?_⟩⟩⟩
    cases q : f o i x h3 with
    | none => rw [q] at p3; exact False.elim p3
    | some h4 =>
      rw [q] at p3
      exact hd ω3 h3 h4 o i x u w v _ r3 (mono r2 e3 _ _ d2) d3 (mono r1 (e2.trans e3) _ _ d1) q fun ω4 e4 r4 => p3 σ ω4 e4 r4 (monoS r3 e4 s3)
/-- x op= e -/
def sAug (i : Nat) (f : D → D → Hc → R D) (me : SE) : SS := fun ds h => match ds[i]? with
  | some (some x) => sBd ((me ds h).bd fun y h1 => f x y h1) ds fun z h2 => .nx (ds.set i (some z)) h2
  | _ => .bad
/-! ### what is walked -/
mutual
/-- equality of data, to be reckoned -/
def eqDD : D → D → Bool
  | .non, .non => true
  | .bl a, .bl b => a == b
  | .int a, .int b => decide (a = b)
  | .str a, .str b => decide (a = b)
  | .ty a, .ty b => decide (a = b)
  | .tup a, .tup b => eqDL a b
  | .lst a, .lst b => eqDL a b
  | .scr a, .scr b => eqDL a b
  | .dct k a, .dct l b => decide (k = l) && eqDL a b
  | .ref a, .ref b => decide (a = b)
  | _, _ => false
def eqDL : List D → List D → Bool
  | [], [] => true
  | a :: r, b :: s => eqDD a b && eqDL r s
  | _, _ => false
end
mutual
theorem eqDD_eq : ∀ (a b : D), eqDD a b = true → a = b
  | .non, b, h => by cases b <;> simp [eqDD] at h ⊢
  | .bl x, b, h => by cases b <;> simp [eqDD] at h ⊢; exact h
  | .int x, b, h => by cases b <;> simp [eqDD] at h ⊢; exact h
  | .str x, b, h => by cases b <;> simp [eqDD] at h ⊢; exact h
  | .ty x, b, h => by cases b <;> simp [eqDD] at h ⊢; exact h
  | .tup x, b, h => by cases b <;> simp [eqDD] at h ⊢; exact eqDL_eq _ _ h
  | .lst x, b, h => by cases b <;> simp [eqDD] at h ⊢; exact eqDL_eq _ _ h
  | .scr x, b, h => by cases b <;> simp [eqDD] at h ⊢; exact eqDL_eq _ _ h
  | .dct k x, b, h => by cases b <;> simp [eqDD] at h ⊢; exact ⟨h.1, eqDL_eq _ _ h.2⟩
  | .ref x, b, h => by cases b <;> simp [eqDD] at h ⊢; exact h
theorem eqDL_eq : ∀ (a b : List D), eqDL a b = true → a = b
  | [], b, h => by cases b <;> simp [eqDL] at h ⊢
  | x :: r, b, h => by
    cases b with
    | nil => simp [eqDL] at h
    | cons y s =>
      simp [eqDL] at h
      rw [eqDD_eq _ _ h.1, eqDL_eq _ _ h.2]
end
mutual
theorem eqDD_self : ∀ (a : D), eqDD a a = true
  | .non => by unfold eqDD; rfl
  | .bl x => by unfold eqDD; simp
  | .int x => by unfold eqDD; simp
  | .str x => by unfold eqDD; simp
  | .ty x => by unfold eqDD; simp
  | .tup x => by unfold eqDD; exact eqDL_self x
  | .lst x => by unfold eqDD; exact eqDL_self x
  | .scr x => by unfold eqDD; exact eqDL_self x
  | .dct k x => by unfold eqDD; simp [eqDL_self x]
  | .ref x => by unfold eqDD; simp
theorem eqDL_self : ∀ (a : List D), eqDL a a = true
  | [] => by unfold eqDL; rfl
  | x :: r => by unfold eqDL; simp [eqDD_self x, eqDL_self r]
end
/-- the sequence is as it was -/
def chkQ (d : D) (xs : List D) : Hc → Bool := fun h' => match seqD h' d with
  | some ys => eqDL ys xs
  | none => false
theorem chkQ_spec {d : D} {xs : List D} {h' : Hc} (e : chkQ d xs h' = true) : seqD h' d = some xs := by
  unfold chkQ at e
  split at e
  · rename_i ys q
    rw [q, eqDL_eq _ _ e]
  · cases e
theorem chkQ_of {d : D} {xs : List D} {h' : Hc} (e : seqD h' d = some xs) : chkQ d xs h' = true := by
  unfold chkQ
  rw [e]
  exact eqDL_self xs
/-- a sequence -/
def iSeq (m : SE) : SI := fun ds h => (m ds h).bd fun d h1 => match seqD h1 d with
  | some xs => .ok ⟨xs, chkQ d xs⟩ h1
  | none => .bad
theorem itOk_list {xs : List D} {a : Addr} (r : Rel K ω h) (x : RelD K ω d (.ref a)) (hs : ∀ h', seqD h' d = some xs → rdlD h' d = some xs) : ItOk K ω ⟨xs, chkQ d xs⟩ (Itl K a) := fun i ω' h' e r' hk => by
  replace hk : seqD h' d = some xs := chkQ_spec (show chkQ d xs h' = true from hk)
  obtain ⟨p, vs, e1, e2, e3⟩ := rdlD_rel r' (hs h' hk) (mono r e _ _ x)
  cases e1
  refine ⟨fun d hd => ?_, fun hn => ⟨vs, e2, ?_⟩⟩
  · obtain ⟨v, e4, e5⟩ := e3.get hd
    refine ⟨⟨vs, v, e2, e4⟩, fun y H' ⟨e6, e7⟩ => ⟨ω', e6.symm, Ext.refl _, r', ?_⟩⟩
    have := e7 vs e2
    rw [e4] at this
    cases this
    exact e5
  · rw [← e3.len]; exact List.getElem?_eq_none_iff.mp hn
theorem itOk_tup {xs : List D} {a : Addr} (r : Rel K ω h) (x : RelD K ω (.tup xs) (.ref a)) : ItOk K ω ⟨xs, chkQ (.tup xs) xs⟩ (Itt K a) := fun i ω' h' e r' hk => by
  replace hk : seqD h' (.tup xs) = some xs := chkQ_spec (show chkQ (.tup xs) xs h' = true from hk)
  obtain ⟨p, vs, e1, e2, e3⟩ := rd_tup (mono r e _ _ x)
  cases e1
  refine ⟨fun d hd => ?_, fun hn => ⟨vs, e2, ?_⟩⟩
  · obtain ⟨v, e4, e5⟩ := e3.get hd
    refine ⟨⟨vs, v, e2, e4⟩, fun y H' ⟨e6, e7⟩ => ⟨ω', e6.symm, Ext.refl _, r', ?_⟩⟩
    have := e7 vs e2
    rw [e4] at this
    cases this
    exact e5
  · rw [← e3.len]; exact List.getElem?_eq_none_iff.mp hn
def isTup : D → Bool
  | .tup _ => true
  | _ => false
theorem rdl_of_seq {xs : List D} (hn : isTup d = false) (e : seqD h d = some xs) : rdlD h d = some xs := by
  cases d <;> simp [isTup] at hn <;> first | exact e | (simp [seqD] at e)
theorem di_seq {tg : Expr} (he : DE X W e m) : DI X W tg e (iSeq m) := di_of (pi_or (pi_list he) (pi_tup he)) fun σ H R ⟨ω, h, ds, e1, r, s, p⟩ => by
  subst e1
  have p' : Post X.K X.mg W σ ω (ItOk X.K) R ((m ds h).bd fun d h1 => match seqD h1 d with
    | some xs => .ok ⟨xs, chkQ d xs⟩ h1
    | none => .bad) := p
  cases q : m ds h with
  | ok d h1 =>
    by_cases ht : isTup d = true
    · refine .inr ⟨ω, h, ds, rfl, r, s, ?_⟩
      rw [q]
      intro v ω1 e1 r1 d1
      rw [q] at p'
      cases d <;> simp [isTup] at ht
      rename_i xs
      obtain ⟨a, vs, rfl, e4, e5⟩ := rd_tup d1
      exact ⟨a, rfl, ⟨vs, e4⟩, (show Post X.K X.mg W σ ω (ItOk X.K) R (.ok ⟨xs, chkQ (.tup xs) xs⟩ h1) from p') _ ω1 e1 r1 (itOk_tup r1 d1)⟩
    · have ht' : isTup d = false := by simpa using ht
      refine .inl ⟨ω, h, ds, rfl, r, s, ?_⟩
      rw [q]
      intro v ω1 e1 r1 d1
      rw [q] at p'
      simp only [Mp.R.bd_ok] at p'
      split at p'
      · rename_i xs q2
        obtain ⟨a, vs, rfl, e4, e5⟩ := rdlD_rel r1 (rdl_of_seq ht' q2) d1
        exact ⟨a, rfl, ⟨vs, e4⟩, p' _ ω1 e1 r1 (itOk_list r1 d1 fun h' z => rdl_of_seq ht' z)⟩
      · exact False.elim p'
  | ex x fs vs h1 =>
    refine .inl ⟨ω, h, ds, rfl, r, s, ?_⟩
    rw [q] at p' ⊢; exact p'
  | bad => rw [q] at p'; exact False.elim p'
/-- range -/
def upFrom (lo : Int) (n : Nat) : List D := (List.range n).map fun (i : Nat) => D.int (lo + (i : Int))
def iRg1 (as : SA) : SI := fun ds h => (as ds h).bd fun xs h1 => match xs with
  | [.int j] => if -(2 ^ 62) ≤ j ∧ j < 2 ^ 62 then .ok ⟨upFrom 0 j.toNat, fun _ => true⟩ h1 else .bad
  | _ => .bad
def iRg2 (as : SA) : SI := fun ds h => (as ds h).bd fun xs h1 => match xs with
  | [.int i, .int j] => if -(2 ^ 62) ≤ i ∧ i < 2 ^ 62 ∧ -(2 ^ 62) ≤ j ∧ j < 2 ^ 62 then .ok ⟨upFrom i (j - i).toNat, fun _ => true⟩ h1 else .bad
  | _ => .bad
theorem itOk_rng {lo : Int} {n : Nat} : ItOk K ω ⟨upFrom lo n, fun _ => true⟩ (Itr lo n) := fun i ω' h' e r' hk => by
  unfold upFrom
  refine ⟨fun d hd => ?_, fun hn => ?_⟩
  · by_cases hi : i < n
    · have : d = .int (lo + (i : Int)) := by
        simp [List.getElem?_map, List.getElem?_range hi] at hd
        exact hd.symm
      subst this
      refine ⟨hi, fun y H' ⟨e6, e7⟩ => ⟨ω', e6.symm, Ext.refl _, r', ?_⟩⟩
      rw [e7]; exact int_rd
    · rw [List.getElem?_map, List.getElem?_eq_none (by simpa using Nat.not_lt.mp hi)] at hd; cases hd
  · simp only [List.getElem?_map, Option.map_eq_none_iff, List.getElem?_eq_none_iff, List.length_range] at hn
    exact hn
theorem di_rg1 {tg : Expr} (h : PI X tg e (iRng1 (tA X W as))) : DI X W tg e (iRg1 as) := di_of h fun σ H R ⟨ω, h, ds, e1, r, s, p⟩ => by
  subst e1
  refine ⟨ω, h, ds, rfl, r, s, Post.bd (show Post X.K X.mg W σ ω _ R ((as ds h).bd _) from p) fun xs h1 vs ω1 e1 r1 d1 p1 => ?_⟩
  split at p1
  · rename_i j
    obtain ⟨hc, p1⟩ := p1.if_
    obtain ⟨v, ws, rfl, e2, e3⟩ := d1.inv
    rw [e3.inv0, rd_int e2]
    exact ⟨j, rfl, hc.1, hc.2, p1 _ ω1 (Ext.refl _) r1 itOk_rng⟩
  · exact False.elim p1
theorem di_rg2 {tg : Expr} (h : PI X tg e (iRng2 (tA X W as))) : DI X W tg e (iRg2 as) := di_of h fun σ H R ⟨ω, h, ds, e1, r, s, p⟩ => by
  subst e1
  refine ⟨ω, h, ds, rfl, r, s, Post.bd (show Post X.K X.mg W σ ω _ R ((as ds h).bd _) from p) fun xs h1 vs ω1 e1 r1 d1 p1 => ?_⟩
  split at p1
  · rename_i i j
    obtain ⟨hc, p1⟩ := p1.if_
    obtain ⟨v, ws, rfl, e2, e3⟩ := d1.inv
    obtain ⟨v', ws', rfl, e4, e5⟩ := e3.inv
    rw [e5.inv0, rd_int e2, rd_int e4]
    exact ⟨i, j, rfl, hc, p1 _ ω1 (Ext.refl _) r1 itOk_rng⟩
  · exact False.elim p1
end
end Mp
/-! LayG: truth, defs as they stand behind the top, the end. -/
namespace Mp
open PySem PySem.Spec PyProof.Rows L2
section
variable {X : Cx} {W : WX} {K : PySem.W.Frag} {mg : Str → Option Value} {ω ω' : Wo} {h h' : Hc} {d : D} {v : V} {e a b : Expr} {es : List Expr} {m ma mb : SE} {as : SA} {pos p : Pos} {x : Str}
/-! ### truth -/
def truD (h : Hc) : D → Option Bool
  | .non => some false
  | .bl b => some b
  | .int i => some (i != 0)
  | .str z => if z.length ≤ lim then some ((z.length : Int) != 0) else none
  | d => match seqD h d with
    | some xs => some (!xs.isEmpty)
    | none => match dctD h d with
      | some (ks, _) => some (!ks.isEmpty)
      | none => none
theorem emp_len {α β : Type} : ∀ {xs : List α} {ys : List β}, xs.length = ys.length → xs.isEmpty = ys.isEmpty
  | [], [], _ => rfl
  | [], _ :: _, e => by simp at e
  | _ :: _, [], e => by simp at e
  | _ :: _, _ :: _, _ => rfl
theorem truD_rel {k : Bool} (r : Rel K ω h) (e : truD h d = some k) (x : RelD K ω d v) : TruV K v ω.H k := by
  have go : ∀ d, RelD K ω d v → (match seqD h d with
    | some xs => some (!xs.isEmpty)
    | none => match dctD h d with
      | some (ks, _) => some (!ks.isEmpty)
      | none => none) = some k → TruV K v ω.H k := by
    intro d x e
    split at e
    · rename_i xs q
      cases e
      obtain ⟨a, us, rfl, e4, e5⟩ := seqD_rel r q x
      rcases e4 with e4 | e4
      · exact .inr (.inl ⟨us, e4, by rw [emp_len e5.len]⟩)
      · exact .inl ⟨us, e4, by rw [emp_len e5.len]⟩
    · split at e
      · rename_i ks ds q
        cases e
        obtain ⟨a, us, rfl, e5, e6, e7⟩ := dctD_rel r q x
        exact .inr (.inr ⟨_, e5, by rw [emp_len (zip_len e6)]⟩)
      · cases e
  cases d with
  | non => simp only [truD, Option.some.injEq] at e; rw [rd_non x]; exact (show k = false from e.symm)
  | bl b => simp only [truD, Option.some.injEq] at e; rw [rd_bl x]; exact (show k = b from e.symm)
  | int i => simp only [truD, Option.some.injEq] at e; rw [rd_int x]; exact (show k = (i != 0) from e.symm)
  | str z =>
    simp only [truD] at e
    by_cases hl : z.length ≤ lim
    · rw [if_pos hl] at e; cases e; rw [rd_str x]; exact ⟨lim_le hl, rfl⟩
    · rw [if_neg hl] at e; cases e
  | tup xs => exact go _ x e
  | lst xs => exact go _ x e
  | scr xs => exact go _ x e
  | dct ks xs => exact go _ x e
  | ref i => exact go _ x e
  | ty t => exact go _ x e
def bTru (m : SE) : SB := fun ds h => (m ds h).bd fun x h1 => match truD h1 x with
  | some b => .ok b h1
  | none => .bad
theorem dt_tru (ha : DE X W e m) (he : ∀ whole, isTrue e X.env whole = (do let v ← whole; standAt e.pos; holding [v] (truthy v)) := by intro _; rfl) : DT X W e (bTru m) :=
  dt_of (pt_truth ha he) fun σ H Q ⟨ω, h, ds, e1, r, s, p⟩ => by
    subst e1
    refine ⟨ω, h, ds, rfl, r, s, Post.bd (show Post X.K X.mg W σ ω _ Q ((m ds h).bd _) from p) fun x h1 v ω1 e1 r1 d1 p1 => ?_⟩
    split at p1
    · rename_i b q
      exact ⟨b, truD_rel r1 q d1, p1 b ω1 (Ext.refl _) r1 rfl⟩
    · exact False.elim p1
end
/-! ### a def of the text -/
def DefAt (K : PySem.W.Frag) (mg : Str → Option Value) (x qual : Str) (st : Stmt) (ps : List Str) : Prop := ∃ (f : Addr) (fd : FuncData), mg x = some (.ref f) ∧ Fun K x qual st f fd ∧ Binds K fd ps []
/-- a def that is as its data function says -/
def Good (P : Program) (w : World) (K : PySem.W.Frag) (mg : Str → Option Value) (base : Heap) (x : Str) (k : Nat) (ps : List Str) (m : Fn) : Prop :=
  ∃ (f : Addr) (fd : FuncData), mg x = some (.ref f) ∧ PySem.W.keepIn K (.ref f) = true ∧ Binds K fd ps [] ∧ (∃ oc od sl, K.lookup f = some ⟨oc, od, .func fd, sl⟩) ∧ FnOk P w K mg base (L2.CX P w) k f fd ps (spD K mg ps.length m)
section
variable {P : Program} {w : World} {K : PySem.W.Frag} {mg : Str → Option Value} {base : Heap} {x qual : Str} {st : Stmt} {ps N : List Str} {k j : Nat} {m : SS}
theorem fun_lk {f : Addr} {fd : FuncData} (F : Fun K x qual st f fd) : ∃ oc od sl, K.lookup f = some ⟨oc, od, .func fd, sl⟩ := by
  obtain ⟨oc, od, kV, doc, pm, an, cdv, ct, osl, rfl, lk, hcd⟩ := F.ex
  exact ⟨oc, od, osl, lk⟩
abbrev DefX (P : Program) (w : World) (K : PySem.W.Frag) (mg : Str → Option Value) (base : Heap) (N : List Str) (qual : Str) (st : Stmt) (f : Addr) (cdv : Value) (A : Around) (outer : List Env) (s : Shared) (H : Hp) (E : XK) : Cx := cxOf (L2.CX P w) P w K mg base N qual (defScope st) f cdv A outer s H E
theorem DefAt.good (D : DefAt K mg x qual st ps) (S : FnScope N ps (defScope st))
    (hb : ∀ (f : Addr) (cdv : Value) (A : Around) (outer : List Env) (s : Shared) (H : Hp) (E : XK), Room k (DefX P w K mg base N qual st f cdv A outer s H E).A → DSs (DefX P w K mg base N qual st f cdv A outer s H E) (WF E) (defBody st) m) :
    Good P w K mg base x (k + 1) ps (runB N.length m) := by
  obtain ⟨f, fd, g, F, b⟩ := D
  exact ⟨f, fd, g, F.kp, b, fun_lk F, fn_ok F S fun cdv A outer s H E hr => hb f cdv A outer s H E hr⟩
/-- nothing is claimed -/
theorem DefAt.none (D : DefAt K mg x qual st ps) (S : FnScope N ps (defScope st)) : Good P w K mg base x 1 ps (fun _ _ => .bad) := by
  obtain ⟨f, fd, g, F, b⟩ := D
  refine ⟨f, fd, g, F.kp, b, fun_lk F, (fn_ok (k := 0) (m := sBad) F S fun cdv A outer s H E hr => ⟨fun pins s σ H E I ⟨ω, h, ds, e1, r, s', p⟩ => False.elim p⟩).imp fun vs H Q E z => ?_⟩
  obtain ⟨_, ω, h, ds, _, _, _, p⟩ := z
  exact False.elim p
theorem Good.mono {m : Fn} (G : Good P w K mg base x j ps m) (h : j ≤ k) : Good P w K mg base x k ps m := by
  obtain ⟨f, fd, g, kp, b, lk, F⟩ := G
  exact ⟨f, fd, g, kp, b, lk, F.mono h⟩
end
section
variable {X : Cx} {W : WX} {e : Expr} {es : List Expr} {as : SA} {m : Fn} {pos p : Pos} {x : Str} {ps : List Str} {k : Nat}
theorem dc (tk : Takes X W) (G : Good X.prog X.w X.K X.mg X.base x k ps m) (hr : Room k X.A) (hg : Gl X x) (hn : (e :: es).length = ps.length) (hl : ∀ ds h xs h', as ds h = .ok xs h' → xs.length = (e :: es).length) (ha : DA X W (e :: es) as)
    (hdb : (x == ("__debug__" : Str)) = false := by decide) (he : starEach (e :: es) X.env = (false, eval e X.env) :: starEach es X.env := by rfl) (hpl : (backTo pos (starEach es X.env)).any (·.1) = false := by rfl) : DE X W (.Call (.Name x p) (e :: es) [] pos) (eCall m as) := by
  obtain ⟨f, fd, g, kp, b, _, F⟩ := G
  exact de_call tk F hr hg g kp b hn hl ha hdb he hpl
/-- a value of the top: d stands for it in every world -/
def TopVal (K : PySem.W.Frag) (mg : Str → Option Value) (x : Str) (d : D) : Prop := ∃ (u : Value) (v : V), mg x = some u ∧ RelV v u ∧ ∀ ω : Wo, RelD K ω d v
theorem de_top {d : D} (hg : Gl X x) (T : TopVal X.K X.mg x d) (hd : (x == ("__debug__" : Str)) = false := by decide) : DE X W (.Name x pos) (eC d) := by
  obtain ⟨u, v, h1, h2, h3⟩ := T
  exact de_c (pe_glob hg h1 h2 hd) h3
/-- a built-in type as a value -/
theorem de_bty {n : String} (hg : Gl X x) (hm : X.mg x = none) (hv : bootBuiltins x = some (.type n)) (hn : x ≠ "__name__" := by decide) (hd : (x == ("__debug__" : Str)) = false := by decide) : DE X W (.Name x pos) (eC (.ty n)) :=
  de_c (v := .ty n) (pe_bltn hg hm hv (show RelV (.ty n) (.type n) from rfl) hn hd) fun _ => ty_rd
end
section
variable {X : Cx} {W : WX} {K : PySem.W.Frag} {mg : Str → Option Value} {ω ω' : Wo} {h h' : Hc} {d : D} {v : V} {e a b : Expr} {es : List Expr} {m ma mb : SE} {as : SA} {pos : Pos}
theorem hu_of64 {k : Nat} (hr : Room k X.A) : X.A.units + 64 < cLine := by have := hr.un; omega
/-! ### targets, comprehensions, as they are printed -/
theorem dgsC {p : Pt} {ps : List Pt} (h1 : DG X e p) (h2 : DGs X es ps) (h : PG X e (tP X.K p) → PGs X es (tPs X.K ps) → PGs X (e :: es) (gCons (tP X.K p) (tPs X.K ps))) : DGs X (e :: es) (p :: ps) := dgs_cons h1 h2 (h h1 h2)
theorem dgT {k : Nat} {ps : List Pt} (hc : X.calm = true) (h : DGs X es ps) (h1 : PGs X es (tPs X.K ps) → PG X (.Tuple es k pos) (gTup X.K ps.length (tPs X.K ps))) (h2 : PGs X es (tPs X.K ps) → PG X (.Tuple es k pos) (gLst X.K ps.length (tPs X.K ps))) : DG X (.Tuple es k pos) (.t ps) := dg_t hc h (h1 h) (h2 h)
theorem dts_nil : PTs X [] (tT X W (fun _ h => .ok true h)) := ⟨fun pins s σ H Q I q => pts_nil.run pins s σ H Q I (by
  obtain ⟨ω, h, ds, e1, r, s, p⟩ := q
  subst e1
  exact p _ ω (Ext.refl _) r rfl)⟩
theorem ds_setLc {i : Nat} {st : Stmt} {mi : SI} {p : Pt} {own : List Nat} {c : SB} (ho : ∀ i ∈ p.slots, i ∈ own) (h : PS X st (tAsg (tLc (tI X W mi) (tP X.K p) (tT X W0 c) (tE X W0 m) own) (gName i))) : DS X W st (sSet i (eLc mi p own c m)) := ds_of h fun E σ H ⟨ω, h, ds, e1, r, s, q⟩ => by
  subst e1
  refine lcW (W := W) (fin := fun xs h => .ok (.lst xs) h) ho lc_fz σ ω.H _ ⟨ω, h, ds, rfl, r, s, ?_⟩
  exact PostO.bd r s q fun d h1 v ω' e r1 rd s1 p1 => p1 _ ω' (Ext.refl _) r1 (s1.set i rd)
theorem ds_setLcC {i : Nat} {st : Stmt} {mi : SI} {p : Pt} {own : List Nat} {c : SB} (ho : ∀ i ∈ p.slots, i ∈ own) (h : PS X st (tAsg (tLc (tI X W mi) (tP X.K p) (tT X W0 c) (tE X W0 m) own) (gName i))) : DS X W st (sSet i (eLcC mi p own c m)) := ds_of h fun E σ H ⟨ω, h, ds, e1, r, s, q⟩ => by
  subst e1
  refine lcW (W := W) (fin := fun xs h => .ok (.ref h.length) (h ++ [.lst xs])) ho lc_cell σ ω.H _ ⟨ω, h, ds, rfl, r, s, ?_⟩
  exact PostO.bd r s q fun d h1 v ω' e r1 rd s1 p1 => p1 _ ω' (Ext.refl _) r1 (s1.set i rd)
/-- x, y = a, b -/
def sPar (i j : Nat) (as : SA) : SS := fun ds h => sBd (as ds h) ds fun xs h1 => match xs with
  | [x, y] => .nx ((ds.set i (some x)).set j (some y)) h1
  | _ => .bad
abbrev addI := i0F fun i j => .int (i + j)
abbrev mulI := iF (fun i j => decide (-(2 ^ 64) < i ∧ i < 2 ^ 64) || decide (-(2 ^ 64) < j ∧ j < 2 ^ 64)) fun i j => .int (i * j)
end
/-! ### the end -/
/-- the script: a list that is locked or written, or one of the caller's own -/
def scD (b : Bool) (xs : List D) : D := if b = true then .scr xs else .lst xs
def spTrue (K : PySem.W.Frag) : Sp := fun vs H Q _ => ∃ (a : Addr) (ns : List Int), vs = [.ref a] ∧ TabsK K H ∧ SqL K H a (ns.map V.int) ∧ ns.length ≤ 63 ∧ ∀ H', Q (.bl true) H'
theorem scr_rel {K : PySem.W.Frag} {H : Hp} {a : Addr} {ns : List Int} (h : SqL K H a (ns.map V.int)) : ∃ b, RelD K ⟨fun _ => False, fun _ => 0, 0, H⟩ (scD b (ns.map D.int)) (.ref a) := by
  rcases h with (h | ⟨o, h⟩) | h
  · refine ⟨false, ?_⟩
    show RelD K _ (.lst (ns.map D.int)) (.ref a)
    unfold RelD
    exact ⟨a, _, rfl, ⟨h, fun z => z⟩, RelL.of_ints ns⟩
  · refine ⟨true, ?_⟩
    show RelD K _ (.scr (ns.map D.int)) (.ref a)
    unfold RelD
    exact ⟨a, _, rfl, .inl ⟨o, h⟩, RelL.of_ints ns⟩
  · refine ⟨true, ?_⟩
    show RelD K _ (.scr (ns.map D.int)) (.ref a)
    unfold RelD
    exact ⟨a, _, rfl, .inr h, RelL.of_ints ns⟩
/-- the law's promise from its data function -/
theorem law_sp {K : PySem.W.Frag} {mg : Str → Option Value} {m : Fn} (hm : ∀ (b : Bool) (ns : List Int), ns.length ≤ 63 → ∃ h, m [scD b (ns.map D.int)] [] = .ok (.bl true) h) {vs : List V} {H : Hp} {Q : VK} {E : XK} (h : spTrue K vs H Q E) : spD K mg 1 m vs H Q E := by
  obtain ⟨a, ns, rfl, hO, hS, hl, q⟩ := h
  obtain ⟨b, hb⟩ := scr_rel hS
  obtain ⟨h', e⟩ := hm b ns hl
  refine ⟨rfl, ⟨fun _ => False, fun _ => 0, 0, H⟩, [], [scD b (ns.map D.int)], rfl, ⟨rfl, fun i j hi => absurd hi (Nat.not_lt_zero _), fun i hi => absurd hi (Nat.not_lt_zero _), fun q z => False.elim z, fun i c hi => by simp at hi, hO⟩, RelL.cons hb RelL.nil, ?_⟩
  rw [e]
  intro v ω' _ _ rv
  rw [rd_bl rv]
  exact q _
/-- the law's own code object and its table -/
structure LawTab (K : PySem.W.Frag) (mg : Str → Option Value) (base : Heap) (c P : Addr) : Prop where
  tb : LamX.TabB base mg c P
  ht : PySem.W.tabIn K "law" = some (c, P)
theorem walk_law {l : PySem.W.OpenLaw} {k : Nat} {q : Program} {loose : List Str} {XP : (Str → Option Value) → Heap → Prop} {YP : World → Heap → Prop} {d : DefRec} {K : Params → PySem.W.Frag} (hn : l.most = some 63) (hdf : d.params.defaults = []) (hr : Room k callerA)
    (hY : ∀ (w : World) (h : Heap), YP w h → (K w.params).In h)
    (rt : ∃ rd, (recsOf q).find? (fun e => e.name == ("law" : Str)) = some rd)
    (F : ∀ (w : World) (mg : Str → Option Value) (fa : Addr) (h : Heap), (K w.params).In h → h.Ns mainGlobals mg → mg d.name = some (.ref fa) →
      ∃ (fd : FuncData) (c P : Addr), PySem.W.tabIn (K w.params) "law" = some (c, P) ∧ (K w.params).lookup P = none ∧ (∀ (s : Shared) (u : Value), BindsTo s fd ⟨[u], []⟩ [("script", u)]) ∧
        ∀ base : Heap, (K w.params).In base → base.Ns mainGlobals mg → LawTab (K w.params) mg base c P → FnOk l.prog w (K w.params) mg base (L2.CX l.prog w) k fa fd ["script"] (spTrue (K w.params))) :
    PySem.W.WalkO q loose XP YP l.row.toRowW d [] (fun f vs => PySem.call f vs) := by
  refine Att.attach_callB hn hdf fun w s₀ s₁ mg mb fa o pm cd doc a vs ns G Y ho hd hcd hmg hobj hints hlen hbits hg => ?_
  have KX := hY w _ Y
  obtain ⟨fd, c, P, ht, nT, hb, hF⟩ := F w mg fa _ KX G.T.g hmg
  obtain ⟨rd, hrd⟩ := rt
  obtain ⟨hc, hP⟩ := PySem.W.tab_of G.T KX hrd ht
  refine LamX.law_callTs (cs := [(c, P)]) (sp := spTrue (K w.params)) KX G.T.g G.T.b G.T.builtins G.T.nolimit hg (fun p hp => ?_) (fun p hp => ?_) (fun p hp => ?_) G.T.bmain hobj hints (Nat.le_trans hlen (by decide)) hr
    (fun base hk hns tb => hF base hk hns ⟨tb (c, P) (by simp), ht⟩) hb (fun H hH hS => ⟨a, ns, rfl, ?_, hS, hlen, fun _ => rfl⟩) fun H e s' z => ?_
  · have e : p = (c, P) := by simpa using hp
    rw [e]; exact hP
  · have e : p = (c, P) := by simpa using hp
    rw [e]; exact nT
  · have e : p = (c, P) := by simpa using hp
    rw [e]; exact hc
  · have e : tabT (K w.params) = [(P, ("law.<locals>.<lambda>" : Str))] := by unfold tabT; rw [ht]
    unfold TabsK
    rw [e]
    intro p hp
    have e2 : p = (P, ("law.<locals>.<lambda>" : Str)) := by simpa using hp
    rw [e2]
    exact LamX.TabS.nil (hH (c, P) (by simp))
  · obtain ⟨_, _, _, _, _, _, _, _, _, _, _, _, e⟩ := z
    exact e
end Mp
/-! LayH: min, max, lcm; what is walked with its number. -/
namespace Mp
open PySem PySem.Spec PyProof.Rows L2
/-! ### enumerate of a tuple -/
/-- the tuple at a, each item in a new pair -/
def ItE (K : PySem.W.Frag) (a : Addr) : It where
  go i H := ∃ (xs : List V) (x : V), SqT K H a xs ∧ xs[i]? = some x
  yld i H v H' := ∃ T x, v = .ref T ∧ H T = none ∧ H' = upd H T (.tup [.int (i : Nat), x]) ∧ ∀ xs, SqT K H a xs → xs[i]? = some x
  stop i H := ∃ xs : List V, SqT K H a xs ∧ xs.length ≤ i
/-- enumerate of a list or of a tuple -/
def iEnB (K : PySem.W.Frag) (ta : TA) : TI := fun σ H R => ta σ H fun vs H1 => ∃ a xs, vs = [.ref a] ∧ ((SqL K H1 a xs ∧ R (Ite K a) H1) ∨ (SqT K H1 a xs ∧ R (ItE K a) H1))
/-- each item with its number -/
def enumD : Nat → List D → List D
  | _, [] => []
  | n, x :: r => .tup [.int n, x] :: enumD (n + 1) r
theorem enumD_get : ∀ (n : Nat) (xs : List D) (i : Nat), (enumD n xs)[i]? = (xs[i]?).map fun x => .tup [.int ((n + i : Nat) : Int), x]
  | n, [], i => by simp [enumD]
  | n, x :: r, 0 => by simp [enumD]
  | n, x :: r, i + 1 => by
    unfold enumD
    rw [List.getElem?_cons_succ, List.getElem?_cons_succ, enumD_get (n + 1) r i]
    have : n + 1 + i = n + (i + 1) := by omega
    rw [this]
def enF (xs : List D) (h : Hc) : R ItD := match xs with
  | [d] => match seqD h d with
    | some ys => .ok ⟨enumD 0 ys, chkQ d ys⟩ h
    | none => .bad
  | _ => .bad
def iEnu (as : SA) : SI := fun ds h => (as ds h).bd enF
theorem pairUp {K : PySem.W.Frag} {ω : Wo} {h : Hc} {T : Addr} {x y : D} {v w : V} (r : Rel K ω h) (hT : ω.H T = none) (rx : RelD K ω x v) (ry : RelD K ω y w) :
    ∃ ω2, ω2.H = upd ω.H T (.tup [v, w]) ∧ Ext ω ω2 ∧ Rel K ω2 h ∧ RelD K ω2 (.tup [x, y]) (.ref T) := by
  refine ⟨ω.up T (.tup [v, w]), rfl, Ext.up hT, r.up hT, ?_⟩
  unfold RelD
  exact ⟨T, _, rfl, .inl (.inl upd_same), monoL r (Ext.up hT) _ _ (.cons rx (.cons ry .nil))⟩
section
variable {K : PySem.W.Frag} {ω : Wo} {h : Hc} {d : D}
end
section
variable {X : Cx} {W : WX} {e : Expr} {as : SA}
end
/-! ### the least and the most -/
theorem cr_or {X : Cx} {f : Value} {r1 r2 : List V → Hp → VK → Prop} (h1 : CallR X f r1) (h2 : CallR X f r2) : CallR X f (fun xs H Q => r1 xs H Q ∨ r2 xs H Q) := by
  intro pins s σ H xs us Q I r q
  rcases q with q | q
  · exact h1 pins s σ H xs us Q I r q
  · exact h2 pins s σ H xs us Q I r q
def leastI : Int → List Int → Int
  | m, [] => m
  | m, n :: r => leastI (if n < m then n else m) r
def mostI : Int → List Int → Int
  | m, [] => m
  | m, n :: r => mostI (if m < n then n else m) r
/-! ### sums and bests of tuples -/
section
variable {prog : Program} {w : World} {A : Around} {E : Value → Shared → Prop} {z : Shared} {a : Addr} {xs : Array (Int × Tok)} {Q : Value → Shared → Prop}
theorem iter_tupI (ht : z.heap.IsTuple a (intItems xs))
    (q : ∀ z2 : Shared, z2 = { z with heap := z.heap.push { cls := .type "tuple_iterator", data := .fields #[.ref a, .int 0 0] } } →
      (z2.heap.IsTupleIter z.heap.objs.size a 0 ∧ z2.heap.IsTuple a (intItems xs)) → (∀ b ∈ [z.heap.objs.size, a], b < z2.heap.objs.size) → a ≠ z.heap.objs.size →
      (∀ h' : Heap, (∀ b o, b ∉ [z.heap.objs.size] → z2.heap.get? b = some o → h'.get? b = some o) → ∀ b o, z.heap.get? b = some o → h'.get? b = some o) → Q (.ref z.heap.objs.size) z2) : wpAny (model prog w) A (pyIter (.ref a)) Q E z := by
  have lta : a < z.heap.objs.size := by
    obtain ⟨_, e, _⟩ := ht
    exact Heap.lt_size e
  have sz : ∀ ob, (z.heap.push ob).objs.size = z.heap.objs.size + 1 := fun ob => Heap.size_push ..
  refine wpAny_pyIter_tuple ht (q _ rfl ⟨⟨_, Heap.get?_push_size _ rfl, rfl, rfl⟩, ht.at fun o e => Heap.get?_push_of_some _ e⟩ (fun b hb => ?_) (Nat.ne_of_lt lta) fun h' hk b o e => ?_)
  · show b < (z.heap.push _).objs.size
    rw [sz]
    simp only [List.mem_cons, List.not_mem_nil, or_false] at hb
    rcases hb with rfl | rfl
    · exact Nat.lt_succ_self _
    · exact Nat.lt_succ_of_lt lta
  · refine hk b o (fun hm => ?_) (Heap.get?_push_of_some _ e)
    have : b = z.heap.objs.size := by simpa using hm
    rw [this] at e
    exact Nat.lt_irrefl _ (Heap.lt_size e)
theorem sum_tupI (hh : A.handled = none) (ht : z.heap.IsTuple a (intItems xs)) (q : ∀ h' tk t', (∀ b o, z.heap.get? b = some o → h'.get? b = some o) → Q (.int (preSum (numAt xs) xs.size) t') { z with heap := h', toks := tk }) :
    wpAny (model prog w) A (call (.builtin "sum") [.ref a]) Q E z := by
  refine call_sum_walkG (iter_tupI ht fun z2 e st hfp hne old => ?_)
  subst e
  refine ⟨_, _, _, _, _, _, numAt xs, rfl, Walks.tuple (A := A.in1) hh _ a hne (intItems xs), st, hfp, (fun _ _ => intItems_at), fun h' tk t' hk => ?_⟩
  simpa [intItems] using q h' tk t' (old h' hk)
end
section
variable {X : Cx}
def rSumU (K : PySem.W.Frag) : List V → Hp → VK → Prop := fun vs H Q => ∃ (a : Addr) (ns : List Int), vs = [V.ref a] ∧ SqT K H a (ns.map V.int) ∧ Q (.int ns.sum) H
def rMaxU (K : PySem.W.Frag) : List V → Hp → VK → Prop := fun vs H Q => ∃ (a : Addr) (ns : List Int), vs = [V.ref a] ∧ SqT K H a (ns.map V.int) ∧ 0 < ns.length ∧ ∀ m ∈ ns, (∀ y ∈ ns, y ≤ m) → Q (.int m) H
def rMinU (K : PySem.W.Frag) : List V → Hp → VK → Prop := fun vs H Q => ∃ (a : Addr) (ns : List Int), vs = [V.ref a] ∧ SqT K H a (ns.map V.int) ∧ 0 < ns.length ∧ ∀ m ∈ ns, (∀ y ∈ ns, m ≤ y) → Q (.int m) H
theorem cr_sumU (hc : X.calm = true) : CallR X (.builtin "sum") (rSumU X.K) := by
  intro pins s σ H vs us Q I r ⟨a, ns, e, hs, q⟩
  subst e
  obtain ⟨its, rv, hl, _⟩ := I.tuple hs
  rw [Vals.ref1 r]
  obtain ⟨xs, e⟩ := rv.ints.allInts.items
  have hn : numsOf (intItems xs).toList = ns := by rw [← e]; exact rv.ints.numsOf
  rw [nums_intItems] at hn
  have hl2 : s.heap.IsTuple a (intItems xs) := e ▸ hl
  refine sum_tupI (I.ok.hd hc) hl2 fun h' tk t' hk => ⟨.int _, H, I.kept hk, ⟨_, rfl⟩, ?_⟩
  rw [preSum_eq, List.take_of_length_le (by simp), hn]; exact q
end
/-- where the numbers of a sequence lie -/
theorem seq_ints {K : PySem.W.Frag} {ω : Wo} {h : Hc} {d : D} {v : V} {ys : List D} {ns : List Int} (r : Rel K ω h) (q : seqD h d = some ys) (q2 : intsD ys = some ns) (e : RelD K ω d v) :
    ∃ a, v = .ref a ∧ (SqL K ω.H a (ns.map V.int) ∨ SqT K ω.H a (ns.map V.int)) := by
  obtain ⟨a, us, e1, e2, e3⟩ := seqD_rel r q e
  rw [intsD_eq q2] at e3
  rw [e3.ints] at e2
  exact ⟨a, e1, e2.elim .inr .inl⟩
def sumA (xs : List D) (h : Hc) : R D := match xs with
  | [d] => match seqD h d with
    | some ys => match intsD ys with
      | some ns => .ok (.int ns.sum) h
      | none => .bad
    | none => .bad
  | _ => .bad
theorem call_sumB {X : Cx} (hc : X.calm = true) : CallR X (.builtin "sum") (fun xs H Q => rSum X.K xs H Q ∨ rSumU X.K xs H Q) := cr_or (cr_sum hc) (cr_sumU hc)
theorem cd_sumA {X : Cx} : CallD X (fun xs H Q => rSum X.K xs H Q ∨ rSumU X.K xs H Q) sumA := fun W σ ω h xs vs Q r rx p => by
  unfold sumA at p
  split at p
  · obtain ⟨v, ws, rfl, e2, e3⟩ := rx.inv
    rw [e3.inv0]
    split at p
    · rename_i ys q
      split at p
      · rename_i ns q2
        obtain ⟨a, rfl, e5 | e5⟩ := seq_ints r q q2 e2
        · exact .inl ⟨a, ns, rfl, e5, p.here r int_rd⟩
        · exact .inr ⟨a, ns, rfl, e5, p.here r int_rd⟩
      · exact False.elim p
    · exact False.elim p
  · exact False.elim p
def bestF (f : Int → List Int → Int) (xs : List D) (h : Hc) : R D := match xs with
  | [.int i, .int j] => .ok (.int (f i [j])) h
  | [d] => match seqD h d with
    | some ys => match intsD ys with
      | some (n :: ns) => .ok (.int (f n ns)) h
      | _ => .bad
    | none => .bad
  | _ => .bad
abbrev minF := bestF leastI
abbrev maxF := bestF mostI
section
variable {X : Cx}
def rMinB (K : PySem.W.Frag) : List V → Hp → VK → Prop := fun xs H Q => (∃ i j, xs = [.int i, .int j] ∧ Q (.int (if j < i then j else i)) H) ∨ rMin K xs H Q ∨ rMinU K xs H Q
def rMaxB (K : PySem.W.Frag) : List V → Hp → VK → Prop := fun xs H Q => (∃ i j, xs = [.int i, .int j] ∧ Q (.int (if j > i then j else i)) H) ∨ rMax K xs H Q ∨ rMaxU K xs H Q
end
/-! ### the least common multiple -/
section
variable {X : Cx}
def rLcm : List V → Hp → VK → Prop := fun vs H Q => ∃ a b : Int, vs = [.int a, .int b] ∧ a.natAbs.log2 < 8000 ∧ b.natAbs.log2 < 8000 ∧ Q (.int ((Nat.lcm a.natAbs b.natAbs : Nat) : Int)) H
theorem lt_of_log {n k : Nat} (h : n.log2 < k) : n < 2 ^ k := by
  by_cases h0 : n = 0
  · subst h0; exact Nat.two_pow_pos k
  · exact (Nat.log2_lt h0).mp h
theorem cr_lcm : CallR X (.builtin "math.lcm") rLcm := by
  intro pins s σ H vs us Q I r ⟨a, b, e, ha, hb, q⟩
  subst e
  obtain ⟨t, u, rfl⟩ := Vals.int2 r
  have e1 : (Nat.lcm 1 a.natAbs).lcm b.natAbs = Nat.lcm a.natAbs b.natAbs := by rw [Nat.lcm_one_left]
  have la := lt_of_log ha
  have lb := lt_of_log hb
  have h1 : Nat.lcm a.natAbs b.natAbs ≤ a.natAbs * b.natAbs := by
    unfold Nat.lcm
    exact Nat.div_le_self _ _
  have h2 : a.natAbs * b.natAbs < 2 ^ 8000 * 2 ^ 8000 := Nat.mul_lt_mul'' la lb
  have hsz : (Nat.lcm a.natAbs b.natAbs).log2 < bitsLine := by
    by_cases h0 : Nat.lcm a.natAbs b.natAbs = 0
    · rw [h0]; decide +kernel
    · have : (Nat.lcm a.natAbs b.natAbs).log2 < 16000 := (Nat.log2_lt h0).mpr (by
        rw [show (16000 : Nat) = 8000 + 8000 from rfl, Nat.pow_add]
        exact Nat.lt_of_le_of_lt h1 h2)
      refine Nat.lt_of_lt_of_le this ?_
      decide +kernel
  have m1 : (max 1 a.natAbs).log2 ≤ 7999 := PySem.W.mg_log (by
    show max 1 a.natAbs < 2 ^ 8000
    exact Nat.max_lt.mpr ⟨Nat.one_lt_two_pow (by decide), la⟩)
  have m2 : (max a.natAbs b.natAbs).log2 ≤ 7999 := PySem.W.mg_log (by
    show max a.natAbs b.natAbs < 2 ^ 8000
    exact Nat.max_lt.mpr ⟨la, lb⟩)
  refine call_function_meets PySem.W.MGF.kind_lcm PySem.W.MGF.plain_lcm PySem.W.MGF.entry_lcm (PySem.W.MGF.args_lcm _ _) (PySem.W.mg_run_lcm a t b u (by omega) (by omega) (by rw [e1, Int.natAbs_natCast]; exact hsz)).meets ?_
  rw [e1]
  exact ⟨.int _, H, I.tok _, ⟨_, rfl⟩, q⟩
def lcmF (xs : List D) (h : Hc) : R D := match xs with
  | [.int i, .int j] => if i.natAbs.log2 < 8000 ∧ j.natAbs.log2 < 8000 then .ok (.int ((Nat.lcm i.natAbs j.natAbs : Nat) : Int)) h else .bad
  | _ => .bad
theorem cd_lcm : CallD X rLcm lcmF := fun W σ ω h xs vs Q r rx p => by
  unfold lcmF at p
  split at p
  · obtain ⟨v, ws, rfl, e2, e3⟩ := rx.inv
    obtain ⟨v', ws', rfl, e4, e5⟩ := e3.inv
    obtain ⟨c, p⟩ := p.if_
    rw [e5.inv0, rd_int e2, rd_int e4]
    exact ⟨_, _, rfl, c.1, c.2, p.here r int_rd⟩
  · exact False.elim p
end
/-! ### copies of a list that is then changed -/
def mulC (x y : D) (h : Hc) : R D := match y with
  | .int k => match lstD h x with
    | some xs => if k ≤ lim ∧ -lim ≤ k ∧ xs.length * k.toNat ≤ lim then .ok (.ref h.length) (h ++ [.lst (repD k.toNat xs)]) else .bad
    | none => .bad
  | _ => .bad
end Mp
/-! LayI: two sequences walked side by side, each a list or a tuple. -/
namespace Mp
open PySem PySem.Spec PyProof.Rows L2
/-- a sequence of a kind (true: a tuple) -/
def SqX (t : Bool) (K : PySem.W.Frag) (H : Hp) (a : Addr) (xs : List V) : Prop := if t = true then SqT K H a xs else SqL K H a xs
/-- an iterator of a kind -/
def ItX (t : Bool) (g : Heap) (it a : Addr) (i : Nat) : Prop := if t = true then g.IsTupleIter it a i else g.IsListIter it a i
def CoX (t : Bool) (g : Heap) (a : Addr) (its : Array Value) : Prop := if t = true then g.IsTuple a its else g.IsList a its
theorem ItX.at {t : Bool} {g g' : Heap} {it a : Addr} {i : Nat} (h : ItX t g it a i) (k : ∀ o, g.get? it = some o → g'.get? it = some o) : ItX t g' it a i := by
  cases t
  · exact Heap.IsListIter.at (show g.IsListIter it a i from h) k
  · exact Heap.IsTupleIter.at (show g.IsTupleIter it a i from h) k
theorem CoX.at {t : Bool} {g g' : Heap} {a : Addr} {its : Array Value} (h : CoX t g a its) (k : ∀ o, g.get? a = some o → g'.get? a = some o) : CoX t g' a its := by
  cases t
  · exact Heap.IsList.at (show g.IsList a its from h) k
  · exact Heap.IsTuple.at (show g.IsTuple a its from h) k
theorem ItX.there {t : Bool} {g : Heap} {it a : Addr} {i : Nat} (h : ItX t g it a i) : ∃ o, g.get? it = some o ∧ ∀ v, o.data ≠ .seq v 0 ∨ True := by
  cases t
  · obtain ⟨o, e, _⟩ := (show g.IsListIter it a i from h)
    exact ⟨o, e, fun _ => .inr trivial⟩
  · obtain ⟨o, e, _⟩ := (show g.IsTupleIter it a i from h)
    exact ⟨o, e, fun _ => .inr trivial⟩
section
variable {prog : Program} {w : World} {A : Around}
theorem drawsX (t : Bool) (hh : A.handled = none) (it a : Addr) (hne : a ≠ it) (its : Array Value) : Draws prog w A it [it, a] its.size (fun i v => its[i]? = some v) (fun i g => ItX t g it a i ∧ CoX t g a its) := by
  cases t
  · exact Draws.list hh it a hne its
  · exact Draws.tuple hh it a hne its
/-- one that has ended -/
theorem drawsE (t : Bool) (hh : A.handled = none) (it a : Addr) (its : Array Value) (i : Nat) (hi : its.size ≤ i) : Draws prog w A it [it, a] i (fun _ _ => True) (fun j g => j = i ∧ ItX t g it a i ∧ CoX t g a its) where
  live := fun j g st => by
    obtain ⟨o, e, _⟩ := st.2.1.there
    exact ⟨o, e⟩
  frame := fun j g g' st k => ⟨st.1, st.2.1.at fun o q => k it (by simp) o q, st.2.2.at fun o q => k a (by simp) o q⟩
  item := fun j s Q E hj st _ => absurd st.1 (Nat.ne_of_lt hj)
  done := fun s Q E st hE => by
    obtain ⟨_, h1, h2⟩ := st
    cases t
    · exact wpAny_nextOf_list_end hh h1 h2 (by simp; omega) hE
    · exact wpAny_nextOf_tuple_end hh h1 h2 (by simp; omega) hE
end
section
variable {X : Cx} {pins : List (Addr × Obj)} {σ : L2.St} {H : Hp} {s : Shared}
theorem inv_seqX {t : Bool} {a : Addr} {xs : List V} (I : L2.Inv X pins σ H s) (q : SqX t X.K H a xs) : ∃ its : List Value, Vals xs its ∧ CoX t s.heap a its.toArray := by
  cases t
  · obtain ⟨its, rv, p, _⟩ := I.list (show SqL X.K H a xs from q)
    exact ⟨its, rv, p.isList⟩
  · obtain ⟨its, rv, p, _⟩ := I.tuple (show SqT X.K H a xs from q)
    exact ⟨its, rv, p⟩
theorem inv_seqX_inj {t : Bool} {a : Addr} {xs ys : List V} (I : L2.Inv X pins σ H s) (q : SqX t X.K H a xs) (q2 : SqX t X.K H a ys) : xs = ys := by
  cases t
  · exact I.list_inj (show SqL X.K H a xs from q) (show SqL X.K H a ys from q2)
  · exact I.tuple_inj (show SqT X.K H a xs from q) (show SqT X.K H a ys from q2)
end
/-- two sequences, their items in new pairs -/
def ItP (t1 t2 : Bool) (K : PySem.W.Frag) (a b : Addr) : It where
  go i H := ∃ (xs ys : List V) (x y : V), SqX t1 K H a xs ∧ SqX t2 K H b ys ∧ xs[i]? = some x ∧ ys[i]? = some y
  yld i H v H' := ∃ T x y, v = .ref T ∧ H T = none ∧ H' = upd H T (.tup [x, y]) ∧ (∀ xs, SqX t1 K H a xs → xs[i]? = some x) ∧ ∀ ys, SqX t2 K H b ys → ys[i]? = some y
  stop i H := ∃ xs ys : List V, SqX t1 K H a xs ∧ SqX t2 K H b ys ∧ (xs.length ≤ i ∨ ys.length ≤ i)
theorem turn_pair {P : Program} {w : World} {K : PySem.W.Frag} {elts : List Expr} {kk : Nat} {tpos : Pos} {t1 t2 : Bool} {a b z TI TO i1 i2 : Addr} (S : ZipSep2 z TI TO i1 i2 [i1, a] [i2, b]) (n1 : a ≠ i1) (n2 : b ≠ i2) :
    Turn P w K (.Tuple elts kk tpos) (ItP t1 t2 K a b) [z, TI, TO, i1, i2] z (fun i g => IsZip g z TI TO .none ∧ IsTupOf2 g TI (.ref i1) (.ref i2) ∧ (∃ x y, IsTupOf2 g TO x y) ∧ ItX t1 g i1 a i ∧ ItX t2 g i2 b i) where
  mem := by simp
  obj := fun i g st c hc => by
    obtain ⟨hz, hTI, ⟨x, y, hTO⟩, h1, h2⟩ := st
    have it : ∀ {t : Bool} {it a : Addr}, ItX t g it a i → ∃ o, g.get? it = some o ∧ ∀ v, ¬ (o.data = .cell v) := fun {t it a} h => by
      cases t
      · obtain ⟨o, e, _, d⟩ := (show g.IsListIter it a i from h)
        exact ⟨o, e, fun v q => by rw [d] at q; cases q⟩
      · obtain ⟨o, e, _, d⟩ := (show g.IsTupleIter it a i from h)
        exact ⟨o, e, fun v q => by rw [d] at q; cases q⟩
    simp only [List.mem_cons, List.not_mem_nil, or_false] at hc
    rcases hc with q | q | q | q | q
    · rw [q]; exact ⟨_, hz, fun v q => nomatch q⟩
    · rw [q]; exact ⟨_, hTI, fun v q => nomatch q⟩
    · rw [q]; exact ⟨_, hTO, fun v q => nomatch q⟩
    · rw [q]; exact it h1
    · rw [q]; exact it h2
  keep := fun i g g' st k => by
    obtain ⟨hz, hTI, ⟨x, y, hTO⟩, h1, h2⟩ := st
    exact ⟨k z (by simp) _ hz, k TI (by simp) _ hTI, ⟨x, y, k TO (by simp) _ hTO⟩, h1.at fun o q => k i1 (by simp) o q, h2.at fun o q => k i2 (by simp) o q⟩
  item := by
    intro X hP hw hK hc i pins s σ H E I hf st hg
    subst hP hw hK
    obtain ⟨hz, hTI, ⟨x0, y0, hTO⟩, h1, h2⟩ := st
    obtain ⟨xs, ys, x, y, hqx, hqy, hx, hy⟩ := hg
    obtain ⟨its, rv, p⟩ := inv_seqX I hqx
    obtain ⟨its2, rv2, p2⟩ := inv_seqX I hqy
    obtain ⟨u, hu, ru⟩ := rv.get hx
    obtain ⟨u2, hu2, ru2⟩ := rv2.get hy
    have ltz : z < s.heap.objs.size := Heap.lt_size hz
    have l1 : i < its.toArray.size := by
      have := (List.getElem?_eq_some_iff.mp hu).1
      simpa using this
    have l2 : i < its2.toArray.size := by
      have := (List.getElem?_eq_some_iff.mp hu2).1
      simpa using this
    refine wpAny_pyNext_zipD2_item S (drawsX t1 (show X.A.in1.handled = none from I.ok.hd hc) i1 a n1 its.toArray) (drawsX t2 (show X.A.in1.handled = none from I.ok.hd hc) i2 b n2 its2.toArray) hz hTI hTO ⟨h1, p⟩ ⟨h2, p2⟩ l1 l2 fun v1 v2 g1 tk e1 e2 z1 TO1 s1 s2 hT hsz hk => ?_
    have ev1 : v1 = u := by
      have : its.toArray[i]? = some u := by simpa using hu
      rw [this] at e1; exact (Option.some.inj e1).symm
    have ev2 : v2 = u2 := by
      have : its2.toArray[i]? = some u2 := by simpa using hu2
      rw [this] at e2; exact (Option.some.inj e2).symm
    subst ev1 ev2
    refine ⟨_, rfl, wpAny_letOwnedTupleGo_zip (s := { s with heap := g1, toks := tk }) z1 fun g2 z2 sb => ?_⟩
    have hT2 := (sb.2 s.heap.objs.size (Nat.ne_of_gt ltz)).trans hT
    have new : ObjOk X.prog X.w (upd H s.heap.objs.size (.tup [x, y])) g2 s.heap.objs.size (.tup [x, y]) := by
      refine ⟨by show 2 ≤ sizeLine; decide, [v1, v2], .cons ru (.cons ru2 .nil), ?_⟩
      exact ⟨_, hT2, rfl, _, rfl⟩
    have I1 : L2.Inv X pins σ (upd H s.heap.objs.size (.tup [x, y])) { s with heap := g2, toks := tk } :=
      I.turnedNew (ch := [z, TI, TO, i1, i2]) (fun c o hb q => by
        simp only [List.mem_cons, List.not_mem_nil, or_false, not_or] at hb
        exact (sb.2 c hb.1).trans (hk c o hb.1 hb.2.2.1 hb.2.2.2.1 hb.2.2.2.2 q)) hf (Nat.le_refl _) new
    refine ⟨.ref s.heap.objs.size, _, I1, rfl, ⟨_, x, y, rfl, I.hok.fresh (Nat.le_refl _), rfl, fun l hl => by rw [inv_seqX_inj I hl hqx]; exact hx, fun l hl => by rw [inv_seqX_inj I hl hqy]; exact hy⟩, ⟨z2, ?_, ⟨v1, v2, ?_⟩, ?_, ?_⟩, fun c hcm => ?_⟩
    · exact (sb.2 _ S.TIz).trans (hk _ _ S.TIz S.TITO S.TIi1 S.TIi2 hTI)
    · exact (sb.2 _ S.TOz).trans TO1
    · exact s1.1.at fun o q => (sb.2 _ (Ne.symm S.zi1)).trans q
    · exact s2.1.at fun o q => (sb.2 _ (Ne.symm S.zi2)).trans q
    · obtain ⟨o, ho, _⟩ : ∃ o, s.heap.get? c = some o ∧ True := by
        simp only [List.mem_cons, List.not_mem_nil, or_false] at hcm
        rcases hcm with q | q | q | q | q
        · rw [q]; exact ⟨_, hz, trivial⟩
        · rw [q]; exact ⟨_, hTI, trivial⟩
        · rw [q]; exact ⟨_, hTO, trivial⟩
        · rw [q]; obtain ⟨o, e, _⟩ := h1.there; exact ⟨o, e, trivial⟩
        · rw [q]; obtain ⟨o, e, _⟩ := h2.there; exact ⟨o, e, trivial⟩
      rw [upd_ne (Nat.ne_of_lt (Heap.lt_size ho))]
      exact (hf c hcm).1
  done := by
    intro X hP hw hK hc i pins s σ H E I hf st hg
    subst hP hw hK
    obtain ⟨hz, hTI, ⟨x0, y0, hTO⟩, h1, h2⟩ := st
    obtain ⟨xs, ys, hqx, hqy, hend⟩ := hg
    obtain ⟨its, rv, p⟩ := inv_seqX I hqx
    obtain ⟨its2, rv2, p2⟩ := inv_seqX I hqy
    have hh : X.A.in1.handled = none := I.ok.hd hc
    have e1 := rv.length
    have e2 := rv2.length
    have fin : ∀ g1 tk, (∀ c o, c ≠ z → c ≠ TO → c ≠ i1 → c ≠ i2 → s.heap.get? c = some o → g1.get? c = some o) → (none : Option Value) = none ∧ L2.Inv X pins σ H { s with heap := g1, toks := tk } := fun g1 tk hk =>
      ⟨rfl, I.turnedL (ch := [z, TI, TO, i1, i2]) (fun c o hb q => by
        simp only [List.mem_cons, List.not_mem_nil, or_false, not_or] at hb
        exact hk c o hb.1 hb.2.2.1 hb.2.2.2.1 hb.2.2.2.2 q) hf⟩
    by_cases c1 : its.toArray.size ≤ i
    · by_cases c2 : its2.toArray.size ≤ i
      · exact wpAny_pyNext_zipD2_end S (drawsE t1 hh i1 a its.toArray i c1) (drawsE t2 hh i2 b its2.toArray i c2) hz hTI hTO ⟨rfl, h1, p⟩ ⟨rfl, h2, p2⟩ (Nat.le_refl _) (Nat.le_refl _) (.inl rfl) fin
      · exact wpAny_pyNext_zipD2_end S (drawsE t1 hh i1 a its.toArray i c1) (drawsX t2 hh i2 b n2 its2.toArray) hz hTI hTO ⟨rfl, h1, p⟩ ⟨h2, p2⟩ (Nat.le_refl _) (by omega) (.inl rfl) fin
    · have c2 : its2.toArray.size ≤ i := by
        have q1 : its.toArray.size = its.length := by simp
        have q2 : its2.toArray.size = its2.length := by simp
        rcases hend with q | q
        · omega
        · omega
      exact wpAny_pyNext_zipD2_end S (drawsX t1 hh i1 a n1 its.toArray) (drawsE t2 hh i2 b its2.toArray i c2) hz hTI hTO ⟨h1, p⟩ ⟨rfl, h2, p2⟩ (by omega) (Nat.le_refl _) (.inr rfl) fin
  self := fun A i s Q E st q => wpAny_pyIter_zip st.1 q
/-- where a walk of a sequence begins -/
def obX (t : Bool) (a : Addr) : Obj := if t = true then { cls := .type "tuple_iterator", data := .fields #[.ref a, .int 0 0] } else { cls := .type "list_iterator", data := .fields #[.ref a, .int 0 0] }
theorem beginsX (t : Bool) (a : Addr) (its : Array Value) : Begins (.ref a) (obX t a) fun g => CoX t g a its := by
  cases t
  · exact begins_list a its
  · exact begins_tuple a its
theorem obX_it {t : Bool} {g : Heap} {it a : Addr} (h : g.get? it = some (obX t a)) : ItX t g it a 0 := by
  cases t
  · exact ⟨_, h, rfl, rfl⟩
  · exact ⟨_, h, rfl, rfl⟩
theorem CoX.lt {t : Bool} {g : Heap} {a : Addr} {its : Array Value} (h : CoX t g a its) : a < g.objs.size := by
  cases t
  · obtain ⟨o, e, _⟩ := (show g.IsList a its from h)
    exact Heap.lt_size e
  · obtain ⟨o, e, _⟩ := (show g.IsTuple a its from h)
    exact Heap.lt_size e
theorem notin2 {x p q : Addr} (h1 : x ≠ p) (h2 : x ≠ q) : x ∉ [p, q] := by simp [h1, h2]
/-- zip of two sequences -/
def iZpB (K : PySem.W.Frag) (ta : TA) : TI := fun σ H R => ta σ H fun vs H1 => ∃ t1 t2 a b xs ys, vs = [.ref a, .ref b] ∧ SqX t1 K H1 a xs ∧ SqX t2 K H1 b ys ∧ R (ItP t1 t2 K a b) H1
theorem pi_zpB {X : Cx} {e e2 : Expr} {ta : TA} {p pos tpos : Pos} {elts : List Expr} {kk : Nat} (hg : Gl X "zip") (hm : X.mg "zip" = none) (ha : PA X [e, e2] ta)
    (st : starEach [e, e2] X.env = (false, eval e X.env) :: starEach [e2] X.env := by rfl) (pl : (backTo pos (starEach [e2] X.env)).any (·.1) = false := by rfl) :
    PI X (.Tuple elts kk tpos) (.Call (.Name "zip" p) [e, e2] [] pos) (iZpB X.K ta) := by
  refine ⟨fun pins s σ H R I q => ?_⟩
  refine Call_ (ld_blt I hg hm PyProof.Rows.boot_zip (PyProof.Rows.callWith_type1 (thn (ha.run pos pins s σ H _ I q) fun us s1 ⟨vs, H1, I1, r1, q1⟩ => ?_) st pl))
  obtain ⟨t1, t2, a, b, xs, ys, rfl, hqx, hqy, q⟩ := q1
  obtain ⟨u, u2, rfl, ra, rb⟩ := vals2 r1
  cases ra
  cases rb
  obtain ⟨its, rv, p1⟩ := inv_seqX I1 hqx
  obtain ⟨its2, rv2, p2⟩ := inv_seqX I1 hqy
  have la := p1.lt
  have lb := p2.lt
  have fresh : ∀ c ∈ [s1.heap.objs.size + 4, s1.heap.objs.size + 2, s1.heap.objs.size + 3, s1.heap.objs.size, s1.heap.objs.size + 1], FpOk X pins H1 c := fun c hcm => by
    have hle : s1.heap.objs.size ≤ c := by
      simp only [List.mem_cons, List.not_mem_nil, or_false] at hcm
      rcases hcm with z | z | z | z | z <;> (rw [z]; first | exact Nat.le_refl _ | exact Nat.le_add_right _ _)
    exact I1.fpOk hle (I1.hok.fresh hle)
  have num : ∀ n a b : Nat, a < n → b < n → (n + 2 ≠ n + 4 ∧ n + 3 ≠ n + 4 ∧ n + 2 ≠ n + 3 ∧ n + 2 ≠ n ∧ n + 2 ≠ n + 1) ∧ (n + 4 ≠ n ∧ n + 4 ≠ a ∧ n + 3 ≠ n ∧ n + 3 ≠ a) ∧ (n + 4 ≠ n + 1 ∧ n + 4 ≠ b ∧ n + 3 ≠ n + 1 ∧ n + 3 ≠ b) ∧ n ≠ n + 1 ∧ n ≠ b ∧ n + 1 ≠ n ∧ n + 1 ≠ a := fun n a b h1 h2 => by omega
  have gen : ∀ n a b : Nat, a < n → b < n → ZipSep2 (n + 4) (n + 2) (n + 3) n (n + 1) [n, a] [n + 1, b] := fun n a b la lb => by
    obtain ⟨⟨a1, a2, a3, a4, a5⟩, ⟨b1, b2, b3, b4⟩, ⟨c1, c2, c3, c4⟩, d1, d2, d3, d4⟩ := num n a b la lb
    exact ⟨a1, a2, a3, a4, by simp, notin2 b1 b2, notin2 b3 b4, a5, by simp, notin2 c1 c2, notin2 c3 c4, notin2 d1 d2, notin2 d3 d4⟩
  have nea : ∀ n a : Nat, a < n → a ≠ n ∧ a ≠ n + 1 := fun n a h => by omega
  refine zip_begins2 (beginsX t1 a its.toArray) (beginsX t2 b its2.toArray) p1 p2 fun g hz hTI hTO h1 h2 hsz hk => wpAny_pyIter_zip hz ?_
  exact ⟨s1.heap.objs.size + 4, [s1.heap.objs.size + 4, s1.heap.objs.size + 2, s1.heap.objs.size + 3, s1.heap.objs.size, s1.heap.objs.size + 1], _, _, H1, rfl, I1.kept (t' := s1.toks) hk, turn_pair (gen _ _ _ la lb) (nea _ _ la).1 (nea _ _ lb).2, ⟨hz, hTI, ⟨_, _, hTO⟩, obX_it h1, obX_it h2⟩, fresh, q⟩
/-- the pairs -/
def zipD : List D → List D → List D
  | x :: xs, y :: ys => .tup [x, y] :: zipD xs ys
  | _, _ => []
theorem zipD_get : ∀ (xs ys : List D) (i : Nat), (zipD xs ys)[i]? = (xs[i]?).bind fun x => (ys[i]?).map fun y => .tup [x, y]
  | [], ys, i => by unfold zipD; simp
  | x :: xs, [], i => by
    unfold zipD
    cases (x :: xs)[i]? <;> simp
  | x :: xs, y :: ys, 0 => by unfold zipD; simp
  | x :: xs, y :: ys, i + 1 => by
    unfold zipD
    rw [List.getElem?_cons_succ, List.getElem?_cons_succ, List.getElem?_cons_succ, zipD_get xs ys i]
def chkZ (d : D) (xs : List D) (e : D) (ys : List D) : Hc → Bool := fun h => chkQ d xs h && chkQ e ys h
def zpF (xs : List D) (h : Hc) : R ItD := match xs with
  | [d, e] => match seqD h d, seqD h e with
    | some us, some ws => .ok ⟨zipD us ws, chkZ d us e ws⟩ h
    | _, _ => .bad
  | _ => .bad
def iZip (as : SA) : SI := fun ds h => (as ds h).bd zpF
section
variable {K : PySem.W.Frag} {ω : Wo} {h : Hc} {d e : D}
theorem seqX_rel {v : V} {xs : List D} (r : Rel K ω h) (q : seqD h d = some xs) (x : RelD K ω d v) : ∃ a us, v = .ref a ∧ SqX (isTup d) K ω.H a us ∧ RelL K ω xs us := by
  by_cases ht : isTup d = true
  · cases d <;> simp [isTup] at ht
    rename_i zs
    obtain ⟨a, us, e1, e2, e3⟩ := rd_tup x
    simp [seqD] at q
    subst q
    exact ⟨a, us, e1, e2, e3⟩
  · have ht' : isTup d = false := by simpa using ht
    obtain ⟨a, us, e1, e2, e3⟩ := rdlD_rel r (rdl_of_seq ht' q) x
    rw [ht']
    exact ⟨a, us, e1, e2, e3⟩
theorem itOk_zip {xs ys : List D} {a b : Addr} (r : Rel K ω h) (x : RelD K ω d (.ref a)) (y : RelD K ω e (.ref b)) : ItOk K ω ⟨zipD xs ys, chkZ d xs e ys⟩ (ItP (isTup d) (isTup e) K a b) := fun i ω' h' ex r' hk => by
  replace hk : seqD h' d = some xs ∧ seqD h' e = some ys := by
    have hk : (chkQ d xs h' && chkQ e ys h') = true := hk
    rw [Bool.and_eq_true] at hk
    exact ⟨chkQ_spec hk.1, chkQ_spec hk.2⟩
  obtain ⟨p, us, e1, e2, e3⟩ := seqX_rel r' hk.1 (mono r ex _ _ x)
  obtain ⟨p2, us2, f1, f2, f3⟩ := seqX_rel r' hk.2 (mono r ex _ _ y)
  cases e1
  cases f1
  refine ⟨fun z hd => ?_, fun hn => ⟨us, us2, e2, f2, ?_⟩⟩
  · rw [zipD_get] at hd
    cases q : xs[i]? with
    | none => rw [q] at hd; cases hd
    | some x0 =>
      cases q2 : ys[i]? with
      | none => rw [q, q2] at hd; cases hd
      | some y0 =>
        rw [q, q2] at hd
        simp only [Option.bind_some, Option.map_some, Option.some.injEq] at hd
        subst hd
        obtain ⟨v, e4, e5⟩ := e3.get q
        obtain ⟨v2, f4, f5⟩ := f3.get q2
        refine ⟨⟨us, us2, v, v2, e2, f2, e4, f4⟩, fun w H' ⟨T, w1, w2, ew, hT, eH, g1, g2⟩ => ?_⟩
        have k1 := g1 us e2
        rw [e4] at k1
        cases k1
        have k2 := g2 us2 f2
        rw [f4] at k2
        cases k2
        obtain ⟨ω2, m1, m2, m3, m4⟩ := pairUp r' hT e5 f5
        subst ew
        exact ⟨ω2, by rw [eH, m1], m2, m3, m4⟩
  · rw [zipD_get] at hn
    rw [← e3.len, ← f3.len]
    cases q : xs[i]? with
    | none => exact .inl (List.getElem?_eq_none_iff.mp q)
    | some x0 =>
      cases q2 : ys[i]? with
      | none => exact .inr (List.getElem?_eq_none_iff.mp q2)
      | some y0 => rw [q, q2] at hn; cases hn
end
section
variable {X : Cx} {W : WX} {e : Expr} {as : SA}
theorem di_zip {tg : Expr} (he : PI X tg e (iZpB X.K (tA X W as))) : DI X W tg e (iZip as) := di_of he fun σ H R ⟨ω, h, ds, e1, r, s, p⟩ => by
  subst e1
  refine ⟨ω, h, ds, rfl, r, s, Post.bd (show Post X.K X.mg W σ ω _ R ((as ds h).bd _) from p) fun xs h1 vs ω1 e1 r1 d1 p1 => ?_⟩
  unfold zpF at p1
  split at p1
  · rename_i d e
    obtain ⟨v, ws, rfl, e2, e3⟩ := d1.inv
    obtain ⟨v', ws', rfl, e4, e5⟩ := e3.inv
    rw [e5.inv0]
    split at p1
    · rename_i us ws q q2
      obtain ⟨a, us1, rfl, f2, f3⟩ := seqX_rel r1 q e2
      obtain ⟨b, us2, rfl, g2, g3⟩ := seqX_rel r1 q2 e4
      exact ⟨_, _, a, b, us1, us2, rfl, f2, g2, p1 _ ω1 (Ext.refl _) r1 (itOk_zip r1 e2 e4)⟩
    · exact False.elim p1
  · exact False.elim p1
end
/-! ### a call with nothing handed over -/
section
variable {X : Cx} {W : WX} {m : Fn} {pos p : Pos} {x : Str} {ps : List Str} {k : Nat}
end
/-! ### range with a step -/
def stepD (lo c : Int) (n : Nat) : List D := (List.range n).map fun (i : Nat) => D.int (lo + (i : Int) * c)
def rg3F (xs : List D) (h : Hc) : R ItD := match xs with
  | [.int i, .int j, .int c] => if c ≠ 0 ∧ c.natAbs < 1073741824 ∧ Builtin.Range.small i j c = true ∧ 0 ≤ Builtin.Range.rangeSize i j c then .ok ⟨stepD i c (Builtin.Range.rangeSize i j c).toNat, fun _ => true⟩ h else .bad
  | _ => .bad
def iRg3 (as : SA) : SI := fun ds h => (as ds h).bd rg3F
/-! ### reverse -/
def revF (x : D) (xs : List D) (h : Hc) : R D := match x, xs with
  | .ref i, [] => match h[i]? with
    | some (.lst ys) => .ok .non (h.set i (.lst ys.reverse))
    | _ => .bad
  | _, _ => .bad
end Mp
/-! LayJ: dicts. -/
namespace Mp
open PySem PySem.Spec PyProof.Rows L2
/-! ### keys, and what stands at them -/
def keyD : D → Option Key
  | .int i => some (.inl i)
  | .str x => some (.inr x)
  | _ => none
def keyO : Key → D
  | .inl i => .int i
  | .inr x => .str x
def lkD : List Key → List D → Key → Option D
  | k :: ks, d :: ds, j => if k = j then some d else lkD ks ds j
  | _, _, _ => none
def hasK (ks : List Key) (j : Key) : Bool := ks.any fun k => decide (k = j)
/-- in its place, or at the end -/
def insD (ks : List Key) (ds : List D) (j : Key) (x : D) : List Key × List D :=
  if hasK ks j = true then (ks, List.zipWith (fun k d => if k = j then x else d) ks ds) else (ks ++ [j], ds ++ [x])
section
variable {K : PySem.W.Frag} {ω ω' : Wo} {h h' : Hc} {d : D} {v : V}
end
section
variable {X : Cx} {W : WX} {K : PySem.W.Frag} {ω ω' : Wo} {h h' : Hc} {a b e o i : Expr} {m ma mb me mo mi : SE} {pos pos' : Pos}
/-! ### {} -/
def eDct0 : SE := fun _ h => .ok (.ref h.length) (h ++ [.dct [] []])
/-! ### d[k], k in d -/
def dgF (x y : D) (h : Hc) : R D := match dctD h x, keyD y with
  | some (ks, ds), some k => match lkD ks ds k with
    | some d => .ok d h
    | none => .bad
  | _, _ => .bad
def dinF (neg : Bool) (y x : D) (h : Hc) : R D := match dctD h x, keyD y with
  | some (ks, _), some k => .ok (.bl (if neg then !hasK ks k else hasK ks k)) h
  | _, _ => .bad
/-! ### d[k] = v -/
def putF (o i x : D) (h : Hc) : Option Hc := match o, keyD i with
  | .ref j, some k => match h[j]? with
    | some (.dct ks ds) => if ks.length < lim then some (h.set j (.dct (insD ks ds k x).1 (insD ks ds k x).2)) else none
    | _ => none
  | _, _ => none
/-! ### d[k] op= v -/
def sAugD (f : D → D → Hc → R D) (mo mi me : SE) : SS := fun ds h => sBd (mo ds h) ds fun o h1 => sBd (mi ds h1) ds fun i h2 => sBd (dgF o i h2) ds fun x h3 => sBd (me ds h3) ds fun y h4 => sBd (f x y h4) ds fun z h5 => match putF o i z h5 with
  | some h6 => .nx ds h6
  | none => .bad
end
/-! ### dict comprehensions -/
section
variable {X : Cx} {W : WX} {tg iter kx vx : Expr} {ifs : List Expr} {mi : SI} {p : Pt} {own : List Nat} {c : SB} {mk mv : SE} {scope : Scope} {pos : Pos}
def dcR (chk : Hc → Bool) (p : Pt) (own : List Nat) (c : SB) (mk mv : SE) (ds : Sl) : List D → List Key → List D → Hc → R (List Key × List D)
  | [], ks, acc, h => if chk h = true then .ok (ks, acc) h else .bad
  | d :: r, ks, acc, h => if chk h = true then (match bindP h p d (wipeD ds own) with
      | some ds1 => (c ds1 h).nox.bd fun b h1 => if b = true then (mk ds1 h1).nox.bd fun y h2 => (mv ds1 h2).nox.bd fun z h3 => match keyD y with
          | some k => if ks.length < lim then dcR chk p own c mk mv ds r (insD ks acc k z).1 (insD ks acc k z).2 h3 else .bad
          | none => .bad
        else dcR chk p own c mk mv ds r ks acc h1
      | none => .bad) else .bad
def eDc (mi : SI) (p : Pt) (own : List Nat) (c : SB) (mk mv : SE) : SE := fun ds h => (mi ds h).bd fun it h1 => (dcR it.chk p own c mk mv ds it.items [] [] h1).bd fun xs h2 => .ok (.dct xs.1 xs.2) h2
end
end Mp
/-! LayK: sorted. -/
namespace Mp
open PySem PySem.Spec PyProof.Rows L2
/-! ### one order, one sorted list -/
section
variable {α : Type}
def insO (le : α → α → Bool) (x : α) : List α → List α
  | [] => [x]
  | y :: r => if le x y = true then x :: y :: r else y :: insO le x r
def isort (le : α → α → Bool) : List α → List α
  | [] => []
  | x :: r => insO le x (isort le r)
structure Tot (le : α → α → Bool) : Prop where
  anti : ∀ a b, le a b = true → le b a = true → a = b
  tot : ∀ a b, le a b = true ∨ le b a = true
  trans : ∀ a b c, le a b = true → le b c = true → le a c = true
end
abbrev leI (a b : Int) : Bool := decide (a ≤ b)
def leS (a b : Str) : Bool := !decide (b.cps.toList < a.cps.toList)
abbrev sortS (l : List Str) : List Str := isort leS l
abbrev sortI (l : List Int) : List Int := isort leI l
def keysI : List Key → Option (List Int)
  | [] => some []
  | .inl i :: r => (keysI r).map (i :: ·)
  | _ :: _ => none
def keysS : List Key → Option (List Str)
  | [] => some []
  | .inr i :: r => (keysS r).map (i :: ·)
  | _ :: _ => none
/-! ### lists of pairs of ints -/
def leP (a b : Int × Int) : Bool := decide (a.1 < b.1 ∨ (a.1 = b.1 ∧ a.2 ≤ b.2))
def pr2D (p : Int × Int) : D := .tup [.int p.1, .int p.2]
def prs2D : List D → Option (List (Int × Int))
  | [] => some []
  | .tup [.int a, .int b] :: r => (prs2D r).map ((a, b) :: ·)
  | _ => none
/-- the items are pairs of ints, these -/
def PrR (K : PySem.W.Frag) (H : Hp) : List V → List (Int × Int) → Prop
  | [], [] => True
  | x :: xs, p :: ps => (∃ t, x = V.ref t ∧ SqT K H t [V.int p.1, V.int p.2]) ∧ PrR K H xs ps
  | _, _ => False
def pkV (h : Heap) (u : Value) : Int × Int := match u with
  | .ref t => match h.get? t with
    | some o => match o.data with
      | .seq its _ => match its.toList with
        | [.int x _, .int y _] => (x, y)
        | _ => (0, 0)
      | _ => (0, 0)
    | none => (0, 0)
  | _ => (0, 0)
def rSortedPI (K : PySem.W.Frag) : List V → Hp → VK → Prop := fun vs H Q => ∃ (a : Addr) (xs : List V) (ps : List (Int × Int)), vs = [V.ref a] ∧ SqL K H a xs ∧ PrR K H xs ps ∧
  ∀ (zs : List (V × (Int × Int))) (p : Addr), zs.Perm (xs.zip ps) → (zs.map (·.2)).Pairwise (fun a b => leP a b = true) → H p = none → Q (.ref p) (upd H p (.lst (zs.map (·.1))))
/-- sorted(x): what comes out -/
def sortX (h : Hc) (d : D) : Option (List D) := match rdlD h d with
  | some ys => match strsD ys with
    | some ss => if ss.length < 64 then some ((sortS ss).map D.str) else none
    | none => match intsD ys with
      | some ns => some ((sortI ns).map D.int)
      | none => match prs2D ys with
        | some ps => some ((isort leP ps).map pr2D)
        | none => none
  | none => match dctD h d with
    | some (ks, _) => match keysS ks with
      | some ss => if ss.length < 64 then some ((sortS ss).map D.str) else none
      | none => match keysI ks with
        | some ns => if ns.length < 64 then some ((sortI ns).map D.int) else none
        | none => none
    | none => match d with
      | .tup zs => match intsD zs with
        | some ns => some ((sortI ns).map D.int)
        | none => none
      | _ => none
def sortF (xs : List D) (h : Hc) : R D := match xs with
  | [d] => match sortX h d with
    | some ys => .ok (.lst ys) h
    | none => .bad
  | _ => .bad
def sortC (xs : List D) (h : Hc) : R D := match xs with
  | [d] => match sortX h d with
    | some ys => .ok (.ref h.length) (h ++ [.lst ys])
    | none => .bad
  | _ => .bad
def rSortA (X : Cx) : List V → Hp → VK → Prop := fun xs H Q => rSortedS X.K xs H Q ∨ rSortedI X.K xs H Q ∨ (∃ (a : Addr) (kvs : List (Key × V)) (ks : List Str), xs = [.ref a] ∧ Rd H a (.dK kvs) ∧ kvs.map (·.1) = ks.map Sum.inr ∧ ks.length < 64 ∧
    ∀ ys p, ys.Perm ks → sortedS ys = true → H p = none → Q (.ref p) (upd H p (.lst (ys.map V.str)))) ∨ (∃ (a : Addr) (kvs : List (Key × V)) (ks : List Int), xs = [.ref a] ∧ Rd H a (.dK kvs) ∧ kvs.map (·.1) = ks.map Sum.inl ∧ ks.length < 64 ∧
    ∀ (ns' : List Int) p, ns'.Perm ks → ns'.Pairwise (· ≤ ·) → H p = none → Q (.ref p) (upd H p (.lst (ns'.map V.int)))) ∨ (∃ (a : Addr) (ns : List Int), xs = [V.ref a] ∧ SqT X.K H a (ns.map V.int) ∧
    ∀ (ns' : List Int) (p : Addr), ns'.Perm ns → ns'.Pairwise (· ≤ ·) → H p = none → Q (.ref p) (upd H p (.lst (ns'.map V.int)))) ∨ rSortedPI X.K xs H Q
/-! ### the signs of a text -/
def sgnD (x : Str) : List D := x.cps.toList.map fun c => .str ⟨#[c]⟩
def iSgn (m : SE) : SI := fun ds h => (m ds h).bd fun d h1 => match d with
  | .str x => .ok ⟨sgnD x, fun _ => true⟩ h1
  | _ => .bad
end Mp
/-! LayX: exceptions of own classes over Exception, their making. -/
namespace Mp
open PySem PySem.Spec PyProof.Rows L2
def exT : List Value := [.type "Exception", .type "BaseException", .type "object"]
/-- own classes, then those of Exception -/
def refsE : List Value → Bool
  | .ref _ :: r => refsE r
  | l => l == exT
theorem refsE_ind {P : List Value → Prop} (h0 : P exT) (h1 : ∀ c r, P r → P (.ref c :: r)) : ∀ l, refsE l = true → P l
  | [], e => absurd e (by decide)
  | a :: r, e => by
    cases a with
    | ref c => exact h1 c r (refsE_ind h0 h1 r e)
    | _ => (have z := (beq_iff_eq (α := List Value)).mp e); (first | (rw [z]; exact h0) | (exact absurd z (by simp [exT])))
theorem refsE_pass (self : Value) : ∀ l, refsE l = true → refuseLoop self "__setattr__" l = pure () :=
  refsE_ind (F.store_Exception.passes self) fun c r h => by rw [refuseLoop_ref]; exact h
theorem refsE_has (X : String) : ∀ l : List Value, refsE l = true → l.contains (.type X) = exT.contains (.type X) :=
  refsE_ind rfl fun c r h => by rw [List.contains_cons, h]; rfl
theorem refsE_ne : ∀ l : List Value, refsE l = true → l.isEmpty = false := refsE_ind rfl fun _ _ _ => rfl
section
open Builtin Builtin.ObjectAttr
variable {prog : Program} {w : World} {A : Around} {R : Result → Shared → Prop} {hp : Heap} {g : Array GenState} {d : Drawn} {t : Nat} {os : OsState}
/-- the walk to the exception's own dict -/
theorem xset_walk {K : W.Frag} {name : Str} {tk : Tok} {v : Value} {x C : Addr} {ox : Obj} {od : Option Obj} {cd : ClassData}
    (X : K.In hp) (I : W.InstAt hp x ox C od) (hcd : W.clsIn K C = some cd) (hm : refsE cd.mro = true) (ha : W.findIn K (.ref C) name = some none)
    (hq : wpAny (model prog w) A.in1 (storeInOwnDict (.ref x) (.ref C) (.str name tk) name v false)
      (fun fin s' => match fin with | .done f => R (.ok f) s' | .again c' => c'.quiet = true ∧ codeAny (model prog w) A c' R s') (fun e s' => R (.error e) s') ⟨hp, g, d, t, os⟩) :
    codeAny (model prog w) A (.call (.builtin "object.__setattr__") ⟨[.ref x, .str name tk, v], []⟩) R ⟨hp, g, d, t, os⟩ := by
  have SF := F.store_object
  have hob : cd.mro.contains (.type "object") = true := (refsE_has "object" _ hm).trans (by decide +kernel)
  have hmro : W.mroIn K C (.type "object") = some true := by
    unfold W.mroIn
    rw [hcd, Option.bind_some, if_neg (by rw [refsE_ne _ hm]; decide), hob]
  have sub : W.Looks (model prog w) hp (isInstance (.ref x) (.type "object")) true := I.type.andThen (W.looks_mroIn X hmro)
  refine codeAny_call_builtin SF.slot.plain SF.entry (@W.check_slot (model prog w) _ _ ⟨hp, g, d, t, os⟩ "object.__setattr__" "object" "__setattr__" (.ref x) [.str name tk, v] [] _ SF.kind SF.split sub (SF.args (.ref x) (.str name tk) v) ?_)
  have hmr : W.Looks (model prog w) hp (mroOf (.ref C)) cd.mro := (W.looks_clsIn X hcd).andThen .now
  have L3 : W.Looks (model prog w) hp (storeTaker? none) none := .now
  rw [W.osa_eq, refuse_eq]
  refine wpAny_bind (wpAny_bind (I.type.at (wpAny_bind (hmr.at ?_))))
  rw [refsE_pass _ _ hm]
  exact wpAny_pure (wpAny_bind (I.type.at (wpAny_bind ((W.looks_findIn X ha).at (wpAny_bind (L3.at hq))))))
theorem xset_new {K : W.Frag} {name : Str} {tk : Tok} {v : Value} {x C : Addr} {fv : Array Value} {cd : ClassData}
    (X : K.In hp) (hx : hp.get? x = some { cls := .ref C, data := .fields fv }) (hcd : W.clsIn K C = some cd) (hm : refsE cd.mro = true) (hh : cd.hasDict = true) (ha : W.findIn K (.ref C) name = some none)
    (hq : ∀ h' tk' dx, (∀ b o, b ≠ x → hp.get? b = some o → h'.get? b = some o) → hp.objs.size ≤ dx → dx ≠ x → h'.get? x = some { cls := .ref C, dict := some dx, data := .fields fv } →
      h'.Ns1 dx (fun y => if y = name then some v else none) → R (.ok (.ret .none)) ⟨h', g, d, tk', os⟩) :
    codeAny (model prog w) A (.call (.builtin "object.__setattr__") ⟨[.ref x, .str name tk, v], []⟩) R ⟨hp, g, d, t, os⟩ := by
  have hxs : x ≠ hp.objs.size := Nat.ne_of_lt (Heap.lt_size hx)
  refine xset_walk X (⟨hx, rfl, rfl, trivial⟩ : W.InstAt hp x { cls := .ref C, data := .fields fv } C none) hcd hm ha ?_
  have hcls : W.Looks (model prog w) hp (classData C) cd := W.looks_clsIn X hcd
  obtain ⟨nm, bs, mro, ns, qn, hd, sn, sb, ab, col, del⟩ := cd
  dsimp only at hh
  subst hh
  unfold storeInOwnDict ownDictForStores
  repeat (first | with_reducible refine HandSPX.store_in_new ?_ ?_ | with_reducible refine wpAny_loadPart_at hx ?_ | with_reducible refine hcls.at ?_ | wp_step)
  · exact ⟨_, #[], _, (Heap.get?_update_ne _ _ _ _ hxs.symm).trans (Heap.get?_push_at rfl rfl), rfl, fun e he => absurd he (by simp), fun _ => rfl⟩
  · intro h' tk' hn' hs
    have hx₁ : (hp.push { cls := .type "dict", data := .dict #[] }).get? x = some { cls := .ref C, data := .fields fv } := Heap.get?_push_of_some _ hx
    refine hq h' tk' hp.objs.size (fun b o hb ho => ?_) (Nat.le_refl _) hxs.symm ?_ hn'
    · exact (hs.2 b (Nat.ne_of_lt (Heap.lt_size ho))).trans ((Heap.get?_update_ne _ _ _ _ hb).trans (Heap.get?_push_of_some _ ho))
    · exact (hs.2 x hxs).trans (Heap.get?_update_self _ hx₁ rfl)
theorem xset_old {K : W.Frag} {name : Str} {tk : Tok} {v : Value} {x C dx : Addr} {fv : Array Value} {cd : ClassData} {m0 : Str → Option Value} {nl : List Str}
    (X : K.In hp) (hx : hp.get? x = some { cls := .ref C, dict := some dx, data := .fields fv }) (hns : hp.Ns1 dx m0) (hw : Within m0 nl) (hz : nl.length ≤ 1000) (hcd : W.clsIn K C = some cd) (hm : refsE cd.mro = true) (hh : cd.hasDict = true)
    (ha : W.findIn K (.ref C) name = some none)
    (hq : ∀ h' tk', (∀ b o, b ≠ dx → hp.get? b = some o → h'.get? b = some o) → h'.Ns1 dx (fun y => if y = name then some v else m0 y) → R (.ok (.ret .none)) ⟨h', g, d, tk', os⟩) :
    codeAny (model prog w) A (.call (.builtin "object.__setattr__") ⟨[.ref x, .str name tk, v], []⟩) R ⟨hp, g, d, t, os⟩ := by
  obtain ⟨oD, esD, epD, hoD, hdD, _⟩ := hns.count hw
  refine xset_walk X (⟨hx, rfl, rfl, hoD⟩ : W.InstAt hp x { cls := .ref C, dict := some dx, data := .fields fv } C (some oD)) hcd hm ha ?_
  have hcls : W.Looks (model prog w) hp (classData C) cd := W.looks_clsIn X hcd
  obtain ⟨nm, bs, mro, ns, qn, hd, sn, sb, ab, col, del⟩ := cd
  dsimp only at hh
  subst hh
  unfold storeInOwnDict ownDictForStores
  repeat (first | with_reducible refine ESX.store_in_old hns hw hz ?_ | with_reducible refine wpAny_loadPart_at hx ?_ | with_reducible refine hcls.at ?_ | wp_step)
  intro h' tk' hn' hs
  exact hq h' tk' (fun b o hb ho => (hs.2 b hb).trans ho) hn'
end
/-- what the written part says of such a class -/
structure ExM (K : PySem.W.Frag) (C : Addr) : Prop where
  cls : ∃ nm q N bs bm sn sub ab col dd k0 k1 k2 k3 k5, K.lookup C = some (excClassObj nm q C N bs bm true sn sub ab col dd k0 k1 k2 k3 k5 "Exception.__new__") ∧ refsE bm = true
  sa : PySem.W.findIn K (.ref C) "__setattr__" = some (some (.builtin "object.__setattr__"))
  exC : PySem.W.subIn K (.ref C) (.type "BaseException") = some true
  tyC : PySem.W.typeIn K (.ref C) = some (.type "type")
  kC : PySem.W.keepIn K (.ref C) = true
section
variable {X : Cx} {pins : List (Addr × Obj)} {σ : L2.St} {H : Hp} {s : Shared} {a C dx : Addr} {f : Str} {y : V} {u : Value} {fs : List (Str × V)} {Q : Unit → Shared → Prop} {E : Value → Shared → Prop} {A : Around}
/-- self.f = y, the first one -/
theorem xst_new (T : ExM X.K C) (I : Inv X pins σ H s) (e : H a = some (exo a C none)) (hno : PySem.W.findIn X.K (.ref C) f = some none) (ry : RelV y u)
    (h : ∀ dx s', H dx = none → dx ≠ a → Inv X pins σ (upd (upd H dx (exd dx [(f, y)])) a (exo a C (some dx))) s' → Q () s') : wpAny (model X.prog X.w) A (setAttr (.ref a) f u) Q E s := by
  obtain ⟨nm, q, N, bs, bm, sn, sub, ab, col, dd, k0, k1, k2, k3, k5, hC, hbm⟩ := T.cls
  have hcl : PySem.W.clsIn X.K C = some { name := nm, bases := bs, mro := .ref C :: bm, ns := N, qualname := q, hasDict := true, slotNames := sn, subclasses := sub, abstract := ab, collection := col, hasDel := false } := by unfold PySem.W.clsIn; rw [hC] <;> rfl
  obtain ⟨t1, ho⟩ := exo_at I.hok e
  obtain ⟨hp, g, d, t, os⟩ := s
  refine PySem.W.set_plain I.kIn (ox := { cls := .ref C, dict := none, data := .fields #[.ref t1, .none, .none, .none, .bool false, .none] }) (od := none) ⟨ho, rfl, rfl, trivial⟩ T.sa ?_
  refine xset_new I.kIn ho hcl (show refsE (.ref C :: bm) = true from hbm) rfl hno (fun h' tk' dx k dn dne hx hn => ?_)
  have hnd : H dx = none := I.hok.fresh dn
  have nd : ∀ {b : Addr} {o : Obj}, hp.get? b = some o → b ≠ dx := fun {b o} q => Nat.ne_of_lt (Nat.lt_of_lt_of_le (Heap.lt_size q) dn)
  have na : ∀ {b : Addr}, H b = none → b ≠ a := fun {b} n z => by
    rw [z, e] at n
    cases n
  have Un1 : Un X.fs [] H (upd (upd H dx (exd dx [(f, y)])) a (exo a C (some dx))) hp h' := {
    keep := fun b o q n _ _ => k b o (na n) q
    slot := fun b o q n _ _ => ⟨o.slots, k b o (na n) q⟩
    free := fun b o q n _ => by rw [upd_ne (na n), upd_ne (nd q)]; exact n
    there := fun b o q _ => by
      by_cases hb : b = a
      · exact ⟨_, by rw [hb]; exact hx⟩
      · exact ⟨o, k b o hb q⟩
    tups := fun b xs q => by rw [upd_ne (at_ne e q exo_tup), upd_ne (ne_of_none q hnd)]; exact q
    frzs := fun b o v q => by rw [upd_ne (at_ne e q exo_frz), upd_ne (ne_of_none q hnd)]; exact q
    tbls := fun b ps q => ⟨#[], by rw [upd_ne (at_ne e q exo_tbl), upd_ne (ne_of_none q hnd), q]; simp⟩ }
  refine h dx _ hnd dne (I.un (t' := tk') Un1 fun b o q => ?_)
  by_cases hb : b = a
  · subst hb
    rw [upd_same] at q
    cases q
    exact exo_ok hx
  · rw [upd_ne hb] at q
    by_cases hd : b = dx
    · subst hd
      rw [upd_same] at q
      cases q
      exact exd_ok hn (relO_put (fs := []) ry fun g => True.intro)
    · rw [upd_ne hd] at q
      exact (I.hok b o q).stay (fun c v hc z => k c v (by
          rcases hc with hc | hc
          · rw [hc]
            exact hb
          · exact at_ne e hc exo_own) z)
        (fun c hc => by rw [upd_ne (at_ne e hc exo_own), upd_ne (ne_of_none hc hnd)]; exact hc) (fun c xs hc => by rw [upd_ne (at_ne e hc exo_tup), upd_ne (ne_of_none hc hnd)]; exact hc)
/-- self.f = y, a further one -/
theorem xst_old (T : ExM X.K C) (I : Inv X pins σ H s) (e : H a = some (exo a C (some dx))) (ed : H dx = some (exd dx fs)) (hl : fs.length ≤ 900) (hno : PySem.W.findIn X.K (.ref C) f = some none) (ry : RelV y u)
    (h : ∀ s', Inv X pins σ (upd H dx (exd dx ((f, y) :: fs))) s' → Q () s') : wpAny (model X.prog X.w) A (setAttr (.ref a) f u) Q E s := by
  obtain ⟨nm, q, N, bs, bm, sn, sub, ab, col, dd, k0, k1, k2, k3, k5, hC, hbm⟩ := T.cls
  have hcl : PySem.W.clsIn X.K C = some { name := nm, bases := bs, mro := .ref C :: bm, ns := N, qualname := q, hasDict := true, slotNames := sn, subclasses := sub, abstract := ab, collection := col, hasDel := false } := by unfold PySem.W.clsIn; rw [hC] <;> rfl
  obtain ⟨t1, ho⟩ := exo_at I.hok e
  obtain ⟨mA, hns, rel⟩ := exd_at I.hok ed
  have hw := within_of rel
  obtain ⟨hp, g, d, t, os⟩ := s
  obtain ⟨oD, _, _, hoD, _, _⟩ := hns.count hw
  refine PySem.W.set_plain I.kIn (ox := { cls := .ref C, dict := some dx, data := .fields #[.ref t1, .none, .none, .none, .bool false, .none] }) (od := some oD) ⟨ho, rfl, rfl, hoD⟩ T.sa ?_
  refine xset_old I.kIn ho hns hw (by rw [List.length_map]; omega) hcl (show refsE (.ref C :: bm) = true from hbm) rfl hno (fun h' tk' k hn => ?_)
  have hd : ∃ o, h'.get? dx = some o := by
    obtain ⟨o, _, _, e', _⟩ := hn
    exact ⟨o, e'⟩
  exact h _ (I.write (t' := tk') (x := dx) (e := dx) (o := exd dx ((f, y) :: fs)) (by rw [ed]; exact True.intro) (.inl rfl) k hd (exd_ok hn (relO_put ry rel)))
end
/-- self.f = e -/
def tXst (K : PySem.W.Frag) (f : Str) (to te : TE) : TS := fun D σ H => te σ H fun y H1 => to σ H1 fun x H2 => ∃ a C : Addr, x = .ref a ∧ ExM K C ∧ PySem.W.findIn K (.ref C) f = some none ∧
  ((H2 a = some (exo a C none) ∧ ∀ dx, H2 dx = none → dx ≠ a → D.nx σ (upd (upd H2 dx (exd dx [(f, y)])) a (exo a C (some dx)))) ∨
    ∃ (dx : Addr) (fs : List (Str × V)), H2 a = some (exo a C (some dx)) ∧ H2 dx = some (exd dx fs) ∧ fs.length ≤ 900 ∧ D.nx σ (upd H2 dx (exd dx ((f, y) :: fs))))
theorem ps_xst {X : Cx} {o e : Expr} {to te : TE} {f : Str} {p' pos : Pos} (ho : PE X o to) (he : PE X e te) (hs : swapsWith e (some (.Attribute o f p')) pos.line X.env = pure false := by rfl) : PS X (.Assign [.Attribute o f p'] e pos) (tXst X.K f to te) := by
  refine ⟨fun pins s σ H D I h => ?_⟩
  refine plainObj_wpAny_Assign_Attribute (thn (he.run pins s σ H _ I h) fun v s1 ⟨y, H1, I1, r1, q1⟩ => thn (ho.run pins s1 σ H1 _ I1 q1) fun u s2 ⟨x, H2, I2, r2, a, C, ex, T, hno, q⟩ => ?_) hs
  subst ex
  obtain rfl : u = Value.ref a := r2
  rcases q with ⟨ea, q⟩ | ⟨dx, fs, ea, ed, hl, q⟩
  · exact xst_new T I2 ea hno r1 fun dx s' n ne J => ⟨σ, _, J, q dx n ne⟩
  · exact xst_old T I2 ea ed hl hno r1 fun s' J => ⟨σ, _, J, q⟩
/-- C(e, ..), C's own __init__ keeping sp -/
theorem pmk_x {X : Cx} {e : Expr} {es : List Expr} {ta : TA} {p pos : Pos} {CX : CXT} {x : Str} {C fI : Addr} {k : Nat} {fd : FuncData} {ps : List Str} {sp : Sp} (T : ExM X.K C) (iC : PySem.W.findIn X.K (.ref C) "__init__" = some (some (.ref fI))) (tI : PySem.W.typeIn X.K (.ref fI) = some (.type "function"))
    (F1 : FnOk X.prog X.w X.K X.mg X.base CX k fI fd ps sp) (hr : Room (k + 1) X.A) (hb : Binds X.K fd ps []) (hx : Passes CX X (fun _ _ _ => False)) (hg : Gl X x) (hm : X.mg x = some (.ref C)) (ha : PA X (e :: es) ta)
    (hdb : (x == ("__debug__" : Str)) = false := by decide) (he : starEach (e :: es) X.env = (false, eval e X.env) :: starEach es X.env := by rfl) (hpl : (backTo pos (starEach es X.env)).any (·.1) = false := by rfl) :
    PMk X (.Call (.Name x p) (e :: es) [] pos) (tMkO C sp [] ta) := by
  intro pins s σ H Q I h
  obtain ⟨nm, q, N, bs, bm, sn, sub, ab, col, dd, k0, k1, k2, k3, k5, hC, hbm⟩ := T.cls
  refine wpAny_Call_Name_kw (ld_glob I hg hm ?_ hdb)
  refine PySem.W.callWith_K (h₀ := X.base) I.ok.mod.kin T.kC (thn (ha.run pos pins s σ H _ I h) fun us s1 ⟨vs, H1, I1, r1, hz, q1⟩ => ⟨I1.kIn, ?_⟩) he hpl
  show wpAny _ _ (call (.ref C) us) _ _ _
  obtain ⟨hp, g, dr, tk, os⟩ := s1
  have hsz : hp.objs.size ≤ hp.objs.size + 1 := Nat.le_succ _
  have hn : H1 (hp.objs.size + 1) = none := I1.hok.fresh hsz
  have hq := q1 (hp.objs.size + 1) hn
  have kk : ∀ b o, hp.get? b = some o → ((hp.push (PySem.W.kdv_tup us)).push (PySem.HandSPX.excO C hp.objs.size)).get? b = some o := fun b o e => Heap.get?_push_of_some _ (Heap.get?_push_of_some _ e)
  have hget : ((hp.push (PySem.W.kdv_tup us)).push (PySem.HandSPX.excO C hp.objs.size)).get? (hp.objs.size + 1) = some (PySem.HandSPX.excO C hp.objs.size) := by heap_get
  have I2 : Inv X pins σ (upd H1 (hp.objs.size + 1) (exo (hp.objs.size + 1) C none)) ⟨(hp.push (PySem.W.kdv_tup us)).push (PySem.HandSPX.excO C hp.objs.size), g, dr, tk, os⟩ :=
    I1.laid (t' := tk) (a := hp.objs.size + 1) (o := exo (hp.objs.size + 1) C none) (h' := (hp.push (PySem.W.kdv_tup us)).push (PySem.HandSPX.excO C hp.objs.size)) kk hsz (exo_ok hget)
  have r2 : Vals (V.ref (hp.objs.size + 1) :: (vs ++ [])) (Value.ref (hp.objs.size + 1) :: (us ++ [])) := .cons rfl (r1.append .nil)
  have hl : (Value.ref (hp.objs.size + 1) :: us ++ []).length = ps.length := by
    have e := r2.length
    rw [F1.len _ _ _ _ hq] at e
    exact e.symm
  have hus : us.length ≤ sizeLine := by
    rw [← Paired.length r1, sizeLine_eq]
    omega
  have hbb := hb _ (Value.ref (hp.objs.size + 1) :: us) I2.kIn hl
  rw [List.cons_append] at hbb
  refine wpAny_call (PySem.HandSPX.call_own F.excBase_Exception (fun Y => refsE_has Y bm hbm) (I1.kIn _ _ hC) (PySem.W.looks_findIn I1.kIn iC) (fun self => PySem.W.bind_fn I1.kIn self tI) hus
    (codeAny_mono (F1.run _ X.stack _ _ ⟨Value.ref (hp.objs.size + 1) :: us, []⟩ (Value.ref (hp.objs.size + 1) :: (us ++ [])) _ _ (fun _ _ _ => False) (hr.make C us []) (I2.env0.make C us []) hbb r2 hq) fun r s' hq' => ?_))
  cases r with
  | error er => exact hx pins σ _ _ er s' I2 hq'
  | ok fl =>
    cases fl with
    | ret u =>
      obtain ⟨v, H2, os2, bare2, un2, hok2, rv, ev, d, fs, ea, ed, hd1, q2⟩ := hq'
      subst ev
      obtain ⟨h2, g2, d2, t2, os'⟩ := s'
      exact ⟨rv, mk_end (raises_own T.exC T.tyC) I1 hsz kk un2 hok2 os2 bare2 ea ed hd1 q2⟩
    | next => exact False.elim hq'
    | brk => exact False.elim hq'
    | cont => exact False.elim hq'
/-! ### __init__ -/
/-- def __init__(self, y): self.f = y -/
def spX1 (f : Str) (K : PySem.W.Frag) : Sp := fun vs H Q _ => ∃ (a C : Addr) (y : V), vs = [.ref a, y] ∧ ExM K C ∧ PySem.W.findIn K (.ref C) f = some none ∧ H a = some (exo a C none) ∧
  ∀ dx, H dx = none → dx ≠ a → Q .non (upd (upd H dx (exd dx [(f, y)])) a (exo a C (some dx)))
/-- def __init__(self, y, z): self.f = y; self.g = z -/
def spX2 (f g : Str) (K : PySem.W.Frag) : Sp := fun vs H Q _ => ∃ (a C : Addr) (y z : V), vs = [.ref a, y, z] ∧ ExM K C ∧ PySem.W.findIn K (.ref C) f = some none ∧ PySem.W.findIn K (.ref C) g = some none ∧ H a = some (exo a C none) ∧
  ∀ dx, H dx = none → dx ≠ a → Q .non (upd (upd (upd H dx (exd dx [(f, y)])) a (exo a C (some dx))) dx (exd dx [(g, z), (f, y)]))
theorem x1_len {f : Str} {K : PySem.W.Frag} (vs : List V) (H : Hp) (Q : VK) (E : XK) (h : spX1 f K vs H Q E) : vs.length = 2 := by
  obtain ⟨a, C, y, rfl, _⟩ := h; rfl
theorem x1_rd {f : Str} {K : PySem.W.Frag} {vs : List V} {H : Hp} {Q : VK} {E : XK} {N : List Str} (hn : N.length = 2) (h : spX1 f K vs H Q E) :
    tXst K f (tVar 0) (tVar 1) { nx := fun _ H' => Q .non H', rt := Q } (L2.start N vs) H := by
  obtain ⟨a, C, y, rfl, T, no, e, q⟩ := h
  match N, hn with
  | [_, _], _ => exact ⟨y, rfl, .ref a, rfl, a, C, rfl, T, no, .inl ⟨e, fun dx n ne => q dx n ne⟩⟩
/-! ### raise -/
/-- a class of exceptions with its __init__ -/
def XCls (P : Program) (w : World) (K : PySem.W.Frag) (mg : Str → Option Value) (x : Str) (ps fs : List Str) (sp : PySem.W.Frag → Sp) : Prop :=
  ∃ (C fI : Addr) (fd : FuncData), mg x = some (.ref C) ∧ ExM K C ∧ PySem.W.findIn K (.ref C) "__init__" = some (some (.ref fI)) ∧ PySem.W.typeIn K (.ref fI) = some (.type "function") ∧ Binds K fd ps [] ∧
    (∀ base : Heap, FnOk P w K mg base CX0 1 fI fd ps (sp K)) ∧ ∀ f ∈ fs, PySem.W.findIn K (.ref C) f = some none
def sRaise (x : Str) (fs : List Str) (as : SA) : SS := fun ds h => sBd (as ds h) ds fun vs h1 => if vs.length = fs.length then .ex x fs vs.reverse ds h1 else .bad
section
variable {X : Cx} {W : WX} {e e2 : Expr} {as : SA} {x f g y z : Str} {p pos pos2 : Pos}
theorem del_x1 {H1 : Hp} {a dx : Addr} {o : HO} (ha : H1 a = none) (ne : dx ≠ a) (u1 u2 u4 : HO) :
    upd (del (upd (upd (upd H1 a u1) dx u2) a u4) a) dx o = upd H1 dx o := by
  funext b
  by_cases hb : b = dx
  · rw [hb, upd_same, upd_same]
  · rw [upd_ne hb, upd_ne hb]
    by_cases hb2 : b = a
    · rw [hb2, del_same, ha]
    · rw [del_ne hb2, upd_ne hb2, upd_ne hb, upd_ne hb2]
theorem ds_raise1 (hc : X.calm = true) (tk : Takes X W) (T : XCls X.prog X.w X.K X.mg x ["self", y] [f] (spX1 f)) (hr : Room 2 X.A) (hg : Gl X x) (ha : DA X W [e] as)
    (hdb : (x == ("__debug__" : Str)) = false := by decide) (he : starEach [e] X.env = [(false, eval e X.env)] := by rfl) :
    DS X W (.Raise (some (.Call (.Name x p) [e] [] pos)) none pos2) (sRaise x [f] as) := by
  obtain ⟨C, fI, fd, gC, E, iC, tI, b, F, no⟩ := T
  refine ds_of (ps_raise hc tk (pmk_x E iC tI (F X.base) hr b pass0 hg gC ha hdb he rfl)) fun D σ H ⟨ω, h, ds, e1, r, s, pp⟩ => ?_
  subst e1
  refine ⟨ω, h, ds, rfl, r, s, PostO.bd r s pp fun xs h1 vs ω1 ex r1 rl s1 p1 => ?_⟩
  obtain ⟨hl, p1⟩ := p1.if_
  match xs, hl with
  | [d], _ =>
    obtain ⟨v, ws, rfl, rv, rn⟩ := rl.inv
    rw [rn.inv0]
    refine ⟨by simp, fun a ha => ⟨a, C, v, rfl, E, no f (by simp), upd_same, fun dx n ne => ?_⟩⟩
    have nd : ω1.H dx = none := by rw [upd_ne ne] at n; exact n
    refine ⟨rfl, dx, [(f, v)], upd_same, ?_, nd, ?_⟩
    · rw [upd_ne ne, upd_same]
    · rw [del_x1 ha ne]
      refine p1 (.ref C) (some dx) σ (ω1.up dx (.xd [(f, v)])) (Ext.up nd) (r1.up nd) (monoS r1 (Ext.up nd) s1) ⟨C, dx, [v], rfl, rfl, gC, upd_same, rfl, monoL r1 (Ext.up nd) _ _ (RelL.cons rv RelL.nil)⟩
end
end Mp
/-! LayY: what a call told: a lambda handed to a def that calls it in a try. -/
namespace Mp
open PySem PySem.Spec PyProof.Rows L2
/-! ### several clauses, each with the name n in slot i -/
abbrev Clauses := List (Value × (Addr → Value → Option Addr → TS))
def wAsM (K : PySem.W.Frag) (i : Nat) (D : Ends) : Clauses → WX
  | [] => fun _ _ _ _ => False
  | (c, ts) :: r => fun cls d σ H => ∃ b, PySem.W.exmOne K cls c = some b ∧
      (b = true → i < σ.length → ∀ a, H a = none → ts a cls d { nx := fun σ' H' => D.nx (σ'.set i none) H', rt := D.rt, bk := fun σ' H' => D.bk (σ'.set i none) H', ct := fun σ' H' => D.ct (σ'.set i none) H' } (σ.set i (some (.ref a))) H) ∧
      (b = false → wAsM K i D r cls d σ H)
inductive HdsAs (X : Cx) (n : Str) : List ExceptHandler → Clauses → Prop
  | nil : HdsAs X n [] []
  | cons {x : Str} {c : Value} {ts : Addr → Value → Option Addr → TS} {b₀ : Stmt} {suite : List Stmt} {np pos' : Pos} {hds : List ExceptHandler} {l : Clauses} (hc : Names X x c)
      (hsu : ∀ (a : Addr) (oe : Obj) (cls : Value) (d : Option Addr) (pn : List (Addr × Obj)), Zc cls d oe → (∃ vs, oe.data = .fields vs) → PSs (X.suite a ((a, oe) :: pn)) (b₀ :: suite) (ts a cls d)) (r : HdsAs X n hds l) :
      HdsAs X n (.ExceptHandler (some (.Name x np)) (some n) (b₀ :: suite) pos' :: hds) ((c, ts) :: l)
section
variable {X : Cx} {n : Str} {i : Nat} {body : List Stmt} {h₀ : ExceptHandler} {hds : List ExceptHandler} {l : Clauses} {pos : Pos} {tb : WX → TS}
end
/-! ### told: try: return ("value", deed()) / except C as why: return ("C", why.f, ..) -/
/-- one clause: the class, what it is called, its fields in the order in which they are told -/
abbrev TTab := List (Addr × Str × List Str)
/-- what the clauses make of an exception -/
def wTold (K : PySem.W.Frag) (Q : VK) : TTab → Value → Option Addr → Hp → Prop
  | [], _, _, _ => False
  | (C, x, fs) :: r, cls, d, H => ∃ b, PySem.W.exmOne K cls (.ref C) = some b ∧
      (b = true → cls = .ref C ∧ ∃ (dd : Addr) (l : List (Str × V)) (vs : List V), d = some dd ∧ H dd = some (.xd l) ∧ (fs.map fun f => l.lookup f) = vs.map some ∧ vs.length ≤ 100 ∧ ∀ t, H t = none → Q (.ref t) (upd H t (.tup (.str x :: vs)))) ∧
      (b = false → wTold K Q r cls d H)
def TTold (K : PySem.W.Frag) (tab : TTab) : (XK → Hp → VK → Prop) → Hp → VK → Prop := fun tl H Q =>
  tl (fun cls d H' => wTold K Q tab cls d H') H (fun v H' => ([.str "value", v] : List V).length ≤ sizeLine ∧ ∀ t, H' t = none → Q (.ref t) (upd H' t (.tup [.str "value", v])))
/-- what the top says of a class that is caught -/
structure XRd (K : PySem.W.Frag) (mg : Str → Option Value) (x : Str) (C : Addr) (fs : List Str) : Prop where
  g : mg x = some (.ref C)
  t : XfC K C
  no : ∀ f ∈ fs, PySem.W.findIn K (.ref C) f = some none
/-- the clauses of such a def, n the name in them -/
inductive ToldHs (K : PySem.W.Frag) (mg : Str → Option Value) (sg : Scope) (n : Str) : List ExceptHandler → TTab → Prop
  | nil : ToldHs K mg sg n [] []
  | one {x f : Str} {C : Addr} {hds : List ExceptHandler} {l : TTab} {j k : Nat} {p1 p2 p3 p4 p5 p6 p7 : Pos} (h : XRd K mg x C [f]) (hg : sg.names.lookup x = some .globalImplicit) (hd : (x == ("__debug__" : Str)) = false) (r : ToldHs K mg sg n hds l) :
      ToldHs K mg sg n (.ExceptHandler (some (.Name x p1)) (some n) [.Return (some (.Tuple [.Constant (.str x) j p2, .Attribute (.Name n p3) f p4] k p5)) p6] p7 :: hds) ((C, x, [f]) :: l)
  | two {x f f2 : Str} {C : Addr} {hds : List ExceptHandler} {l : TTab} {j k : Nat} {p1 p2 p3 p4 p5 p6 p7 p8 p9 : Pos} (h : XRd K mg x C [f, f2]) (hg : sg.names.lookup x = some .globalImplicit) (hd : (x == ("__debug__" : Str)) = false) (r : ToldHs K mg sg n hds l) :
      ToldHs K mg sg n (.ExceptHandler (some (.Name x p1)) (some n) [.Return (some (.Tuple [.Constant (.str x) j p2, .Attribute (.Name n p3) f p4, .Attribute (.Name n p8) f2 p9] k p5)) p6] p7 :: hds) ((C, x, [f, f2]) :: l)
/-- the suites' readings -/
def tSuite1 (i : Nat) (C : Addr) (y f : Str) : Addr → Value → Option Addr → TS := fun a cls d => tRet (tTup (tCons (tC (.str y)) (tCons (tXf a cls d C f (tVar i)) tNil)))
def tSuite2 (i : Nat) (C : Addr) (y f f2 : Str) : Addr → Value → Option Addr → TS := fun a cls d => tRet (tTup (tCons (tC (.str y)) (tCons (tXf a cls d C f (tVar i)) (tCons (tXf a cls d C f2 (tVar i)) tNil))))
def clausesOf (i : Nat) : TTab → Clauses
  | [] => []
  | (C, y, [f]) :: r => (.ref C, tSuite1 i C y f) :: clausesOf i r
  | (C, y, [f, f2]) :: r => (.ref C, tSuite2 i C y f f2) :: clausesOf i r
  | _ :: r => clausesOf i r
/-- one or two fields -/
def tabWf : TTab → Prop
  | [] => True
  | (_, _, fs) :: r => (fs.length = 1 ∨ fs.length = 2) ∧ tabWf r
/-! ### as data -/
def toldTab : List (Str × List Str) := [("BadValue", ["at"]), ("BadText", ["at"]), ("Unknown", ["name"]), ("NoChance", ["word"]), ("Crowded", ["first", "last"]), ("NoDay", ["name"]), ("Missing", ["at"]), ("TakenName", ["name"]), ("Short", ["rows"])]
def toldOk (x : Str) (fs : List Str) (n : Nat) : Bool := (toldTab.any fun p => decide (p.1 = x) && decide (p.2 = fs.reverse)) && (decide fs.Nodup && decide (n = fs.length))
def eTold (m : SE) : SE := fun ds h => match m ds h with
  | .ok v h' => .ok (.tup [.str "value", v]) h'
  | .ex x fs vs h' => if toldOk x fs vs.length = true then .ok (.tup (.str x :: vs.reverse)) h' else .bad
  | .bad => .bad
def exmAll (K : PySem.W.Frag) : TTab → Bool
  | [] => true
  | (C, _, _) :: r => decide (PySem.W.exmOne K (.ref C) (.ref C) = some true) && (r.all (fun p => decide (PySem.W.exmOne K (.ref p.1) (.ref C) = some false)) && exmAll K r)
/-- the def of the text that calls what it got -/
structure TellTxt (K : PySem.W.Frag) (mg : Str → Option Value) (st : Stmt) : Prop where
  D : DefAt K mg "_law_told" "_law_told" st ["deed"]
  S : FnScope ["deed", "why"] ["deed"] (defScope st)
  k : (defScope st).kind = .function
  vd : Vis (defScope st) "deed"
  vw : (defScope st).names.lookup ("why" : Str) = some .local
  ex : ∃ (tab : TTab) (j k : Nat) (p1 p2 p3 p4 p5 p6 : Pos) (h₀ : ExceptHandler) (hds : List ExceptHandler),
    defBody st = [.Try [.Return (some (.Tuple [.Constant (.str "value") j p1, .Call (.Name "deed" p2) [] [] p3] k p4)) p5] (h₀ :: hds) [] [] p6] ∧ ToldHs K mg (defScope st) "why" (h₀ :: hds) tab ∧
    tab.map (·.2) = toldTab ∧ exmAll K tab = true
/-! ### a lambda is made: nothing that was tracked is lost -/
section
variable {X : Cx} {pins : List (Addr × Obj)} {σ : L2.St} {H : Hp} {s : Shared}
def tLam3 (T : List (Addr × Str)) (TT : (XK → Hp → VK → Prop) → Hp → VK → Prop) (t : XK → TE) : TE := fun σ H Q => LamX.Tabs T H ∧ ∀ H1, LamX.ExtN H H1 → (∀ b, H1 b = none → H b = none) → LamX.Tabs T H1 → TT (fun E H' Q' => t E σ H' Q') H1 Q
end
section
variable {X : Cx} {W : WX} {k : Nat} {st : Stmt} {c P : Addr} {params : Arguments} {body : Expr} {scope : Scope} {m : SE} {p lpos pos : Pos}
/-- the same world over another heap -/
def _root_.Mp.Wo.at (ω : Wo) (H : Hp) : Wo := { ω with H := H }
end
/-! ### the law's def, its code object known -/
def DefAtC (K : PySem.W.Frag) (mg : Str → Option Value) (x qual : Str) (st : Stmt) (ps : List Str) (c : Addr) : Prop := ∃ (f : Addr) (fd : FuncData), mg x = some (.ref f) ∧ Fun K x qual st f fd ∧ Binds K fd ps [] ∧ fd.code = .ref c
section
variable {P : Program} {w : World} {K : PySem.W.Frag} {mg : Str → Option Value} {base : Heap}
theorem fn_okC {x qual : Str} {st : Stmt} {f c : Addr} {fd : FuncData} {N ps : List Str} {k : Nat} {m : SS} (F : Fun K x qual st f fd) (hc : fd.code = .ref c) (S : FnScope N ps (defScope st))
    (hb : ∀ (A : Around) (outer : List Env) (s : Shared) (H : Hp) (E : XK), Room k (A.deeper (envOfC qual (defScope st) s.heap.objs.size f (.ref c))) →
      DSs (cxOf (L2.CX P w) P w K mg base N qual (defScope st) f (.ref c) A outer s H E) (WF E) (defBody st) m) :
    FnOk P w K mg base (L2.CX P w) (k + 1) f fd ps (spD K mg ps.length (runB N.length m)) := by
  obtain ⟨oc, od, kV, doc, pm, an, cdv, ct, osl, rfl, lk, hcd⟩ := F.ex
  have hc' : cdv = .ref c := hc
  subst hc'
  refine fn_of lk hcd S (fun vs H Q E h => h.1) fun A outer s H vs Q E hr h => ?_
  refine ⟨_, hb A outer s H E hr, ?_⟩
  obtain ⟨hl, ω, h, ds, e1, r, rl, p⟩ := h
  subst e1
  have e2 : N.length - ds.length = N.length - vs.length := by rw [rl.len]
  refine ⟨ω, h, ds.map some ++ List.replicate (N.length - ds.length) none, rfl, r, by rw [e2]; exact rl.slots, ?_⟩
  unfold runB at p
  cases q : m (ds.map some ++ List.replicate (N.length - ds.length) none) h with
  | nx ds' h' => rw [q] at p; exact fun σ' ω' e r' s' => p _ ω' e r' (by unfold RelD; rfl)
  | rt d h' => rw [q] at p; exact fun v ω' e r' s' => p _ ω' e r' s'
  | bk ds' h' => rw [q] at p; exact False.elim p
  | ct ds' h' => rw [q] at p; exact False.elim p
  | ex x fs vs' ds' h' => rw [q] at p; exact fun c d σ' ω' e r' s' rx => p c d ω' e r' rx
  | bad => rw [q] at p; exact False.elim p
theorem DefAtC.good {x qual : Str} {st : Stmt} {ps N : List Str} {k : Nat} {m : SS} {c : Addr} (D : DefAtC K mg x qual st ps c) (S : FnScope N ps (defScope st))
    (hb : ∀ (f : Addr) (A : Around) (outer : List Env) (s : Shared) (H : Hp) (E : XK), Room k (DefX P w K mg base N qual st f (.ref c) A outer s H E).A → DSs (DefX P w K mg base N qual st f (.ref c) A outer s H E) (WF E) (defBody st) m) :
    Good P w K mg base x (k + 1) ps (runB N.length m) := by
  obtain ⟨f, fd, g, F, b, hc⟩ := D
  exact ⟨f, fd, g, F.kp, b, fun_lk F, fn_okC F hc S fun A outer s H E hr => hb f A outer s H E hr⟩
end
/-- the law's table, from what is written -/
theorem tabIn_mk {K : PySem.W.Frag} {x : Str} {f c P : Addr} {oc oc2 : Value} {od od2 : Option Addr} {sl sl2 : Array (Option Value)} {fd : FuncData} {vs : Array Value} (h1 : PySem.W.nsIn K mainGlobals x = some (some (.ref f))) (h2 : K.lookup f = some ⟨oc, od, .func fd, sl⟩) (h3 : fd.code = .ref c)
    (h4 : K.lookup c = some ⟨oc2, od2, .fields vs, sl2⟩) (h5 : vs[11]? = some (.ref P)) : PySem.W.tabIn K x = some (c, P) := by
  unfold PySem.W.tabIn
  rw [h1]
  simp only [h2, h3, h4, h5]
end Mp
/-! LayZ: further words. -/
namespace Mp
open PySem PySem.Spec PyProof.Rows L2
section
variable {X : Cx} {W : WX} {o i e o2 i2 : Expr} {mo mi me mo2 mi2 : SE} {as : SA} {pos posA p1 p2 : Pos} {k : Nat} {es : List Expr}
/-! ### xs[i], ys[j] = a, b -/
def sSw (as : SA) (mo mi mo2 mi2 : SE) : SS := fun ds h => sBd (as ds h) ds fun xs h1 => match xs with
  | [x, y] => sBd (mo ds h1) ds fun o h2 => sBd (mi ds h2) ds fun i h3 => match setF o i x h3 with
    | some h4 => sBd (mo2 ds h4) ds fun o2 h5 => sBd (mi2 ds h5) ds fun i2 h6 => match setF o2 i2 y h6 with
      | some h7 => .nx ds h7
      | none => .bad
    | none => .bad
  | _ => .bad
/-! ### xs[i] op= e, d[k] op= e -/
def sAugS (fget fop : D → D → Hc → R D) (fset : D → D → D → Hc → Option Hc) (mo mi me : SE) : SS := fun ds h => sBd (mo ds h) ds fun o h1 => sBd (mi ds h1) ds fun i h2 => sBd (fget o i h2) ds fun x h3 => sBd (me ds h3) ds fun y h4 => sBd (fop x y h4) ds fun z h5 => match fset o i z h5 with
  | some h6 => .nx ds h6
  | none => .bad
def ixlF (x y : D) (h : Hc) : R D := match rdlD h x, y with
  | some xs, .int i => match atI xs i with
    | some d => .ok d h
    | none => .bad
  | _, _ => .bad
end
/-! ### xs + ys, that is then changed -/
def addC (x y : D) (h : Hc) : R D := match lstD h x, lstD h y with
  | some xs, some ys => if xs.length + ys.length ≤ lim then .ok (.ref h.length) (h ++ [.lst (xs ++ ys)]) else .bad
  | _, _ => .bad
/-! ### what is never reached -/
section
variable {X : Cx} {W : WX} {e tg : Expr} {es : List Expr}
def eBad : SE := fun _ _ => .bad
def bBad : SB := fun _ _ => .bad
def iBad : SI := fun _ _ => .bad
def aBad : SA := fun _ _ => .bad
end
end Mp
/-! LayW: a, b, c = ..; {k: v}; xs.index(x); d.get(..). -/
namespace Mp
open PySem PySem.Spec PyProof.Rows L2
section
variable {X : Cx} {W : WX} {e o k v : Expr} {mo me mx : SE} {as : SA} {pos apos cpos : Pos}
/-! ### a, b, c = x, y, z -/
def sPar3 (i j l : Nat) (as : SA) : SS := fun ds h => sBd (as ds h) ds fun xs h1 => match xs with
  | [x, y, z] => .nx (((ds.set i (some x)).set j (some y)).set l (some z)) h1
  | _ => .bad
/-! ### {k: v} of plain words -/
structure Pl (X : Cx) (e : Expr) (g : Sl → Option D) : Prop where
  ex : ∃ t : TE, PE X e t ∧ ∀ (σ : L2.St) (ω : Wo) (ds : Sl) (d : D), RelS X.K ω ds σ → g ds = some d → ∃ v, RelD X.K ω d v ∧ ∀ (H : Hp) (Q : VK), Q v H → t σ H Q
def gVar (i : Nat) : Sl → Option D := fun ds => match ds[i]? with
  | some (some d) => some d
  | _ => none
def gC (d : D) : Sl → Option D := fun _ => some d
def eDct1 (gk gv : Sl → Option D) : SE := fun ds h => match gk ds, gv ds with
  | some x, some y => match keyD x with
    | some kk => .ok (.ref h.length) (h ++ [.dct [kk] [y]])
    | none => .bad
  | _, _ => .bad
/-! ### xs.index(i), of ints -/
def allI : List D → Bool
  | [] => true
  | .int _ :: r => allI r
  | _ => false
def idxI : List D → Int → Option Nat
  | .int a :: r, i => if a = i then some 0 else (idxI r i).map (· + 1)
  | _, _ => none
def idxF (x : D) (as : List D) (h : Hc) : R D := match lstD h x, as with
  | some xs, [.int i] => if allI xs = true then (match idxI xs i with
      | some j => .ok (.int (j : Nat)) h
      | none => .bad) else .bad
  | _, _ => .bad
end
end Mp
/-! LayS: how the mirrors are reckoned. -/
namespace Mp
open PySem PySem.Spec PyProof.Rows L2
@[simp] theorem lim_eq : lim = 1000000 := Eq.trans rfl rfl
section
variable (i j : Nat) (ds : Sl) (h : Hc) (d x y : D) (f : D → D → Hc → R D) (m ma mb : SE) (t u : SB) (as : SA) (a b : SS)
@[simp] theorem eVar_s : eVar i ds h = match ds[i]? with
  | some (some d) => .ok d h
  | _ => .bad := Eq.trans rfl rfl
@[simp] theorem eC_s : eC d ds h = .ok d h := Eq.trans rfl rfl
@[simp] theorem eOp_s : eOp f ma mb ds h = (ma ds h).bd fun x h1 => (mb ds h1).bd fun y h2 => f x y h2 := Eq.trans rfl rfl
@[simp] theorem eUn_s (g : D → Hc → R D) : eUn g ma ds h = (ma ds h).bd fun x h1 => g x h1 := Eq.trans rfl rfl
@[simp] theorem isBl_bl (b : Bool) : isBl (.bl b) = some b := Eq.trans rfl rfl
@[simp] theorem eAnd_s : eAnd ma mb ds h = (ma ds h).bd fun x h1 => match isBl x with
  | some true => mb ds h1
  | some false => .ok (.bl false) h1
  | none => .bad := Eq.trans rfl rfl
@[simp] theorem eNot_s : eNot ma ds h = (ma ds h).bd fun x h1 => match isBl x with
  | some b => .ok (.bl (!b)) h1
  | none => .bad := Eq.trans rfl rfl
@[simp] theorem eIf_s : eIf t ma mb ds h = (t ds h).bd fun b h1 => if b = true then ma ds h1 else mb ds h1 := Eq.trans rfl rfl
@[simp] theorem bEx_s : bEx m ds h = (m ds h).bd fun x h1 => match isBl x with
  | some b => .ok b h1
  | none => .bad := Eq.trans rfl rfl
@[simp] theorem bTru_s : bTru m ds h = (m ds h).bd fun x h1 => match truD h1 x with
  | some b => .ok b h1
  | none => .bad := Eq.trans rfl rfl
@[simp] theorem bAnd_s : bAnd t u ds h = (t ds h).bd fun b h1 => if b = true then u ds h1 else .ok false h1 := Eq.trans rfl rfl
@[simp] theorem bOr_s : bOr t u ds h = (t ds h).bd fun b h1 => if b = true then .ok true h1 else u ds h1 := Eq.trans rfl rfl
@[simp] theorem bNot_s : bNot t ds h = (t ds h).bd fun b h1 => .ok (!b) h1 := Eq.trans rfl rfl
@[simp] theorem aNil_s : aNil ds h = .ok [] h := Eq.trans rfl rfl
@[simp] theorem aCons_s : aCons m as ds h = (m ds h).bd fun x h1 => (as ds h1).bd fun xs h2 => .ok (x :: xs) h2 := Eq.trans rfl rfl
@[simp] theorem eTup_s : eTup as ds h = (as ds h).bd fun xs h1 => if xs.length ≤ 1000000 then .ok (.tup xs) h1 else .bad := Eq.trans rfl rfl
@[simp] theorem eLst_s : eLst as ds h = (as ds h).bd fun xs h1 => if xs.length ≤ 1000000 then .ok (.lst xs) h1 else .bad := Eq.trans rfl rfl
@[simp] theorem eCell_s : eCell as ds h = (as ds h).bd fun xs h1 => if xs.length ≤ 1000000 then .ok (.ref h1.length) (h1 ++ [.lst xs]) else .bad := Eq.trans rfl rfl
@[simp] theorem eCB_s (g : List D → Hc → R D) : eCB g as ds h = (as ds h).bd fun xs h1 => g xs h1 := Eq.trans rfl rfl
@[simp] theorem eCall_s (g : Fn) : eCall g as ds h = (as ds h).bd fun xs h1 => callL g xs h1 := Eq.trans rfl rfl
@[simp] theorem eBM_s (T : String) (g : D → List D → Hc → R D) : eBM T g m as ds h = (m ds h).bd fun x h1 => if kindOk h1 T x = true then (as ds h1).bd fun xs h2 => g x xs h2 else .bad := Eq.trans rfl rfl
@[simp] theorem eIs2_s (p q : String) : eIs2 m p q ds h = (m ds h).bd fun x h1 => match tyD h1 x with
  | some t => if tyAsked.contains p = true ∧ tyAsked.contains q = true then .ok (.bl (isB t p || isB t q)) h1 else .bad
  | none => .bad := Eq.trans rfl rfl
@[simp] theorem eSl_s (g : D → Option Int → Option Int → Hc → R D) (lo hi : Option SE) : eSl g m lo hi ds h = (m ds h).bd fun x h1 => (optI lo ds h1).bd fun l h2 => (optI hi ds h2).bd fun u h3 => g x l u h3 := Eq.trans rfl rfl
@[simp] theorem optI_none : optI none ds h = .ok none h := Eq.trans rfl rfl
@[simp] theorem optI_some : optI (some m) ds h = (m ds h).bd fun d h1 => match d with
    | .int i => .ok (some i) h1
    | _ => .bad := Eq.trans rfl rfl
/-! ### statements -/
def O.sq (o : O) (b : SS) : O := match o with
  | .nx ds h => b ds h
  | o => o
@[simp] theorem sq_nx : (O.nx ds h).sq b = b ds h := Eq.trans rfl rfl
@[simp] theorem sq_rt : (O.rt d h).sq b = .rt d h := Eq.trans rfl rfl
@[simp] theorem sq_bk : (O.bk ds h).sq b = .bk ds h := Eq.trans rfl rfl
@[simp] theorem sSeq_s : sSeq a b ds h = (a ds h).sq b := by
  unfold sSeq O.sq; cases a ds h <;> rfl
@[simp] theorem sNext_s : sNext ds h = .nx ds h := Eq.trans rfl rfl
@[simp] theorem sRet_s : sRet m ds h = sBd (m ds h) ds fun d h1 => .rt d h1 := Eq.trans rfl rfl
@[simp] theorem sDrop_s : sDrop m ds h = sBd (m ds h) ds fun _ h1 => .nx ds h1 := Eq.trans rfl rfl
@[simp] theorem sIf_s : sIf t a b ds h = sBd (t ds h) ds fun c h1 => if c = true then a ds h1 else b ds h1 := Eq.trans rfl rfl
@[simp] theorem sSet_s : sSet i m ds h = sBd (m ds h) ds fun d h1 => .nx (ds.set i (some d)) h1 := Eq.trans rfl rfl
@[simp] theorem sAug_s (g : D → D → Hc → R D) : sAug i g m ds h = match ds[i]? with
  | some (some x) => sBd ((m ds h).bd fun y h1 => g x y h1) ds fun z h2 => .nx (ds.set i (some z)) h2
  | _ => .bad := Eq.trans rfl rfl
@[simp] theorem sPut_s (g : D → D → D → Hc → Option Hc) (me mo mi : SE) : sPut g me mo mi ds h = sBd (me ds h) ds fun x h1 => sBd (mo ds h1) ds fun o h2 => sBd (mi ds h2) ds fun i h3 => match g o i x h3 with
  | some h4 => .nx ds h4
  | none => .bad := Eq.trans rfl rfl
@[simp] theorem sAsg_s (p : Pt) : sAsg p m ds h = sBd (m ds h) ds fun d h1 => match bindP h1 p d ds with
  | some ds' => .nx ds' h1
  | none => .bad := Eq.trans rfl rfl
@[simp] theorem sFor_s (mi : SI) (p : Pt) : sFor mi p b ds h = sBd (mi ds h) ds fun it h1 => fl it.chk p b it.items ds h1 := Eq.trans rfl rfl
@[simp] theorem iSeq_s : iSeq m ds h = (m ds h).bd fun d h1 => match seqD h1 d with
  | some xs => .ok ⟨xs, chkQ d xs⟩ h1
  | none => .bad := Eq.trans rfl rfl
@[simp] theorem chkQ_tup (xs : List D) : chkQ (.tup xs) xs = fun _ => true := funext fun _ => chkQ_of (Eq.trans rfl rfl)
@[simp] theorem chkQ_lst (xs : List D) : chkQ (.lst xs) xs = fun _ => true := funext fun _ => chkQ_of (Eq.trans rfl rfl)
def rg1F (xs : List D) (h : Hc) : R ItD := match xs with
  | [.int j] => if -(2 ^ 62) ≤ j ∧ j < 2 ^ 62 then .ok ⟨upFrom 0 j.toNat, fun _ => true⟩ h else .bad
  | _ => .bad
def rg2F (xs : List D) (h : Hc) : R ItD := match xs with
  | [.int i, .int j] => if -(2 ^ 62) ≤ i ∧ i < 2 ^ 62 ∧ -(2 ^ 62) ≤ j ∧ j < 2 ^ 62 then .ok ⟨upFrom i (j - i).toNat, fun _ => true⟩ h else .bad
  | _ => .bad
@[simp] theorem iRg1_s : iRg1 as ds h = (as ds h).bd rg1F := Eq.trans rfl rfl
@[simp] theorem iRg2_s : iRg2 as ds h = (as ds h).bd rg2F := Eq.trans rfl rfl
/-- a number that a walk of a range can take -/
def rgOk (j : Int) : Bool := decide (-4611686018427387904 ≤ j) && decide (j < 4611686018427387904)
theorem rgOk_of {j : Int} (h1 : -4611686018427387904 ≤ j) (h2 : j < 4611686018427387904) : rgOk j = true := by unfold rgOk; simp [h1, h2]
theorem rgOk_spec {j : Int} : rgOk j = true ↔ -(2 ^ 62) ≤ j ∧ j < 2 ^ 62 := by
  unfold rgOk
  simp only [Bool.and_eq_true, decide_eq_true_eq]
  have : (2 : Int) ^ 62 = 4611686018427387904 := by decide +kernel
  rw [this]
@[simp] theorem rg1F_int (j : Int) : rg1F [.int j] h = if rgOk j = true then .ok ⟨upFrom 0 j.toNat, fun _ => true⟩ h else .bad := by
  unfold rg1F
  by_cases q : rgOk j = true
  · have := rgOk_spec.mp q
    simp only [q, this, and_self, if_true]
  · have : ¬ (-(2 ^ 62) ≤ j ∧ j < 2 ^ 62) := fun z => q (rgOk_spec.mpr z)
    simp only [q, this, if_false, Bool.false_eq_true]
@[simp] theorem rg2F_int (i j : Int) : rg2F [.int i, .int j] h = if rgOk i = true ∧ rgOk j = true then .ok ⟨upFrom i (j - i).toNat, fun _ => true⟩ h else .bad := by
  unfold rg2F
  by_cases q : rgOk i = true ∧ rgOk j = true
  · have h1 := rgOk_spec.mp q.1
    have h2 := rgOk_spec.mp q.2
    simp only [q, h1, h2, and_self, if_true]
  · have : ¬ (-(2 ^ 62) ≤ i ∧ i < 2 ^ 62 ∧ -(2 ^ 62) ≤ j ∧ j < 2 ^ 62) := fun z => q ⟨rgOk_spec.mpr ⟨z.1, z.2.1⟩, rgOk_spec.mpr z.2.2⟩
    simp only [q, this, if_false]
theorem rgOk_nat {n : Nat} (hn : n < 4000000000000000000) : rgOk (n : Int) = true := rgOk_of (by omega) (by omega)
@[simp] theorem seqD_tup (xs : List D) : seqD h (.tup xs) = some xs := Eq.trans rfl rfl
@[simp] theorem seqD_lst (xs : List D) : seqD h (.lst xs) = some xs := Eq.trans rfl rfl
@[simp] theorem seqD_ref : seqD h (.ref i) = match h[i]? with
    | some (.lst xs) => some xs
    | _ => none := Eq.trans rfl rfl
@[simp] theorem rdlD_lst (xs : List D) : rdlD h (.lst xs) = some xs := Eq.trans rfl rfl
@[simp] theorem rdlD_scr (xs : List D) : rdlD h (.scr xs) = some xs := Eq.trans rfl rfl
@[simp] theorem rdlD_ref : rdlD h (.ref i) = match h[i]? with
    | some (.lst xs) => some xs
    | _ => none := Eq.trans rfl rfl
@[simp] theorem bindP_n : bindP h (.n i) d ds = some (ds.set i (some d)) := by unfold bindP; rfl
@[simp] theorem bindP_t (ps : List Pt) : bindP h (.t ps) d ds = match seqD h d with
    | some xs => bindPs h ps xs ds
    | none => none := by
  conv => lhs; unfold bindP
  all_goals rfl
@[simp] theorem bindPs_nil : bindPs h [] [] ds = some ds := by unfold bindPs; rfl
@[simp] theorem bindPs_cons (p : Pt) (ps : List Pt) (xs : List D) : bindPs h (p :: ps) (x :: xs) ds = match bindP h p x ds with
    | some ds1 => bindPs h ps xs ds1
    | none => none := by
  conv => lhs; unfold bindPs
  all_goals rfl
/-! ### turns of a loop, its body as it is -/
section
variable {chk : Hc → Bool} {p : Pt} {b : SS} {d : D} {r : List D} {ds ds1 ds' : Sl} {h h' : Hc} {i : Nat}
theorem fl_end (hc : chk h = true) : fl chk p b [] ds h = .nx ds h := by
  unfold fl
  rw [if_pos hc]
theorem fl_nx (hc : chk h = true) (e1 : bindP h p d ds = some ds1) (e2 : b ds1 h = .nx ds' h') : fl chk p b (d :: r) ds h = fl chk p b r ds' h' := by
  conv => lhs; unfold fl
  rw [if_pos hc, e1]
  simp only [e2]
theorem fl_bk (hc : chk h = true) (e1 : bindP h p d ds = some ds1) (e2 : b ds1 h = .bk ds' h') : fl chk p b (d :: r) ds h = .nx ds' h' := by
  conv => lhs; unfold fl
  rw [if_pos hc, e1]
  simp only [e2]
theorem fl_rt {v : D} (hc : chk h = true) (e1 : bindP h p d ds = some ds1) (e2 : b ds1 h = .rt v h') : fl chk p b (d :: r) ds h = .rt v h' := by
  conv => lhs; unfold fl
  rw [if_pos hc, e1]
  simp only [e2]
/-- one turn over a name -/
theorem fl_n (e2 : b (ds.set i (some d)) h = .nx ds' h') : fl (fun _ => true) (.n i) b (d :: r) ds h = fl (fun _ => true) (.n i) b r ds' h' := fl_nx rfl (bindP_n ..) e2
end
/-! ### runs -/
def O.fin : O → R D
  | .nx _ h' => .ok .non h'
  | .rt d h' => .ok d h'
  | .ex x fs vs _ h' => .ex x fs vs h'
  | _ => .bad
@[simp] theorem fin_nx : (O.nx ds h).fin = .ok .non h := Eq.trans rfl rfl
@[simp] theorem fin_rt : (O.rt d h).fin = .ok d h := Eq.trans rfl rfl
theorem runB_s (n : Nat) (xs : List D) : runB n a xs h = (a (xs.map some ++ List.replicate (n - xs.length) none) h).fin := by
  unfold runB O.fin; cases a _ h <;> rfl
end
/-! ### values -/
section
variable (h : Hc) (i j : Int) (s t : Str) (b c : Bool)
@[simp] theorem eq_int (neg : Bool) : eqG neg (.int i) (.int j) h = .ok (.bl (if neg then !decide (i = j) else decide (i = j))) h := Eq.trans rfl rfl
@[simp] theorem eq_str (neg : Bool) : eqG neg (.str s) (.str t) h = .ok (.bl (if neg then !decide (s = t) else decide (s = t))) h := Eq.trans rfl rfl
@[simp] theorem eq_bl (neg : Bool) : eqG neg (.bl b) (.bl c) h = .ok (.bl (if neg then !decide (b = c) else decide (b = c))) h := Eq.trans rfl rfl
@[simp] theorem isN_int : isN (.int i) = false := Eq.trans rfl rfl
@[simp] theorem isN_str : isN (.str s) = false := Eq.trans rfl rfl
@[simp] theorem isN_bl : isN (.bl b) = false := Eq.trans rfl rfl
@[simp] theorem isN_non : isN .non = true := Eq.trans rfl rfl
@[simp] theorem isN_tup (xs : List D) : isN (.tup xs) = false := Eq.trans rfl rfl
@[simp] theorem flat_int : flat (.int i) = true := by unfold flat; rfl
@[simp] theorem flat_str : flat (.str s) = true := by unfold flat; rfl
@[simp] theorem flat_bl : flat (.bl b) = true := by unfold flat; rfl
@[simp] theorem flat_non : flat .non = true := by unfold flat; rfl
@[simp] theorem flat_ref (n : Nat) : flat (.ref n) = false := by unfold flat; rfl
@[simp] theorem flat_tup (xs : List D) : flat (.tup xs) = flatL xs := by conv => lhs; unfold flat
@[simp] theorem flat_lst (xs : List D) : flat (.lst xs) = flatL xs := by conv => lhs; unfold flat
@[simp] theorem flat_scr (xs : List D) : flat (.scr xs) = flatL xs := by conv => lhs; unfold flat
@[simp] theorem flatL_nil : flatL [] = true := by unfold flatL; rfl
@[simp] theorem flatL_cons (x : D) (xs : List D) : flatL (x :: xs) = (flat x && flatL xs) := by conv => lhs; unfold flatL
@[simp] theorem flatL_ints (ns : List Int) : flatL (ns.map D.int) = true := by induction ns <;> simp_all
theorem flatL_map {α : Type} (g : α → D) (hg : ∀ a, flat (g a) = true) (xs : List α) : flatL (xs.map g) = true := by induction xs <;> simp_all
@[simp] theorem flatC_lst (xs : List D) : flatC (.lst xs) = flatL xs := Eq.trans rfl rfl
@[simp] theorem tyD_int : tyD h (.int i) = some "int" := Eq.trans rfl rfl
@[simp] theorem tyD_str : tyD h (.str s) = some "str" := Eq.trans rfl rfl
@[simp] theorem tyD_bl : tyD h (.bl b) = some "bool" := Eq.trans rfl rfl
@[simp] theorem tyD_non : tyD h .non = some "NoneType" := Eq.trans rfl rfl
@[simp] theorem tyD_tup (xs : List D) : tyD h (.tup xs) = some "tuple" := Eq.trans rfl rfl
@[simp] theorem tyD_lst (xs : List D) : tyD h (.lst xs) = some "list" := Eq.trans rfl rfl
@[simp] theorem isF_s (d : D) (c : String) : isF [d, .ty c] h = match tyD h d with
    | some t => if tyAsked.contains c = true then .ok (.bl (isB t c)) h else .bad
    | none => .bad := Eq.trans rfl rfl
@[simp] theorem lenF_lst (xs : List D) : lenF [.lst xs] h = .ok (.int xs.length) h := Eq.trans rfl rfl
@[simp] theorem lenF_tup (xs : List D) : lenF [.tup xs] h = .ok (.int xs.length) h := Eq.trans rfl rfl
@[simp] theorem lenF_str : lenF [.str s] h = if s.length ≤ lim then .ok (.int s.length) h else .bad := Eq.trans rfl rfl
theorem lenF_ref {n : Nat} {xs : List D} (e : h[n]? = some (.lst xs)) : lenF [.ref n] h = .ok (.int xs.length) h := by simp [lenF, e]
@[simp] theorem tupleF_lst (xs : List D) : tupleF [.lst xs] h = .ok (.tup xs) h := Eq.trans rfl rfl
@[simp] theorem listF_lst (xs : List D) : listF [.lst xs] h = .ok (.lst xs) h := Eq.trans rfl rfl
@[simp] theorem ixF_tup (xs : List D) : ixF (.tup xs) (.int i) h = match atI xs i with
    | some d => .ok d h
    | none => .bad := Eq.trans rfl rfl
@[simp] theorem ixF_lst (xs : List D) : ixF (.lst xs) (.int i) h = match atI xs i with
    | some d => .ok d h
    | none => .bad := Eq.trans rfl rfl
theorem ixF_ref {n : Nat} {xs : List D} (e : h[n]? = some (.lst xs)) : ixF (.ref n) (.int i) h = match atI xs i with
    | some d => .ok d h
    | none => .bad := by
  simp [ixF, e]
  all_goals rfl
theorem atI_of {α : Type} {xs : List α} {i : Int} (h0 : 0 ≤ i) (h1 : i < xs.length) : atI xs i = xs[i.toNat]? := by
  unfold atI ixN
  rw [if_pos h0, if_pos h1]; rfl
theorem atI_nat' {α : Type} {xs : List α} {n : Nat} (h1 : n < xs.length) : atI xs (n : Int) = xs[n]? := by
  rw [atI_of (by omega) (by omega)]; simp
@[simp] theorem atI_0 {α : Type} (x : α) (xs : List α) : atI (x :: xs) 0 = some x := by rw [atI_of (by omega) (by simp only [List.length_cons]; omega)]; rfl
@[simp] theorem atI_1 {α : Type} (x y : α) (xs : List α) : atI (x :: y :: xs) 1 = some y := by rw [atI_of (by omega) (by simp only [List.length_cons]; omega)]; rfl
@[simp] theorem atI_2 {α : Type} (x y z : α) (xs : List α) : atI (x :: y :: z :: xs) 2 = some z := by rw [atI_of (by omega) (by simp only [List.length_cons]; omega)]; rfl
theorem cutD_take {α : Type} (xs : List α) (n : Nat) : cutD xs none (some (n : Int)) = xs.take n := by
  unfold cutD
  rw [HT.sIx_none, HT.sIx_nat]
  simp only [List.drop_zero, Nat.sub_zero]
  rw [Nat.min_comm, List.take_eq_take_iff]
  omega
theorem cutD_drop {α : Type} (xs : List α) (n : Nat) : cutD xs (some (n : Int)) none = xs.drop n := by
  unfold cutD
  rw [HT.sIx_none, HT.sIx_nat]
  rw [List.take_of_length_le (by simp only [List.length_drop]; omega)]
  by_cases h : n ≤ xs.length
  · rw [Nat.min_eq_left h]
  · rw [Nat.min_eq_right (by omega), List.drop_eq_nil_of_le (by omega), List.drop_eq_nil_of_le (by omega)]
theorem mulOk_l (h1 : -18446744073709551616 < i) (h2 : i < 18446744073709551616) : mulOk i j = true := by unfold mulOk; simp; exact .inl (.inl ⟨h1, h2⟩)
theorem mulOk_r (h1 : -18446744073709551616 < j) (h2 : j < 18446744073709551616) : mulOk i j = true := by unfold mulOk; simp; exact .inl (.inr ⟨h1, h2⟩)
theorem divOk_of (h0 : j ≠ 0) (h1 : -(2 ^ 64) < j) (h2 : j < 2 ^ 64) : divOk j = true := by
  unfold divOk
  simp only [Bool.and_eq_true, decide_eq_true_eq]
  refine ⟨h0, ?_⟩
  have : j.natAbs < 2 ^ 64 := by omega
  have := (Nat.log2_lt (n := j.natAbs) (k := 64) (by omega)).mpr this
  omega
end
/-! ### kinds -/
@[simp] theorem rgOk_1 : rgOk 1 = true := by decide +kernel
@[simp] theorem rgOk_4 : rgOk 4 = true := by decide +kernel
@[simp] theorem rgOk_60 : rgOk 60 = true := by decide +kernel
@[simp] theorem rgOk_20000 : rgOk 20000 = true := by decide +kernel
@[simp] theorem asked_bool : "bool" ∈ tyAsked := by decide +kernel
@[simp] theorem isB_bool_bool : isB "bool" "bool" = true := by decide +kernel
@[simp] theorem isB_int_bool : isB "int" "bool" = false := by decide +kernel
@[simp] theorem isB_str_bool : isB "str" "bool" = false := by decide +kernel
@[simp] theorem asked_int : "int" ∈ tyAsked := by decide +kernel
@[simp] theorem isB_int_int : isB "int" "int" = true := by decide +kernel
@[simp] theorem isB_str_int : isB "str" "int" = false := by decide +kernel
@[simp] theorem asked_str : "str" ∈ tyAsked := by decide +kernel
@[simp] theorem isB_str_str : isB "str" "str" = true := by decide +kernel
@[simp] theorem asked_tuple : "tuple" ∈ tyAsked := by decide +kernel
@[simp] theorem isB_NoneType_tuple : isB "NoneType" "tuple" = false := by decide +kernel
@[simp] theorem isB_bool_tuple : isB "bool" "tuple" = false := by decide +kernel
@[simp] theorem isB_int_tuple : isB "int" "tuple" = false := by decide +kernel
@[simp] theorem isB_str_tuple : isB "str" "tuple" = false := by decide +kernel
@[simp] theorem isB_tuple_tuple : isB "tuple" "tuple" = true := by decide +kernel
@[simp] theorem isB_list_tuple : isB "list" "tuple" = false := by decide +kernel
@[simp] theorem asked_list : "list" ∈ tyAsked := by decide +kernel
@[simp] theorem isB_tuple_list : isB "tuple" "list" = false := by decide +kernel
@[simp] theorem isB_list_list : isB "list" "list" = true := by decide +kernel
/-! ### truth and comprehensions -/
section
variable (h : Hc) (b : Bool) (i : Int) (xs : List D) (ds : Sl)
@[simp] theorem truD_bl : truD h (.bl b) = some b := Eq.trans rfl rfl
@[simp] theorem wipeD_nil : wipeD ds [] = ds := by unfold wipeD; rfl
@[simp] theorem wipeD_cons (v : Nat) (vs : List Nat) : wipeD ds (v :: vs) = (wipeD ds vs).set v none := by conv => lhs; unfold wipeD
@[simp] theorem lcR_nil (chk : Hc → Bool) (p : Pt) (own : List Nat) (c : SB) (m : SE) (acc : List D) : lcR chk p own c m ds [] acc h = if chk h = true then .ok acc h else .bad := by conv => lhs; unfold lcR
@[simp] theorem lcR_cons (chk : Hc → Bool) (p : Pt) (own : List Nat) (c : SB) (m : SE) (acc : List D) (d : D) (r : List D) : lcR chk p own c m ds (d :: r) acc h = if chk h = true then (match bindP h p d (wipeD ds own) with
      | some ds1 => (c ds1 h).nox.bd fun b h1 => if b = true then (m ds1 h1).nox.bd fun y h2 => if acc.length < lim then lcR chk p own c m ds r (acc ++ [y]) h2 else .bad else lcR chk p own c m ds r acc h1
      | none => .bad) else .bad := by
  conv => lhs; unfold lcR
  all_goals rfl
@[simp] theorem eLc_s (mi : SI) (p : Pt) (own : List Nat) (c : SB) (m : SE) : eLc mi p own c m ds h = (mi ds h).bd fun it h1 => (lcR it.chk p own c m ds it.items [] h1).bd fun xs h2 => .ok (.lst xs) h2 := Eq.trans rfl rfl
@[simp] theorem eLcC_s (mi : SI) (p : Pt) (own : List Nat) (c : SB) (m : SE) : eLcC mi p own c m ds h = (mi ds h).bd fun it h1 => (lcR it.chk p own c m ds it.items [] h1).bd fun xs h2 => .ok (.ref h2.length) (h2 ++ [.lst xs]) := Eq.trans rfl rfl
end
/-- each with its own -/
def All2 {α β : Type} (P : α → β → Prop) : List α → List β → Prop
  | [], [] => True
  | a :: as, b :: bs => P a b ∧ All2 P as bs
  | _, _ => False
theorem All2.map {α β γ : Type} {P : β → γ → Prop} {f : α → β} {g : α → γ} : ∀ {xs : List α}, (∀ x ∈ xs, P (f x) (g x)) → All2 P (xs.map f) (xs.map g)
  | [], _ => trivial
  | x :: xs, h => ⟨h x (by simp), All2.map fun y hy => h y (by simp [hy])⟩
/-- a comprehension whose element does no harm -/
theorem lcR_two {chk : Hc → Bool} {p : Pt} {own : List Nat} {m : SE} {ds : Sl} {h : Hc} (hc : chk h = true) : ∀ (items outs acc : List D), acc.length + items.length ≤ 1000000 → All2 (fun d y => ∃ ds1, bindP h p d (wipeD ds own) = some ds1 ∧ m ds1 h = .ok y h) items outs →
    lcR chk p own (fun _ h => .ok true h) m ds items acc h = .ok (acc ++ outs) h
  | [], [], acc, _, _ => by simp [hc]
  | [], _ :: _, acc, _, a => a.elim
  | _ :: _, [], acc, _, a => a.elim
  | d :: r, y :: ys, acc, hl, ⟨⟨ds1, e1, e2⟩, a⟩ => by
    have ih := lcR_two hc r ys (acc ++ [y]) (by simp at hl ⊢; omega) a
    have : acc.length < 1000000 := by simp at hl; omega
    simp [hc, e1, e2, this, ih]
/-- a comprehension whose element moves the cells -/
theorem lcR_st {chk : Hc → Bool} {p : Pt} {own : List Nat} {m : SE} {ds : Sl} (I : Hc → Prop) (P : D → Prop) (hc : ∀ h, I h → chk h = true) : ∀ (items acc : List D) (h : Hc), acc.length + items.length ≤ 1000000 → I h →
    (∀ d ∈ items, ∀ h, I h → ∃ ds1 y h', bindP h p d (wipeD ds own) = some ds1 ∧ m ds1 h = .ok y h' ∧ I h' ∧ P y) →
    ∃ outs h', lcR chk p own (fun _ h => .ok true h) m ds items acc h = .ok (acc ++ outs) h' ∧ outs.length = items.length ∧ (∀ y ∈ outs, P y) ∧ I h'
  | [], acc, h, _, i, _ => ⟨[], h, by simp [hc h i], rfl, by simp, i⟩
  | d :: r, acc, h, hl, i, st => by
    obtain ⟨ds1, y, h1, e1, e2, i1, py⟩ := st d (by simp) h i
    obtain ⟨outs, h2, e3, l3, p3, i3⟩ := lcR_st I P hc r (acc ++ [y]) h1 (by simp at hl ⊢; omega) i1 fun d hd => st d (by simp [hd])
    have : acc.length < 1000000 := by simp at hl; omega
    refine ⟨y :: outs, h2, ?_, by simp [l3], ?_, i3⟩
    · simp [hc h i, e1, e2, this, e3]
    · intro z hz
      rcases List.mem_cons.mp hz with rfl | hz
      · exact py
      · exact p3 z hz
theorem ints_of {P : Int → Prop} : ∀ {ds : List D}, (∀ y ∈ ds, ∃ v, y = .int v ∧ P v) → ∃ vs : List Int, ds = vs.map D.int ∧ ∀ v ∈ vs, P v
  | [], _ => ⟨[], rfl, by simp⟩
  | d :: r, h => by
    obtain ⟨v, e, pv⟩ := h d (by simp)
    obtain ⟨vs, e2, p2⟩ := ints_of (ds := r) fun y hy => h y (List.mem_cons_of_mem _ hy)
    subst e e2
    exact ⟨v :: vs, rfl, by
      intro z hz
      rcases List.mem_cons.mp hz with rfl | hz
      · exact pv
      · exact p2 z hz⟩
/-- a comprehension over values whose element does no harm -/
theorem lcR_map {chk : Hc → Bool} {p : Pt} {own : List Nat} {m : SE} {ds : Sl} {h : Hc} (f : D → D) (hc : chk h = true) : ∀ (items acc : List D), acc.length + items.length ≤ 1000000 → (∀ d ∈ items, ∃ ds1, bindP h p d (wipeD ds own) = some ds1 ∧ m ds1 h = .ok (f d) h) →
    lcR chk p own (fun _ h => .ok true h) m ds items acc h = .ok (acc ++ items.map f) h
  | [], acc, _, _ => by simp [hc]
  | d :: r, acc, hl, hi => by
    obtain ⟨ds1, e1, e2⟩ := hi d (by simp)
    have ih := lcR_map f hc r (acc ++ [f d]) (by simp at hl ⊢; omega) fun d hd => hi d (by simp [hd])
    have : acc.length < 1000000 := by simp at hl; omega
    simp [hc, e1, e2, this, ih]
/-! ### what LayH brings -/
section
variable (h : Hc) (i j : Int) (xs : List D) (ds : Sl)
@[simp] theorem iZip_s (as : SA) : iZip as ds h = (as ds h).bd zpF := Eq.trans rfl rfl
theorem zpF_seq {d e : D} {us ws : List D} (h1 : seqD h d = some us) (h2 : seqD h e = some ws) : zpF [d, e] h = .ok ⟨zipD us ws, chkZ d us e ws⟩ h := by
  unfold zpF
  simp only [h1, h2]
@[simp] theorem zipD_cons (x y : D) (r s : List D) : zipD (x :: r) (y :: s) = .tup [x, y] :: zipD r s := by conv => lhs; unfold zipD
@[simp] theorem zipD_nil (s : List D) : zipD [] s = [] := by unfold zipD; rfl
@[simp] theorem zipD_nil2 (s : List D) : zipD s [] = [] := by cases s <;> (unfold zipD; rfl)
@[simp] theorem enF_lst : enF [.lst xs] h = .ok ⟨enumD 0 xs, chkQ (.lst xs) xs⟩ h := Eq.trans rfl rfl
@[simp] theorem sumA_lst (ns : List Int) : sumA [.lst (ns.map D.int)] h = .ok (.int ns.sum) h := by simp [sumA]
@[simp] theorem sumA_tup (ns : List Int) : sumA [.tup (ns.map D.int)] h = .ok (.int ns.sum) h := by simp [sumA]
@[simp] theorem allF_lst (bs : List Bool) : allF [.lst (bs.map D.bl)] h = .ok (.bl (bs.all id)) h := by simp [allF, lF]
@[simp] theorem maxF_2 : maxF [.int i, .int j] h = .ok (.int (if i < j then j else i)) h := Eq.trans rfl rfl
@[simp] theorem lcmF_2 : lcmF [.int i, .int j] h = if i.natAbs.log2 < 8000 ∧ j.natAbs.log2 < 8000 then .ok (.int ((Nat.lcm i.natAbs j.natAbs : Nat) : Int)) h else .bad := Eq.trans rfl rfl
end
/-! ### calls -/
theorem refsOf_flat : ∀ {as : List D}, flatL as = true → refsOf as = []
  | [], _ => rfl
  | d :: ds, hf => by
    simp at hf
    have := refsOf_flat hf.2
    cases d <;> first | exact this | simp at hf
theorem renL_flat {rs : List Nat} : ∀ {as : List D}, flatL as = true → renL rs as = some as
  | [], _ => rfl
  | d :: ds, hf => by
    simp at hf
    have h2 := renL_flat (rs := rs) hf.2
    have h1 : renD rs d = some d := by
      cases d <;> first | (unfold renD; simp [hf.1]; done) | (simp at hf; done)
    unfold renL
    rw [h1, h2]
theorem frzD_flat {rs : List Nat} {h : Hc} {n : Nat} {d : D} (hf : flat d = true) : frzD rs h n d = some d := by
  cases n <;> simp [frzD, hf]
/-- no cell is passed -/
theorem call_pure {m : Fn} {as : List D} {d0 d : D} {h' : Hc} (ha : flatL as = true) (hm : m as [] = .ok d0 h') (hd : frzD [] h' 8 d0 = some d) (h : Hc) : callL m as h = .ok d h := by
  unfold callL
  rw [refsOf_flat ha, renL_flat ha]
  simp [cellsAt, hm, hd, wb]
theorem call_flat {m : Fn} {as : List D} {d : D} {h' : Hc} (ha : flatL as = true) (hm : m as [] = .ok d h') (hd : flat d = true) (h : Hc) : callL m as h = .ok d h := call_pure ha hm (frzD_flat hd) h
/-- a list that was made within is handed back -/
theorem frz_cell {rs : List Nat} {h : Hc} {n i : Nat} {xs : List D} (hi : rs.length ≤ i) (e : h[i]? = some (.lst xs)) (hf : flatL xs = true) : frzD rs h (n + 2) (.ref i) = some (.lst xs) := by
  have go : ∀ ys : List D, flatL ys = true → frzD.frzL (frzD rs h (n + 1)) ys = some ys := by
    intro ys
    induction ys with
    | nil => intro _; rfl
    | cons y ys ih =>
      intro hy
      simp at hy
      unfold frzD.frzL
      rw [frzD_flat hy.1, ih hy.2]
  unfold frzD
  simp only [flat_ref, Bool.false_eq_true, if_false]
  rw [if_neg (Nat.not_lt.mpr hi), e]
  simp only
  rw [go xs hf]; rfl
/-- the law's defs that draw: the second argument is the cell of the place -/
theorem call_spot {m : Fn} {R rest : List D} {i : Nat} {h h' : Hc} {k k' : Int} {d0 d : D} (hR : flatL R = true) (hr : flatL rest = true) (hi : h[i]? = some (.lst [.int k])) (hm : m (.lst R :: .ref 0 :: rest) [.lst [.int k]] = .ok d0 h') (h0 : h'[0]? = some (.lst [.int k']))
    (hd : ∀ j, frzD [j] h' 8 d0 = some d) : callL m (.lst R :: .ref i :: rest) h = .ok d (h.set i (.lst [.int k'])) := by
  have e1 : refsOf (.lst R :: .ref i :: rest) = [i] := by
    show refsOf (.ref i :: rest) = [i]
    unfold refsOf
    rw [refsOf_flat hr]; simp
  have e2 : renL [i] (.lst R :: .ref i :: rest) = some (.lst R :: .ref 0 :: rest) := by
    unfold renL
    have a1 : renD [i] (.lst R) = some (.lst R) := by unfold renD; simp [hR]
    have a2 : renL [i] (.ref i :: rest) = some (.ref 0 :: rest) := by
      unfold renL
      rw [renL_flat hr]
      have : renD [i] (.ref i) = some (.ref 0) := by unfold renD; simp [List.findIdx?_cons]
      rw [this]
    rw [a1, a2]
  obtain ⟨t, ht⟩ : ∃ t, h' = .lst [.int k'] :: t := by
    cases h' with
    | nil => simp at h0
    | cons c t => simp at h0; exact ⟨t, by rw [h0]⟩
  unfold callL
  rw [e1, e2]
  simp only [cellsAt, hi]
  simp only [List.all_cons, List.all_nil, flatC_lst, flatL_cons, flat_int, flatL_nil, Bool.and_true, Bool.and_self, if_true, hm, hd i]
  subst ht
  simp [wb]
/-- one cell is passed -/
theorem call_ref1 {m : Fn} {as as' : List D} {i : Nat} {c c' : C} {h h' : Hc} {d0 d : D} (hrefs : refsOf as = [i]) (hren : renL [i] as = some as') (hi : h[i]? = some c) (hc : flatC c = true) (hm : m as' [c] = .ok d0 h') (h0 : h'[0]? = some c')
    (hc2 : flatC c' = true) (hd : frzD [i] h' 8 d0 = some d) : callL m as h = .ok d (h.set i c') := by
  obtain ⟨t, ht⟩ : ∃ t, h' = c' :: t := by
    cases h' with
    | nil => simp at h0
    | cons x t => simp at h0; exact ⟨t, by rw [h0]⟩
  unfold callL
  rw [hrefs, hren]
  simp only [cellsAt, hi]
  simp only [List.all_cons, List.all_nil, hc, Bool.and_true, if_true, hm, hd]
  subst ht
  simp [wb, hc2]
/-! ### what LayX, LayY bring -/
section
variable (h h' : Hc) (ds ds' : Sl) (d v : D) (x : Str) (fs : List Str) (vs : List D) (m : SE) (as : SA) (a b : SS)
@[simp] theorem sRaise_s : sRaise x fs as ds h = sBd (as ds h) ds fun vs h1 => if vs.length = fs.length then .ex x fs vs.reverse ds h1 else .bad := Eq.trans rfl rfl
theorem seq_nx (e : a ds h = .nx ds' h') : sSeq a b ds h = b ds' h' := by rw [sSeq_s, e, sq_nx]
end
end Mp
/-! LayV: name = {k: v for ..} on one line. -/
namespace Mp
open PySem PySem.Spec PyProof.Rows L2
section
variable {X : Cx} {W : WX}
/-- in each block of a comprehension -/
abbrev InBlk (X : Cx) (scope : Scope) (P : Cx → Prop) : Prop := ∀ (s : Shared) (H : Hp) (C : Addr) (cl : List (Str × Addr)) (fp : List Addr), P (X.blk s H scope (compEnvC scope cl C X.env) fp)
end
/-! a def under a second name of its module -/
def DefAs (K : PySem.W.Frag) (mg : Str → Option Value) (y x qual : Str) (st : Stmt) (ps : List Str) : Prop := ∃ (f : Addr) (fd : FuncData), mg y = some (.ref f) ∧ Fun K x qual st f fd ∧ Binds K fd ps []
section
variable {P : Program} {w : World} {K : PySem.W.Frag} {mg : Str → Option Value} {base : Heap} {y x qual : Str} {st : Stmt} {ps N : List Str} {k j : Nat} {m : SS}
end
end Mp
namespace Mp
open PySem PySem.Spec PyProof.Rows L2
/-! list(d) of a dict: its keys -/
def kD : Key → D
  | .inl i => .int i
  | .inr x => .str x
def listDF (xs : List D) (h : Hc) : R D := match xs with
  | [d] => match dctD h d with
    | some (ks, _) => .ok (.lst (ks.map kD)) h
    | none => .bad
  | _ => .bad
end Mp
namespace Mp
open PySem PySem.Spec PyProof.Rows L2
/-! ### mirrors: Pre -/
def m_law_numbers_l1 : SS :=
  (sSeq (sIf (bEx (eOp eqF (eVar 3) (eC (.int 0))))
          (fun ds h => .bk ds h)
          sNext)
        (sSeq (sDrop (eBM "list" appF (eVar 1) (aCons (eOp modF (eCB intF (aCons (eVar 3) aNil)) (eC (.int 997))) aNil)))
        (sSet 3 (eOp fdivF (eVar 3) (eC (.int 997))))))
def m_law_numbers_l2 : SS :=
  (sSeq (sSet 5 (eOp modF (eCB intF (aCons (eOp addF (eOp addF (eOp mulF (eVar 2) (eC (.int 48271))) (eOp mulF (eVar 4) (eC (.int 69621)))) (eC (.int 11))) aNil)) (eC (.int 2147483647))))
        (sDrop (eBM "list" appF (eVar 1) (aCons (eOp modF (eCB intF (aCons (eOp addF (eOp mulF (eVar 5) (eC (.int 16807))) (eVar 4)) aNil)) (eC (.int 2147483629))) aNil))))
def m_law_numbers_l3 : SS :=
  (sIf (bEx (eOp geF (eVar 2) (eOp powF (eC (.int 10)) (eC (.int 18)))))
      (sSeq (sSet 3 (eVar 2))
      (sFor (iRg1 (aCons (eC (.int 60)) aNil)) (.n 4)
        m_law_numbers_l1))
      (sFor (iRg1 (aCons (eC (.int 4)) aNil)) (.n 4)
        m_law_numbers_l2))
/-- _law_numbers: script 0, row 1, cell 2, left 3, k 4, mixed 5 -/
def m_law_numbers : Fn := runB 6
  (sSeq (sSet 1 (eCell aNil))
  (sSeq (sFor (iSeq (eSl slF (eVar 0) none (some (eC (.int 63))))) (.n 2)
    m_law_numbers_l3)
  (sSeq (sIf (bEx (eOp eqF (eCB lenF (aCons (eVar 1) aNil)) (eC (.int 0))))
    (sDrop (eBM "list" appF (eVar 1) (aCons (eC (.int 0)) aNil)))
    sNext)
  (sRet (eVar 1)))))
def m_law_gcd_l1 : SS :=
  (sSeq (sIf (bEx (eOp eqF (eVar 3) (eC (.int 0))))
      (fun ds h => .bk ds h)
      sNext)
    (sSeq (sSet 5 (eOp modF (eCB intF (aCons (eVar 2) aNil)) (eVar 3)))
    (sSeq (sSet 2 (eVar 3))
    (sSet 3 (eVar 5)))))
/-- _law_gcd: one 0, other 1, left 2, right 3, k 4, rest 5 -/
def m_law_gcd : Fn := runB 6
  (sSeq (sSet 2 (eIf (bEx (eOp geF (eVar 0) (eC (.int 0)))) (eVar 0) (eUn negF (eVar 0))))
  (sSeq (sSet 3 (eIf (bEx (eOp geF (eVar 1) (eC (.int 0)))) (eVar 1) (eUn negF (eVar 1))))
  (sSeq (sFor (iRg1 (aCons (eC (.int 20000)) aNil)) (.n 4)
    m_law_gcd_l1)
  (sRet (eVar 2)))))
/-- _law_red: n 0, d 1, common 2 -/
def m_law_red : Nat → Fn
  | 0 => fun _ _ => .bad
  | n + 1 => runB 3 (sSeq (sIf (bEx (eOp ltF (eVar 1) (eC (.int 0))))
    (sRet (eCall (m_law_red n) (aCons (eUn negF (eVar 0)) (aCons (eUn negF (eVar 1)) aNil))))
    sNext)
  (sSeq (sSet 2 (eCall m_law_gcd (aCons (eVar 0) (aCons (eVar 1) aNil))))
  (sSeq (sIf (bEx (eOp eqF (eVar 2) (eC (.int 0))))
    (sRet (eTup (aCons (eC (.int 0)) (aCons (eC (.int 1)) aNil))))
    sNext)
  (sRet (eTup (aCons (eOp fdivF (eVar 0) (eVar 2)) (aCons (eOp fdivF (eVar 1) (eVar 2)) aNil)))))))
/-- _law_draw: row 0, at 1, limit 2, mixed 3 -/
def m_law_draw : Fn := runB 4
  (sSeq (sIf (bEx (eOp ltF (eVar 1) (eCB lenF (aCons (eVar 0) aNil))))
    (sRet (eOp modF (eCB intF (aCons (eOp ixF (eVar 0) (eVar 1)) aNil)) (eVar 2)))
    sNext)
  (sSeq (sSet 3 (eOp modF (eCB intF (aCons (eOp addF (eOp addF (eOp mulF (eOp ixF (eVar 0) (eOp modF (eCB intF (aCons (eVar 1) aNil)) (eCB lenF (aCons (eVar 0) aNil)))) (eC (.int 40692))) (eOp mulF (eVar 1) (eC (.int 7919)))) (eC (.int 3))) aNil)) (eC (.int 2147483399))))
  (sRet (eOp modF (eCB intF (aCons (eOp modF (eCB intF (aCons (eOp addF (eOp mulF (eVar 3) (eC (.int 48271))) (eVar 1)) aNil)) (eC (.int 2147483647))) aNil)) (eVar 2)))))
/-- _law_take: row 0, spot 1, limit 2 -/
def m_law_take : Fn := runB 3
  (sSeq (sPut setF (eOp addF (eOp ixF (eVar 1) (eC (.int 0))) (eC (.int 1))) (eVar 1) (eC (.int 0)))
  (sRet (eCall m_law_draw (aCons (eVar 0) (aCons (eOp subF (eOp ixF (eVar 1) (eC (.int 0))) (eC (.int 1))) (aCons (eVar 2) aNil))))))
/-- _law_wide: row 0, spot 1, limit 2, first 3, second 4, third 5 -/
def m_law_wide : Fn := runB 6
  (sSeq (sSet 3 (eCall m_law_take (aCons (eVar 0) (aCons (eVar 1) (aCons (eC (.int 997)) aNil)))))
  (sSeq (sSet 4 (eCall m_law_take (aCons (eVar 0) (aCons (eVar 1) (aCons (eC (.int 997)) aNil)))))
  (sSeq (sSet 5 (eCall m_law_take (aCons (eVar 0) (aCons (eVar 1) (aCons (eC (.int 997)) aNil)))))
  (sRet (eOp modF (eCB intF (aCons (eOp addF (eOp addF (eOp mulF (eVar 3) (eC (.int 994009))) (eOp mulF (eVar 4) (eC (.int 997)))) (eVar 5)) aNil)) (eVar 2))))))
/-- _law_frac: row 0, spot 1, top 2, low 3 -/
def m_law_frac : Fn := runB 4
  (sSeq (sSet 2 (eIf (bEx (eOp eqF (eCall m_law_take (aCons (eVar 0) (aCons (eVar 1) (aCons (eC (.int 2)) aNil)))) (eC (.int 0)))) (eOp subF (eCall m_law_wide (aCons (eVar 0) (aCons (eVar 1) (aCons (eC (.int 2000001)) aNil)))) (eC (.int 1000000))) (eOp subF (eCall m_law_take (aCons (eVar 0) (aCons (eVar 1) (aCons (eC (.int 21)) aNil)))) (eC (.int 10)))))
  (sSeq (sSet 3 (eOp addF (eC (.int 1)) (eIf (bEx (eOp eqF (eCall m_law_take (aCons (eVar 0) (aCons (eVar 1) (aCons (eC (.int 2)) aNil)))) (eC (.int 0)))) (eCall m_law_wide (aCons (eVar 0) (aCons (eVar 1) (aCons (eC (.int 1000000)) aNil)))) (eCall m_law_take (aCons (eVar 0) (aCons (eVar 1) (aCons (eC (.int 12)) aNil)))))))
  (sRet (eCall (m_law_red 24) (aCons (eVar 2) (aCons (eVar 3) aNil))))))
def m_law_so_l1 (self : Fn) : SS :=
  (sIf (bNot (bTru (eCall self (aCons (eOp ixF (eVar 0) (eVar 2)) (aCons (eOp ixF (eVar 1) (eVar 2)) aNil)))))
        (sRet (eC (.bl false)))
        sNext)
/-- _law_so: found 0, meant 1, k 2 -/
def m_law_so : Nat → Fn
  | 0 => fun _ _ => .bad
  | n + 1 => runB 3 (sSeq (sIf (bEx (eOp isnF (eVar 1) (eC .non)))
    (sRet (eOp isnF (eVar 0) (eC .non)))
    sNext)
  (sSeq (sIf (bTru (eCB isF (aCons (eVar 1) (aCons (eC (.ty "tuple")) aNil))))
    (sSeq (sIf (bOr (bNot (bTru (eCB isF (aCons (eVar 0) (aCons (eC (.ty "tuple")) aNil))))) (bEx (eOp neF (eCB lenF (aCons (eVar 0) aNil)) (eCB lenF (aCons (eVar 1) aNil)))))
      (sRet (eC (.bl false)))
      sNext)
    (sSeq (sFor (iRg1 (aCons (eCB lenF (aCons (eVar 1) aNil)) aNil)) (.n 2)
      (m_law_so_l1 (m_law_so n)))
    (sRet (eC (.bl true)))))
    sNext)
  (sSeq (sIf (bOr (bTru (eCB isF (aCons (eVar 1) (aCons (eC (.ty "bool")) aNil)))) (bTru (eCB isF (aCons (eVar 0) (aCons (eC (.ty "bool")) aNil)))))
    (sRet (eAnd (eCB isF (aCons (eVar 1) (aCons (eC (.ty "bool")) aNil))) (eAnd (eCB isF (aCons (eVar 0) (aCons (eC (.ty "bool")) aNil))) (eOp eqF (eVar 0) (eVar 1)))))
    sNext)
  (sSeq (sIf (bTru (eCB isF (aCons (eVar 1) (aCons (eC (.ty "int")) aNil))))
    (sRet (eAnd (eCB isF (aCons (eVar 0) (aCons (eC (.ty "int")) aNil))) (eOp eqF (eVar 0) (eVar 1))))
    sNext)
  (sRet (eAnd (eCB isF (aCons (eVar 1) (aCons (eC (.ty "str")) aNil))) (eAnd (eCB isF (aCons (eVar 0) (aCons (eC (.ty "str")) aNil))) (eOp eqF (eVar 0) (eVar 1)))))))))
/-- _law_add: one 0, other 1 -/
def m_law_add : Fn := runB 2
  (sRet (eCall (m_law_red 24) (aCons (eOp addF (eOp mulF (eOp ixF (eVar 0) (eC (.int 0))) (eOp ixF (eVar 1) (eC (.int 1)))) (eOp mulF (eOp ixF (eVar 1) (eC (.int 0))) (eOp ixF (eVar 0) (eC (.int 1))))) (aCons (eOp mulF (eOp ixF (eVar 0) (eC (.int 1))) (eOp ixF (eVar 1) (eC (.int 1)))) aNil))))
/-- _law_sub: one 0, other 1 -/
def m_law_sub : Fn := runB 2
  (sRet (eCall (m_law_red 24) (aCons (eOp subF (eOp mulF (eOp ixF (eVar 0) (eC (.int 0))) (eOp ixF (eVar 1) (eC (.int 1)))) (eOp mulF (eOp ixF (eVar 1) (eC (.int 0))) (eOp ixF (eVar 0) (eC (.int 1))))) (aCons (eOp mulF (eOp ixF (eVar 0) (eC (.int 1))) (eOp ixF (eVar 1) (eC (.int 1)))) aNil))))
/-- _law_mul: one 0, other 1 -/
def m_law_mul : Fn := runB 2
  (sRet (eCall (m_law_red 24) (aCons (eOp mulF (eOp ixF (eVar 0) (eC (.int 0))) (eOp ixF (eVar 1) (eC (.int 0)))) (aCons (eOp mulF (eOp ixF (eVar 0) (eC (.int 1))) (eOp ixF (eVar 1) (eC (.int 1)))) aNil))))
def m_law_listed_c1 (self : Fn) : SE :=
  (eCall self (aCons (eVar 1) aNil))
/-- _law_listed: value 0, one 1 -/
def m_law_listed : Nat → Fn
  | 0 => fun _ _ => .bad
  | n + 1 => runB 2 (sSeq (sIf (bTru (eCB isF (aCons (eVar 0) (aCons (eC (.ty "tuple")) aNil))))
    (sRet (eLc (iSeq (eVar 0)) (.n 1) [1] (fun _ h => .ok true h) (m_law_listed_c1 (m_law_listed n))))
    sNext)
  (sRet (eVar 0)))
/-- _law_handed: row 0, spot 1, value 2 -/
def m_law_handed : Fn := runB 3
  (sRet (eIf (bEx (eOp eqF (eCall m_law_take (aCons (eVar 0) (aCons (eVar 1) (aCons (eC (.int 2)) aNil)))) (eC (.int 0)))) (eCall (m_law_listed 24) (aCons (eVar 2) aNil)) (eVar 2)))
/-- _law_div: one 0, other 1 -/
def m_law_div : Fn := runB 2
  (sRet (eCall (m_law_red 24) (aCons (eOp mulF (eOp ixF (eVar 0) (eC (.int 0))) (eOp ixF (eVar 1) (eC (.int 1)))) (aCons (eOp mulF (eOp ixF (eVar 0) (eC (.int 1))) (eOp ixF (eVar 1) (eC (.int 0)))) aNil))))
/-- _law_less: one 0, other 1 -/
def m_law_less : Fn := runB 2
  (sRet (eOp ltF (eOp mulF (eOp ixF (eVar 0) (eC (.int 0))) (eOp ixF (eVar 1) (eC (.int 1)))) (eOp mulF (eOp ixF (eVar 1) (eC (.int 0))) (eOp ixF (eVar 0) (eC (.int 1))))))
end Mp
/-! PreSpec: what the laws' own helpers reckon. -/
namespace Mp
open PySem PySem.Spec PyProof.Rows L2
/-! ### loops -/
theorem upFrom_int {lo : Int} {n : Nat} : ∀ d ∈ upFrom lo n, ∃ j : Int, d = .int j ∧ lo ≤ j ∧ j < lo + n := by
  intro d hd
  unfold upFrom at hd
  obtain ⟨i, hi, rfl⟩ := List.mem_map.mp hd
  have := List.mem_range.mp hi
  exact ⟨_, rfl, by omega, by omega⟩
theorem upFrom_len {lo : Int} {n : Nat} : (upFrom lo n).length = n := by unfold upFrom; simp
theorem cutD_map {α β : Type} (f : α → β) (xs : List α) (lo hi : Option Int) : cutD (xs.map f) lo hi = (cutD xs lo hi).map f := by
  unfold cutD
  simp [List.map_take, List.map_drop]
theorem cutD_len {α : Type} (xs : List α) (lo hi : Option Int) : (cutD xs lo hi).length ≤ xs.length := by
  unfold cutD
  simp only [List.length_take, List.length_drop]; omega
/-! ### the row of numbers -/
theorem dok997 : divOk 997 = true := divOk_of _ (by decide) (by decide) (by decide)
theorem numbers_l1 (sc : Option D) (c : Option D) (x5 : Option D) : ∀ (items : List D) (l : Int) (x4 : Option D) (acc : List Int), (∃ y3 y4 acc', fl (fun _ => true) (.n 4) m_law_numbers_l1 items [sc, some (.ref 0), c, some (.int l), x4, x5] [.lst (acc.map D.int)] = .nx [sc, some (.ref 0), c, y3, y4, x5] [.lst ((acc' : List Int).map D.int)] ∧ acc'.length ≤ acc.length + items.length) ∨ 999999 < acc.length + items.length
  | [], l, x4, acc => .inl ⟨some (.int l), x4, acc, by simp [fl], by simp⟩
  | d :: r, l, x4, acc => by
    by_cases hb : acc.length + (d :: r).length ≤ 999999
    · left
      unfold fl
      simp only [if_true, bindP_n]
      by_cases hl : l = 0
      · subst hl
        exact ⟨some (.int 0), some d, acc, by simp [m_law_numbers_l1], by simp⟩
      · have hacc : acc.length < 1000000 := by simp at hb; omega
        have e1 : m_law_numbers_l1 [sc, some (.ref 0), c, some (.int l), some d, x5] [.lst (acc.map D.int)] = .nx [sc, some (.ref 0), c, some (.int (l.fdiv 997)), some d, x5] [.lst ((acc ++ [l % 997]).map D.int)] := by
          simp [m_law_numbers_l1, hl, kindOk, appF, hacc, dok997]
        simp only [List.set_cons_succ, List.set_cons_zero, e1]
        rcases numbers_l1 sc c x5 r (l.fdiv 997) (some d) (acc ++ [l % 997]) with ⟨y3, y4, acc', e, hlen⟩ | z
        · exact ⟨y3, y4, acc', e, by simp at hlen ⊢; omega⟩
        · simp at z hb; omega
    · right; omega
theorem numbers_l2 (sc x3 : Option D) (c : Int) : ∀ (items : List D) (x4 x5 : Option D) (acc : List Int), (∀ d ∈ items, ∃ j : Int, d = .int j) → acc.length + items.length ≤ 999999 →
    ∃ y4 y5 acc', fl (fun _ => true) (.n 4) m_law_numbers_l2 items [sc, some (.ref 0), some (.int c), x3, x4, x5] [.lst (acc.map D.int)] = .nx [sc, some (.ref 0), some (.int c), x3, y4, y5] [.lst ((acc' : List Int).map D.int)] ∧ acc'.length ≤ acc.length + items.length
  | [], x4, x5, acc, _, _ => ⟨x4, x5, acc, by simp [fl], by simp⟩
  | d :: r, x4, x5, acc, hi, hb => by
    obtain ⟨j, rfl⟩ := hi d (by simp)
    have hacc : acc.length < 1000000 := by simp at hb; omega
    unfold fl
    simp only [if_true, bindP_n, List.set_cons_succ, List.set_cons_zero]
    have m1 : mulOk c 48271 = true := mulOk_r _ _ (by decide) (by decide)
    have m2 : mulOk j 69621 = true := mulOk_r _ _ (by decide) (by decide)
    have m3 : ∀ z, mulOk z 16807 = true := fun z => mulOk_r _ _ (by decide) (by decide)
    obtain ⟨v, w, e1⟩ : ∃ v w, m_law_numbers_l2 [sc, some (.ref 0), some (.int c), x3, some (.int j), x5] [.lst (acc.map D.int)] = .nx [sc, some (.ref 0), some (.int c), x3, some (.int j), some v] [.lst ((acc ++ [w]).map D.int)] := by
      simp [m_law_numbers_l2, kindOk, appF, hacc, m1, m2, m3]
    simp only [e1]
    obtain ⟨y4, y5, acc', e, hlen⟩ := numbers_l2 sc x3 c r (some (.int j)) (some v) (acc ++ [w]) (fun d hd => hi d (by simp [hd])) (by simp at hb ⊢; omega)
    exact ⟨y4, y5, acc', e, by simp at hlen ⊢; omega⟩
theorem numbers_l3 (sc : Option D) : ∀ (zs : List Int) (x2 x3 x4 x5 : Option D) (acc : List Int), acc.length + 60 * zs.length ≤ 999999 →
    ∃ y2 y3 y4 y5 acc', fl (fun _ => true) (.n 2) m_law_numbers_l3 (zs.map D.int) [sc, some (.ref 0), x2, x3, x4, x5] [.lst (acc.map D.int)] = .nx [sc, some (.ref 0), y2, y3, y4, y5] [.lst ((acc' : List Int).map D.int)] ∧ acc'.length ≤ acc.length + 60 * zs.length
  | [], x2, x3, x4, x5, acc, _ => ⟨x2, x3, x4, x5, acc, by simp [fl], by simp⟩
  | c :: r, x2, x3, x4, x5, acc, hb => by
    simp only [List.length_cons] at hb
    have key : ∃ y2 y3 y4 y5 acc', m_law_numbers_l3 [sc, some (.ref 0), some (.int c), x3, x4, x5] [.lst (acc.map D.int)] = .nx [sc, some (.ref 0), y2, y3, y4, y5] [.lst ((acc' : List Int).map D.int)] ∧ acc'.length ≤ acc.length + 60 := by
      by_cases hc : (1000000000000000000 : Int) ≤ c
      · rcases numbers_l1 sc (some (.int c)) x5 (upFrom 0 60) c x4 acc with ⟨y3, y4, acc', e, hl⟩ | z
        · exact ⟨some (.int c), y3, y4, x5, acc', by simp [m_law_numbers_l3, hc, e], by rw [upFrom_len] at hl; exact hl⟩
        · rw [upFrom_len] at z; omega
      · obtain ⟨y4, y5, acc', e, hl⟩ := numbers_l2 sc x3 c (upFrom 0 4) x4 x5 acc (fun d hd => by obtain ⟨j, e, _⟩ := upFrom_int d hd; exact ⟨j, e⟩) (by rw [upFrom_len]; omega)
        exact ⟨some (.int c), x3, y4, y5, acc', by simp [m_law_numbers_l3, hc, e], by rw [upFrom_len] at hl; omega⟩
    obtain ⟨y2, y3, y4, y5, acc1, e1, h1⟩ := key
    obtain ⟨z2, z3, z4, z5, acc2, e2, h2⟩ := numbers_l3 sc r y2 y3 y4 y5 acc1 (by omega)
    refine ⟨z2, z3, z4, z5, acc2, ?_, by simp only [List.length_cons]; omega⟩
    rw [List.map_cons]
    unfold fl
    simp only [if_true, bindP_n, List.set_cons_succ, List.set_cons_zero, e1]
    exact e2
theorem numbers_raw (b : Bool) (ns : List Int) (hn : ns.length ≤ 63) : ∃ row : List Int, row ≠ [] ∧ row.length ≤ 4000 ∧ m_law_numbers [scD b (ns.map D.int)] [] = .ok (.ref 0) [.lst (row.map D.int)] := by
  unfold m_law_numbers
  rw [runB_s]
  have e0 : ∀ h, slF (scD b (ns.map D.int)) none (some 63) h = .ok (.lst (cutD (ns.map D.int) none (some 63))) h := fun h => by cases b <;> simp [scD, slF]
  simp [e0, cutD_map]
  generalize hz : cutD ns none (some 63) = zs
  have hzl : zs.length ≤ 63 := by rw [← hz]; exact Nat.le_trans (cutD_len _ _ _) hn
  obtain ⟨y2, y3, y4, y5, row, e, hl⟩ := numbers_l3 (some (scD b (ns.map D.int))) zs none none none none [] (by simp; omega)
  simp only [List.map_nil] at e
  rw [e]
  by_cases hr : row = []
  · subst hr
    exact ⟨[0], by simp, by simp, by simp [kindOk, appF, lenF]⟩
  · have : (row.map D.int).length ≠ 0 := by simpa using hr
    refine ⟨row, hr, by simp at hl; omega, ?_⟩
    simp [lenF, hr]
/-- the row of numbers that a law makes of its script -/
theorem numbers_ok (b : Bool) (ns : List Int) (hn : ns.length ≤ 63) : ∃ row : List Int, row ≠ [] ∧ row.length ≤ 4000 ∧ ∀ h, callL m_law_numbers [scD b (ns.map D.int)] h = .ok (.lst (row.map D.int)) h := by
  obtain ⟨row, h1, h2, e⟩ := numbers_raw b ns hn
  exact ⟨row, h1, h2, call_pure (by cases b <;> simp [scD]) e (frz_cell (by simp) rfl (by simp))⟩
/-! ### draws -/
def draw (row : List Int) (at_ lim : Int) : Int :=
  if at_ < row.length then row.getD at_.toNat 0 % lim else ((((row.getD (at_ % row.length).toNat 0 * 40692 + at_ * 7919 + 3) % 2147483399) * 48271 + at_) % 2147483647) % lim
theorem draw_range {row : List Int} {a l : Int} (hl : 0 < l) : 0 ≤ draw row a l ∧ draw row a l < l := by
  unfold draw
  split
  · exact ⟨Int.emod_nonneg _ (by omega), Int.emod_lt_of_pos _ hl⟩
  · exact ⟨Int.emod_nonneg _ (by omega), Int.emod_lt_of_pos _ hl⟩
theorem draw_ok {row : List Int} (hr : row ≠ []) {a l : Int} (ha : 0 ≤ a) (hl : 0 < l) (h : Hc) : callL m_law_draw [.lst (row.map D.int), .int a, .int l] h = .ok (.int (draw row a l)) h := by
  refine call_flat (h' := []) (by simp) ?_ (by simp) h
  unfold m_law_draw
  rw [runB_s]
  have hp : 0 < row.length := by cases row <;> simp_all
  have m1 : ∀ z, mulOk z 40692 = true := fun z => mulOk_r _ _ (by decide) (by decide)
  have m2 : mulOk a 7919 = true := mulOk_r _ _ (by decide) (by decide)
  have m3 : ∀ z, mulOk z 48271 = true := fun z => mulOk_r _ _ (by decide) (by decide)
  by_cases hc : a < row.length
  · have e : atI (row.map D.int) a = some (.int (row.getD a.toNat 0)) := by
      rw [atI_of ha (by simpa using hc)]
      have : a.toNat < row.length := by omega
      simp [this]
    simp [hc, e, hl, draw]
  · have h1 := Int.emod_nonneg a (show (row.length : Int) ≠ 0 by omega)
    have h2 := Int.emod_lt_of_pos a (show (0 : Int) < row.length by omega)
    have e : atI (row.map D.int) (a % row.length) = some (.int (row.getD (a % row.length).toNat 0)) := by
      rw [atI_of h1 (by simpa using h2)]
      have : (a % row.length).toNat < row.length := by omega
      simp [this]
    simp [hc, e, hl, draw, m1, m2, m3, hp]
theorem take_raw {row : List Int} (hr : row ≠ []) {k l : Int} (hk : 0 ≤ k) (hl : 0 < l) : m_law_take [.lst (row.map D.int), .ref 0, .int l] [.lst [.int k]] = .ok (.int (draw row k l)) [.lst [.int (k + 1)]] := by
  unfold m_law_take
  rw [runB_s]
  simp [ixF, setF, ixN, draw_ok hr hk hl]
theorem take_ok {row : List Int} (hr : row ≠ []) {k l : Int} {i : Nat} {h : Hc} (hi : h[i]? = some (.lst [.int k])) (hk : 0 ≤ k) (hl : 0 < l) : callL m_law_take [.lst (row.map D.int), .ref i, .int l] h = .ok (.int (draw row k l)) (h.set i (.lst [.int (k + 1)])) :=
  call_spot (by simp) (by simp) hi (take_raw hr hk hl) (by simp) fun j => frzD_flat (by simp)
end Mp
/-! PreSpecB: draws that are wide, and the law's own quotients. -/
namespace Mp
open PySem PySem.Spec PyProof.Rows L2
section
variable {row : List Int} (hr : row ≠ [])
include hr
theorem take_ex {k l : Int} {i : Nat} {h : Hc} (hi : h[i]? = some (.lst [.int k])) (hk : 0 ≤ k) (hl : 0 < l) : ∃ v k', 0 ≤ v ∧ v < l ∧ 0 ≤ k' ∧ callL m_law_take [.lst (row.map D.int), .ref i, .int l] h = .ok (.int v) (h.set i (.lst [.int k'])) :=
  ⟨draw row k l, k + 1, (draw_range hl).1, (draw_range hl).2, by omega, take_ok hr hi hk hl⟩
theorem wide_ex {k l : Int} {i : Nat} {h : Hc} (hi : h[i]? = some (.lst [.int k])) (hk : 0 ≤ k) (hl : 0 < l) : ∃ v k', 0 ≤ v ∧ v < l ∧ 0 ≤ k' ∧ callL m_law_wide [.lst (row.map D.int), .ref i, .int l] h = .ok (.int v) (h.set i (.lst [.int k'])) := by
  obtain ⟨v1, k1, a1, b1, c1, e1⟩ := take_ex hr (h := [.lst [.int k]]) (i := 0) (l := 997) rfl hk (by decide)
  obtain ⟨v2, k2, a2, b2, c2, e2⟩ := take_ex hr (h := [.lst [.int k1]]) (i := 0) (l := 997) rfl c1 (by decide)
  obtain ⟨v3, k3, a3, b3, c3, e3⟩ := take_ex hr (h := [.lst [.int k2]]) (i := 0) (l := 997) rfl c2 (by decide)
  refine ⟨(v1 * 994009 + v2 * 997 + v3) % l, k3, Int.emod_nonneg _ (by omega), Int.emod_lt_of_pos _ hl, c3, call_spot (h' := [.lst [.int k3]]) (by simp) (by simp) hi ?_ rfl fun j => frzD_flat (by simp)⟩
  unfold m_law_wide
  rw [runB_s]
  have m1 : mulOk v1 994009 = true := mulOk_r _ _ (by decide) (by decide)
  have m2 : mulOk v2 997 = true := mulOk_r _ _ (by decide) (by decide)
  simp at e1 e2 e3
  simp [e1, e2, e3, m1, m2, hl]
end
/-! ### the gcd -/
theorem gcd_l1_zero {o1 o2 x4 x5 : Option D} {a : Int} {h : Hc} : m_law_gcd_l1 [o1, o2, some (.int a), some (.int 0), x4, x5] h = .bk [o1, o2, some (.int a), some (.int 0), x4, x5] h := by
  simp [m_law_gcd_l1]
theorem gcd_l1_step {o1 o2 x4 x5 : Option D} {a b : Nat} {h : Hc} (hb : b ≠ 0) (h1 : b < 2 ^ 8000) : m_law_gcd_l1 [o1, o2, some (.int a), some (.int b), x4, x5] h = .nx [o1, o2, some (.int b), some (.int ((a % b : Nat) : Int)), x4, some (.int ((a % b : Nat) : Int))] h := by
  have : ¬ ((b : Int) = 0) := by omega
  have hp : (0 : Int) < b := by omega
  simp [m_law_gcd_l1, hb, hp, Nat.pos_of_ne_zero hb]
theorem gcd_loop : ∀ (m : Nat) (items : List D) (o1 o2 x4 x5 : Option D) (a b : Nat) (h : Hc), m ≤ 8000 → b < 2 ^ m → 2 * m + 1 ≤ items.length →
    ∃ y4 y5, fl (fun _ => true) (.n 4) m_law_gcd_l1 items [o1, o2, some (.int a), some (.int b), x4, x5] h = .nx [o1, o2, some (.int (Nat.gcd a b : Nat)), some (.int 0), y4, y5] h
  | m, [], _, _, _, _, _, _, _, _, _, hl => by simp at hl
  | 0, d :: r, o1, o2, x4, x5, a, b, h, _, hb, _ => by
    have : b = 0 := by simpa using hb
    subst this
    refine ⟨some d, x5, ?_⟩
    unfold fl
    simp only [if_true, bindP_n, List.set_cons_succ, List.set_cons_zero, Int.ofNat_zero, Nat.gcd_zero_right, Int.natCast_zero, gcd_l1_zero]
  | m + 1, d :: [], o1, o2, x4, x5, a, b, h, _, hb, hl => by simp at hl
  | m + 1, d :: d' :: r, o1, o2, x4, x5, a, b, h, hm, hb, hl => by
    by_cases h0 : b = 0
    · subst h0
      refine ⟨some d, x5, ?_⟩
      unfold fl
      simp only [if_true, bindP_n, List.set_cons_succ, List.set_cons_zero, Int.natCast_zero, Nat.gcd_zero_right, gcd_l1_zero]
    · have hb8 : b < 2 ^ 8000 := Nat.lt_of_lt_of_le hb (Nat.pow_le_pow_right (by decide) hm)
      have hlt : a % b < b := Nat.mod_lt _ (by omega)
      have g1 : Nat.gcd a b = Nat.gcd b (a % b) := by rw [Nat.gcd_comm a b, Nat.gcd_rec, Nat.gcd_comm]
      unfold fl
      simp only [if_true, bindP_n, List.set_cons_succ, List.set_cons_zero, gcd_l1_step h0 hb8]
      by_cases h2 : a % b = 0
      · refine ⟨some d', some (.int 0), ?_⟩
        unfold fl
        simp only [if_true, bindP_n, List.set_cons_succ, List.set_cons_zero, h2, Int.natCast_zero, gcd_l1_zero, g1, Nat.gcd_zero_right]
      · unfold fl
        simp only [if_true, bindP_n, List.set_cons_succ, List.set_cons_zero, gcd_l1_step h2 (Nat.lt_trans hlt hb8)]
        have g2 : Nat.gcd a b = Nat.gcd (a % b) (b % (a % b)) := by rw [g1, Nat.gcd_comm b, Nat.gcd_rec, Nat.gcd_comm]
        rw [g2]
        refine gcd_loop m r o1 o2 _ _ _ _ h (by omega) ?_ (by simp at hl; omega)
        have hh : b % (a % b) < a % b := Nat.mod_lt _ (by omega)
        have hq : 1 ≤ b / (a % b) := Nat.div_pos (by omega) (by omega)
        have hd := Nat.div_add_mod b (a % b)
        have hm1 : a % b * 1 ≤ a % b * (b / (a % b)) := Nat.mul_le_mul_left _ hq
        rw [Nat.pow_succ] at hb
        omega
theorem gcd_ok (a b : Int) (hb : b.natAbs < 2 ^ 8000) (h : Hc) : callL m_law_gcd [.int a, .int b] h = .ok (.int (Int.gcd a b : Nat)) h := by
  refine call_flat (h' := []) (by simp) ?_ (by simp) h
  unfold m_law_gcd
  rw [runB_s]
  obtain ⟨y4, y5, e⟩ := gcd_loop 8000 (upFrom 0 20000) (some (.int a)) (some (.int b)) none none a.natAbs b.natAbs [] (Nat.le_refl _) hb (by rw [upFrom_len]; decide)
  have key : ∀ (f : O → O) (x : Option D), x = some (.int (a.natAbs : Int)) → f = f := fun _ _ _ => rfl
  by_cases h1 : 0 ≤ a <;> by_cases h2 : 0 ≤ b
  · have q1 : (a.natAbs : Int) = a := by omega
    have q2 : (b.natAbs : Int) = b := by omega
    rw [q1, q2] at e
    simp [h1, h2, e, Int.gcd]
  · have q1 : (a.natAbs : Int) = a := by omega
    have q2 : (b.natAbs : Int) = -b := by omega
    rw [q1, q2] at e
    simp [h1, h2, e, Int.gcd]
  · have q1 : (a.natAbs : Int) = -a := by omega
    have q2 : (b.natAbs : Int) = b := by omega
    rw [q1, q2] at e
    simp [h1, h2, e, Int.gcd]
  · have q1 : (a.natAbs : Int) = -a := by omega
    have q2 : (b.natAbs : Int) = -b := by omega
    rw [q1, q2] at e
    simp [h1, h2, e, Int.gcd]
/-! ### quotients -/
/-- the number that divides both, with the sign of the divisor -/
def sg (n d : Int) : Int := if d < 0 then -(Int.gcd n d : Int) else (Int.gcd n d : Int)
/-- a quotient in lowest terms -/
def rdc (n d : Int) : D := .tup [.int (n.fdiv (sg n d)), .int (d.fdiv (sg n d))]
@[simp] theorem flat_rdc (n d : Int) : flat (rdc n d) = true := by simp [rdc]
theorem sg_ne {n d : Int} (hd : d ≠ 0) : sg n d ≠ 0 := by
  have := Int.gcd_ne_zero_right (a := n) hd
  unfold sg; split <;> omega
theorem sg_divOk {n d : Int} (hd : d ≠ 0) (hb : d.natAbs < 2 ^ 8000) : divOk (sg n d) = true := by
  have h1 : Int.gcd n d ≤ d.natAbs := Nat.le_of_dvd (by omega) (Int.gcd_dvd_natAbs_right n d)
  have h2 : (sg n d).natAbs = Int.gcd n d := by unfold sg; split <;> simp
  have h3 := Int.gcd_ne_zero_right (a := n) hd
  unfold divOk
  simp only [Bool.and_eq_true, decide_eq_true_eq]
  refine ⟨sg_ne hd, ?_⟩
  rw [h2]
  have := (Nat.log2_lt h3).mpr (Nat.lt_of_le_of_lt h1 hb)
  omega
theorem red_pos (n : Nat) {a d : Int} (hd : 0 < d) (hb : d.natAbs < 2 ^ 8000) (h : Hc) : callL (m_law_red (n + 1)) [.int a, .int d] h = .ok (rdc a d) h := by
  refine call_flat (h' := []) (by simp) ?_ (by simp) h
  unfold m_law_red
  rw [runB_s]
  have h3 := Int.gcd_ne_zero_right (a := a) (show d ≠ 0 by omega)
  have h4 := sg_divOk (n := a) (show d ≠ 0 by omega) hb
  have h5 : ¬ d < 0 := by omega
  have h6 : sg a d = (Int.gcd a d : Int) := by unfold sg; rw [if_neg h5]
  rw [h6] at h4
  have h7 : ¬ ((Int.gcd a d : Int) = 0) := by omega
  have h8 : ¬ (a = 0 ∧ d = 0) := by omega
  simp [gcd_ok a d hb, h4, h5, h8, rdc, h6]
theorem red_ok (n : Nat) {a d : Int} (hd : d ≠ 0) (hb : d.natAbs < 2 ^ 8000) (h : Hc) : callL (m_law_red (n + 2)) [.int a, .int d] h = .ok (rdc a d) h := by
  by_cases hp : 0 < d
  · exact red_pos _ hp hb h
  · have hn : 0 < -d := by omega
    refine call_flat (h' := []) (by simp) ?_ (by simp) h
    have e := red_pos n (a := -a) hn (by rwa [Int.natAbs_neg]) []
    have er : rdc (-a) (-d) = rdc a d := by
      unfold rdc sg
      have h1 : ¬ (-d < 0) := by omega
      have h2 : d < 0 := by omega
      rw [if_neg h1, if_pos h2]
      simp only [Int.gcd_neg, Int.neg_gcd]
      rw [← Int.neg_fdiv_neg a, ← Int.neg_fdiv_neg d]; simp
    have h2 : d < 0 := by omega
    unfold m_law_red
    rw [runB_s]
    simp [h2, e, er]
end Mp
/-! PreSpecC: sums of quotients, the same answer, what is handed in. -/
namespace Mp
open PySem PySem.Spec PyProof.Rows L2
/-- a quotient as a value -/
abbrev qv (n d : Int) : D := .tup [.int n, .int d]
/-- a number that is small -/
def sm (m : Nat) (n : Int) : Prop := n.natAbs < 2 ^ m
theorem sm_mul {a b : Nat} {x y : Int} (hx : sm a x) (hy : sm b y) : sm (a + b) (x * y) := by
  unfold sm at *
  rw [Int.natAbs_mul, Nat.pow_add]
  exact Nat.mul_lt_mul'' hx hy
theorem sm_le {a b : Nat} {x : Int} (h : a ≤ b) (hx : sm a x) : sm b x := Nat.lt_of_lt_of_le hx (Nat.pow_le_pow_right (by decide) h)
theorem mulOk_sm {x y : Int} (hx : sm 8000 x) (hy : sm 8000 y) : mulOk x y = true := by
  unfold mulOk
  have l : ∀ {z : Int}, sm 8000 z → z.natAbs.log2 < 8000 := by
    intro z hz
    by_cases h0 : z.natAbs = 0
    · rw [h0]; decide
    · exact (Nat.log2_lt h0).mpr hz
  have := l hx; have := l hy
  simp only [Bool.or_eq_true, decide_eq_true_eq]
  right; omega
theorem law_add_ok {a b c d : Int} (ha : sm 4000 a) (hb : sm 4000 b) (hc : sm 4000 c) (hd : sm 4000 d) (b0 : b ≠ 0) (d0 : d ≠ 0) (h : Hc) : callL m_law_add [qv a b, qv c d] h = .ok (rdc (a * d + c * b) (b * d)) h := by
  refine call_flat (h' := []) (by simp) ?_ (by simp) h
  have s := @sm_le 4000 8000
  have m1 := mulOk_sm (s (by decide) ha) (s (by decide) hd)
  have m2 := mulOk_sm (s (by decide) hc) (s (by decide) hb)
  have m3 := mulOk_sm (s (by decide) hb) (s (by decide) hd)
  have e := red_ok 22 (a := a * d + c * b) (d := b * d) (Int.mul_ne_zero b0 d0) (sm_mul hb hd) []
  unfold m_law_add
  rw [runB_s]
  simp at e
  simp [m1, m2, m3, e]
theorem law_less_ok {a b c d : Int} (ha : sm 4000 a) (hb : sm 4000 b) (hc : sm 4000 c) (hd : sm 4000 d) (h : Hc) : callL m_law_less [qv a b, qv c d] h = .ok (.bl (decide (a * d < c * b))) h := by
  refine call_flat (h' := []) (by simp) ?_ (by simp) h
  have s := @sm_le 4000 8000
  have m1 := mulOk_sm (s (by decide) ha) (s (by decide) hd)
  have m2 := mulOk_sm (s (by decide) hc) (s (by decide) hb)
  unfold m_law_less
  rw [runB_s]
  simp [m1, m2]
/-! ### a quotient that is drawn -/
theorem rdc_pos {n d : Int} (hd : 0 < d) : ∃ p q, rdc n d = qv p q ∧ Int.gcd p q = 1 ∧ 1 ≤ q ∧ q ≤ d ∧ p.natAbs ≤ n.natAbs := by
  have h1 : ¬ d < 0 := by omega
  have h3 := Int.gcd_ne_zero_right (a := n) (show d ≠ 0 by omega)
  have hg : (0 : Int) < (Int.gcd n d : Int) := by omega
  have e : ∀ x : Int, x.fdiv (Int.gcd n d : Int) = x / (Int.gcd n d : Int) := fun x => Int.fdiv_eq_ediv_of_nonneg x (by omega)
  refine ⟨n / (Int.gcd n d : Int), d / (Int.gcd n d : Int), by unfold rdc sg qv; rw [if_neg h1, e, e], ?_, ?_, ?_, ?_⟩
  · exact Int.gcd_ediv_gcd_ediv_gcd (by omega)
  · exact Int.ediv_pos_of_pos_of_dvd hd (by omega) (Int.gcd_dvd_right ..)
  · exact Int.ediv_le_self _ (by omega)
  · exact Int.natAbs_ediv_le_natAbs _ _
section
variable {row : List Int} (hr : row ≠ [])
include hr
theorem frac_ex {k : Int} {i : Nat} {h : Hc} (hi : h[i]? = some (.lst [.int k])) (hk : 0 ≤ k) : ∃ p q k', Int.gcd p q = 1 ∧ 1 ≤ q ∧ q ≤ 1000000 ∧ p.natAbs ≤ 1000001 ∧ 0 ≤ k' ∧ callL m_law_frac [.lst (row.map D.int), .ref i] h = .ok (qv p q) (h.set i (.lst [.int k'])) := by
  have key : ∃ t k1, t.natAbs ≤ 1000001 ∧ 0 ≤ k1 ∧ (eIf (bEx (eOp eqF (eCall m_law_take (aCons (eVar 0) (aCons (eVar 1) (aCons (eC (.int 2)) aNil)))) (eC (.int 0)))) (eOp subF (eCall m_law_wide (aCons (eVar 0) (aCons (eVar 1) (aCons (eC (.int 2000001)) aNil)))) (eC (.int 1000000))) (eOp subF (eCall m_law_take (aCons (eVar 0) (aCons (eVar 1) (aCons (eC (.int 21)) aNil)))) (eC (.int 10)))) [some (.lst (row.map D.int)), some (.ref 0), none, none] [.lst [.int k]] = .ok (.int t) [.lst [.int k1]] := by
    obtain ⟨v1, k1, a1, b1, c1, e1⟩ := take_ex hr (h := [.lst [.int k]]) (i := 0) (l := 2) rfl hk (by decide)
    simp at e1
    by_cases hv : v1 = 0
    · obtain ⟨v2, k2, a2, b2, c2, e2⟩ := wide_ex hr (h := [.lst [.int k1]]) (i := 0) (l := 2000001) rfl c1 (by decide)
      simp at e2
      exact ⟨v2 - 1000000, k2, by omega, c2, by simp [e1, hv, e2]⟩
    · obtain ⟨v2, k2, a2, b2, c2, e2⟩ := take_ex hr (h := [.lst [.int k1]]) (i := 0) (l := 21) rfl c1 (by decide)
      simp at e2
      exact ⟨v2 - 10, k2, by omega, c2, by simp [e1, hv, e2]⟩
  obtain ⟨t, k1, ht, hk1, e1⟩ := key
  have key : ∃ t' k2, 0 ≤ t' ∧ t' < 1000000 ∧ 0 ≤ k2 ∧ (eIf (bEx (eOp eqF (eCall m_law_take (aCons (eVar 0) (aCons (eVar 1) (aCons (eC (.int 2)) aNil)))) (eC (.int 0)))) (eCall m_law_wide (aCons (eVar 0) (aCons (eVar 1) (aCons (eC (.int 1000000)) aNil)))) (eCall m_law_take (aCons (eVar 0) (aCons (eVar 1) (aCons (eC (.int 12)) aNil))))) [some (.lst (row.map D.int)), some (.ref 0), some (.int t), none] [.lst [.int k1]] = .ok (.int t') [.lst [.int k2]] := by
    obtain ⟨v1, k1', a1, b1, c1, e1⟩ := take_ex hr (h := [.lst [.int k1]]) (i := 0) (l := 2) rfl hk1 (by decide)
    simp at e1
    by_cases hv : v1 = 0
    · obtain ⟨v2, k2, a2, b2, c2, e2⟩ := wide_ex hr (h := [.lst [.int k1']]) (i := 0) (l := 1000000) rfl c1 (by decide)
      simp at e2
      exact ⟨v2, k2, by omega, by omega, c2, by simp [e1, hv, e2]⟩
    · obtain ⟨v2, k2, a2, b2, c2, e2⟩ := take_ex hr (h := [.lst [.int k1']]) (i := 0) (l := 12) rfl c1 (by decide)
      simp at e2
      exact ⟨v2, k2, by omega, by omega, c2, by simp [e1, hv, e2]⟩
  obtain ⟨t', k2, ht1, ht2, hk2, e2⟩ := key
  obtain ⟨p, q, epq, g1, g2, g3, g4⟩ := rdc_pos (n := t) (d := 1 + t') (by omega)
  refine ⟨p, q, k2, g1, g2, by omega, by omega, hk2, ?_⟩
  have e3 := red_ok 22 (a := t) (d := 1 + t') (by omega) (by
    have : (1 + t').natAbs < 2 ^ 20 := by omega
    exact Nat.lt_of_lt_of_le this (Nat.pow_le_pow_right (by decide) (by decide))) [.lst [.int k2]]
  refine call_spot (rest := []) (d0 := qv p q) (h' := [.lst [.int k2]]) (by simp) (by simp) hi ?_ rfl fun j => frzD_flat (by simp)
  unfold m_law_frac
  rw [runB_s]
  rw [sSeq_s, sSet_s]
  simp only [List.map_cons, List.map_nil, List.length_cons, List.length_nil, List.replicate, List.cons_append, List.nil_append, Nat.reduceAdd, Nat.reduceSub]
  rw [e1]
  simp only [sBd_ok, sq_nx, List.set_cons_succ, List.set_cons_zero]
  rw [sSeq_s, sSet_s]
  rw [eOp_s]
  simp only [eC_s, R.bd_ok]
  rw [e2]
  simp only [R.bd_ok, addF_int, sBd_ok, sq_nx, List.set_cons_succ, List.set_cons_zero]
  simp at e3
  simp [e3, epq]
end
/-! ### the same answer -/
def soFit : Nat → D → Bool
  | 0, _ => false
  | n + 1, d => match d with
    | .int _ => true
    | .bl _ => true
    | .str _ => true
    | .non => true
    | .tup xs => decide (xs.length < 1000000) && xs.all (soFit n)
    | _ => false
theorem soFit_flat : ∀ {n : Nat} {d : D}, soFit n d = true → flat d = true
  | 0, d, h => by simp [soFit] at h
  | n + 1, d, h => by
    cases d <;> simp [soFit] at h ⊢
    rename_i xs
    obtain ⟨_, h⟩ := h
    have : ∀ ys : List D, (∀ a ∈ ys, soFit n a = true) → flatL ys = true := by
      intro ys
      induction ys with
      | nil => simp
      | cons x ys ih =>
        intro h
        simp at h ⊢
        exact ⟨soFit_flat h.1, ih h.2⟩
    exact this xs h
theorem so_loop {n : Nat} {xs : List D} (ih : ∀ d h, soFit n d = true → callL (m_law_so n) [d, d] h = .ok (.bl true) h) (hx : ∀ x ∈ xs, soFit n x = true) : ∀ (items : List D) (x2 : Option D), (∀ d ∈ items, ∃ j : Int, d = .int j ∧ 0 ≤ j ∧ j < xs.length) → ∃ y2, fl (fun _ => true) (.n 2) (m_law_so_l1 (m_law_so n)) items [some (.tup xs), some (.tup xs), x2] [] = .nx [some (.tup xs), some (.tup xs), y2] []
  | [], x2, _ => ⟨x2, by simp [fl]⟩
  | d :: r, x2, hi => by
    obtain ⟨j, rfl, j0, j1⟩ := hi d (by simp)
    obtain ⟨y2, e⟩ := so_loop ih hx r (some (.int j)) fun d hd => hi d (by simp [hd])
    refine ⟨y2, ?_⟩
    have hj : j.toNat < xs.length := by omega
    have e2 : atI xs j = some xs[j.toNat] := by rw [atI_of j0 j1]; simp [hj]
    have e3 := ih xs[j.toNat] [] (hx _ (List.getElem_mem hj))
    unfold fl
    simp [m_law_so_l1, e2, e3]
    exact e
theorem so_step {n : Nat} (ih : ∀ d h, soFit n d = true → callL (m_law_so n) [d, d] h = .ok (.bl true) h) (d : D) (h : Hc) (hf : soFit (n + 1) d = true) : callL (m_law_so (n + 1)) [d, d] h = .ok (.bl true) h := by
  have hfl := soFit_flat hf
  refine call_flat (h' := []) (by simp [hfl]) ?_ (by simp) h
  unfold m_law_so
  rw [runB_s]
  cases d <;> simp [soFit] at hf
  · simp
  · simp
  · simp
  · simp
  · rename_i xs
    obtain ⟨hl, hx⟩ := hf
    obtain ⟨y2, e⟩ := so_loop ih hx (upFrom 0 xs.length) none (fun d hd => by
      obtain ⟨j, e, j0, j1⟩ := upFrom_int d hd
      exact ⟨j, e, j0, by omega⟩)
    simp [e, rgOk_nat (show xs.length < 4000000000000000000 by omega)]
theorem so_refl : ∀ (n : Nat) (d : D) (h : Hc), soFit n d = true → callL (m_law_so n) [d, d] h = .ok (.bl true) h := by
  intro n
  induction n with
  | zero => intro d h hf; simp [soFit] at hf
  | succ n ih => exact so_step ih
/-! ### what is handed in -/
/-- a row of two, as a tuple or as a list -/
def pq (b : Bool) (n d : Int) : D := if b then .lst [.int n, .int d] else qv n d
@[simp] theorem flat_pq (b : Bool) (n d : Int) : flat (pq b n d) = true := by cases b <;> simp [pq]
end Mp
namespace Mp
open PySem PySem.Spec PyProof.Rows L2
/-! ### mirrors: Quo -/
/-- lowest: n 0, d 1, common 2 -/
def m_lowest : Fn := runB 3
  (sSeq (sSet 2 (eCB gcdF (aCons (eVar 0) (aCons (eVar 1) aNil))))
  (sSeq (sIf (bEx (eOp ltF (eVar 1) (eC (.int 0))))
    (sSet 2 (eUn negF (eVar 2)))
    sNext)
  (sRet (eTup (aCons (eOp fdivF (eVar 0) (eVar 2)) (aCons (eOp fdivF (eVar 1) (eVar 2)) aNil))))))
/-- is_integer: x 0 -/
def m_is_integer : Fn := runB 1
  (sRet (eAnd (eCB isF (aCons (eVar 0) (aCons (eC (.ty "int")) aNil))) (eNot (eCB isF (aCons (eVar 0) (aCons (eC (.ty "bool")) aNil))))))
/-- reduced: n 0, d 1 -/
def m_reduced : Fn := runB 2
  (sSeq (sIf (bNot (bTru (eCall m_is_integer (aCons (eVar 0) aNil))))
    (sRaise "BadValue" ["at"] (aCons (eC (.int 0)) aNil))
    sNext)
  (sSeq (sIf (bOr (bNot (bTru (eCall m_is_integer (aCons (eVar 1) aNil)))) (bEx (eOp eqF (eVar 1) (eC (.int 0)))))
    (sRaise "BadValue" ["at"] (aCons (eC (.int 1)) aNil))
    sNext)
  (sRet (eCall m_lowest (aCons (eVar 0) (aCons (eVar 1) aNil))))))
/-- is_sequence: x 0 -/
def m_is_sequence : Fn := runB 1
  (sRet (eIs2 (eVar 0) "list" "tuple"))
/-- is_row: x 0, least 1, most 2 -/
def m_is_row : Fn := runB 3
  (sRet (eAnd (eCall m_is_sequence (aCons (eVar 0) aNil)) (eAnd (eOp leF (eVar 1) (eCB lenF (aCons (eVar 0) aNil))) (eOp leF (eCB lenF (aCons (eVar 0) aNil)) (eVar 2)))))
/-- is_fraction: x 0 -/
def m_is_fraction : Fn := runB 1
  (sSeq (sIf (bOr (bNot (bTru (eCall m_is_row (aCons (eVar 0) (aCons (eC (.int 2)) (aCons (eC (.int 2)) aNil)))))) (bOr (bNot (bTru (eCall m_is_integer (aCons (eOp ixF (eVar 0) (eC (.int 0))) aNil)))) (bNot (bTru (eCall m_is_integer (aCons (eOp ixF (eVar 0) (eC (.int 1))) aNil))))))
    (sRet (eC (.bl false)))
    sNext)
  (sRet (eAnd (eOp geF (eOp ixF (eVar 0) (eC (.int 1))) (eC (.int 1))) (eOp eqF (eCB gcdF (aCons (eOp ixF (eVar 0) (eC (.int 0))) (aCons (eOp ixF (eVar 0) (eC (.int 1))) aNil))) (eC (.int 1))))))
/-- _look: a 0, b 1 -/
def m_look : Fn := runB 2
  (sSeq (sIf (bNot (bTru (eCall m_is_fraction (aCons (eVar 0) aNil))))
    (sRaise "BadValue" ["at"] (aCons (eC (.int 0)) aNil))
    sNext)
  (sIf (bNot (bTru (eCall m_is_fraction (aCons (eVar 1) aNil))))
    (sRaise "BadValue" ["at"] (aCons (eC (.int 1)) aNil))
    sNext))
/-- plus: a 0, b 1 -/
def m_plus : Fn := runB 2
  (sSeq (sDrop (eCall m_look (aCons (eVar 0) (aCons (eVar 1) aNil))))
  (sRet (eCall m_lowest (aCons (eOp addF (eOp mulF (eOp ixF (eVar 0) (eC (.int 0))) (eOp ixF (eVar 1) (eC (.int 1)))) (eOp mulF (eOp ixF (eVar 1) (eC (.int 0))) (eOp ixF (eVar 0) (eC (.int 1))))) (aCons (eOp mulF (eOp ixF (eVar 0) (eC (.int 1))) (eOp ixF (eVar 1) (eC (.int 1)))) aNil)))))
/-- minus: a 0, b 1 -/
def m_minus : Fn := runB 2
  (sSeq (sDrop (eCall m_look (aCons (eVar 0) (aCons (eVar 1) aNil))))
  (sRet (eCall m_lowest (aCons (eOp subF (eOp mulF (eOp ixF (eVar 0) (eC (.int 0))) (eOp ixF (eVar 1) (eC (.int 1)))) (eOp mulF (eOp ixF (eVar 1) (eC (.int 0))) (eOp ixF (eVar 0) (eC (.int 1))))) (aCons (eOp mulF (eOp ixF (eVar 0) (eC (.int 1))) (eOp ixF (eVar 1) (eC (.int 1)))) aNil)))))
/-- times: a 0, b 1 -/
def m_times : Fn := runB 2
  (sSeq (sDrop (eCall m_look (aCons (eVar 0) (aCons (eVar 1) aNil))))
  (sRet (eCall m_lowest (aCons (eOp mulF (eOp ixF (eVar 0) (eC (.int 0))) (eOp ixF (eVar 1) (eC (.int 0)))) (aCons (eOp mulF (eOp ixF (eVar 0) (eC (.int 1))) (eOp ixF (eVar 1) (eC (.int 1)))) aNil)))))
/-- over: a 0, b 1 -/
def m_over : Fn := runB 2
  (sSeq (sDrop (eCall m_look (aCons (eVar 0) (aCons (eVar 1) aNil))))
  (sSeq (sIf (bEx (eOp eqF (eOp ixF (eVar 1) (eC (.int 0))) (eC (.int 0))))
    (sRaise "BadValue" ["at"] (aCons (eC (.int 1)) aNil))
    sNext)
  (sRet (eCall m_lowest (aCons (eOp mulF (eOp ixF (eVar 0) (eC (.int 0))) (eOp ixF (eVar 1) (eC (.int 1)))) (aCons (eOp mulF (eOp ixF (eVar 0) (eC (.int 1))) (eOp ixF (eVar 1) (eC (.int 0)))) aNil))))))
/-- less: a 0, b 1 -/
def m_less : Fn := runB 2
  (sSeq (sDrop (eCall m_look (aCons (eVar 0) (aCons (eVar 1) aNil))))
  (sRet (eOp ltF (eOp mulF (eOp ixF (eVar 0) (eC (.int 0))) (eOp ixF (eVar 1) (eC (.int 1)))) (eOp mulF (eOp ixF (eVar 1) (eC (.int 0))) (eOp ixF (eVar 0) (eC (.int 1)))))))
end Mp
/-! QuoSpec: what the program's quotients reckon. -/
namespace Mp
open PySem PySem.Spec PyProof.Rows L2
theorem lowest_ok {n d : Int} (hd : d ≠ 0) (hb : d.natAbs < 2 ^ 8000) (h : Hc) : callL m_lowest [.int n, .int d] h = .ok (rdc n d) h := by
  refine call_flat (h' := []) (by simp) ?_ (by simp) h
  have h4 := sg_divOk (n := n) hd hb
  unfold m_lowest
  rw [runB_s]
  have e : ((n.natAbs.gcd d.natAbs : Nat) : Int) = (Int.gcd n d : Int) := rfl
  by_cases h5 : d < 0
  · have h6 : sg n d = -(Int.gcd n d : Int) := by unfold sg; rw [if_pos h5]
    rw [h6] at h4
    simp [h5, e, h4, rdc, h6]
  · have h6 : sg n d = (Int.gcd n d : Int) := by unfold sg; rw [if_neg h5]
    rw [h6] at h4
    simp [h5, e, h4, rdc, h6]
theorem is_integer_int (i : Int) (h : Hc) : callL m_is_integer [.int i] h = .ok (.bl true) h := by
  refine call_flat (h' := []) (by simp) ?_ (by simp) h
  unfold m_is_integer
  rw [runB_s]
  simp
theorem reduced_ok {n d : Int} (hd : d ≠ 0) (hb : d.natAbs < 2 ^ 8000) (h : Hc) : callL m_reduced [.int n, .int d] h = .ok (rdc n d) h := by
  refine call_flat (h' := []) (by simp) ?_ (by simp) h
  unfold m_reduced
  rw [runB_s]
  simp [is_integer_int, lowest_ok hd hb, hd]
theorem is_row_pq (b : Bool) (n d : Int) (h : Hc) : callL m_is_row [pq b n d, .int 2, .int 2] h = .ok (.bl true) h := by
  have e : ∀ h, callL m_is_sequence [pq b n d] h = .ok (.bl true) h := fun h => by
    refine call_flat (h' := []) (by simp) ?_ (by simp) h
    unfold m_is_sequence
    rw [runB_s]
    cases b <;> simp [pq]
  refine call_flat (h' := []) (by simp) ?_ (by simp) h
  unfold m_is_row
  rw [runB_s]
  simp [e]
  cases b <;> simp [pq]
@[simp] theorem ix_pq0 (b : Bool) (n d : Int) (h : Hc) : ixF (pq b n d) (.int 0) h = .ok (.int n) h := by cases b <;> simp [pq]
@[simp] theorem ix_pq1 (b : Bool) (n d : Int) (h : Hc) : ixF (pq b n d) (.int 1) h = .ok (.int d) h := by cases b <;> simp [pq]
theorem is_fraction_ok (b : Bool) {n d : Int} (hd : 1 ≤ d) (hg : Int.gcd n d = 1) (h : Hc) : callL m_is_fraction [pq b n d] h = .ok (.bl true) h := by
  have e : n.natAbs.gcd d.natAbs = 1 := hg
  refine call_flat (h' := []) (by simp) ?_ (by simp) h
  unfold m_is_fraction
  rw [runB_s]
  simp [is_row_pq, is_integer_int, hd, e]
theorem look_ok (b c : Bool) {n d m e : Int} (hd : 1 ≤ d) (hg : Int.gcd n d = 1) (he : 1 ≤ e) (hf : Int.gcd m e = 1) (h : Hc) : callL m_look [pq b n d, pq c m e] h = .ok .non h := by
  refine call_flat (h' := []) (by simp) ?_ (by simp) h
  unfold m_look
  rw [runB_s]
  simp [is_fraction_ok b hd hg, is_fraction_ok c he hf]
section
variable (x y : Bool) {a b c d : Int} (ha : sm 4000 a) (hb : sm 4000 b) (hc : sm 4000 c) (hd : sm 4000 d) (b1 : 1 ≤ b) (gab : Int.gcd a b = 1) (d1 : 1 ≤ d) (gcd_ : Int.gcd c d = 1) (h : Hc)
include ha hb hc hd b1 gab d1 gcd_
theorem plus_ok : callL m_plus [pq x a b, pq y c d] h = .ok (rdc (a * d + c * b) (b * d)) h := by
  refine call_flat (h' := []) (by simp) ?_ (by simp) h
  have s := @sm_le 4000 8000
  have m1 := mulOk_sm (s (by decide) ha) (s (by decide) hd)
  have m2 := mulOk_sm (s (by decide) hc) (s (by decide) hb)
  have m3 := mulOk_sm (s (by decide) hb) (s (by decide) hd)
  have e := lowest_ok (n := a * d + c * b) (d := b * d) (Int.mul_ne_zero (by omega) (by omega)) (sm_mul hb hd) []
  have e2 := look_ok x y b1 gab d1 gcd_ []
  unfold m_plus
  rw [runB_s]
  simp [m1, m2, m3, e, e2]
theorem less_ok : callL m_less [pq x a b, pq y c d] h = .ok (.bl (decide (a * d < c * b))) h := by
  refine call_flat (h' := []) (by simp) ?_ (by simp) h
  have s := @sm_le 4000 8000
  have m1 := mulOk_sm (s (by decide) ha) (s (by decide) hd)
  have m2 := mulOk_sm (s (by decide) hc) (s (by decide) hb)
  have e2 := look_ok x y b1 gab d1 gcd_ []
  unfold m_less
  rw [runB_s]
  simp [m1, m2, e2]
end
end Mp
/-! LayU: three sequences walked side by side, each a list or a tuple. -/
namespace Mp
open PySem PySem.Spec PyProof.Rows L2
/-- three sequences, their items in new triples -/
def ItT3 (t1 t2 t3 : Bool) (K : PySem.W.Frag) (a b c : Addr) : It where
  go i H := ∃ (xs ys zs : List V) (x y z : V), SqX t1 K H a xs ∧ SqX t2 K H b ys ∧ SqX t3 K H c zs ∧ xs[i]? = some x ∧ ys[i]? = some y ∧ zs[i]? = some z
  yld i H v H' := ∃ T x y z, v = .ref T ∧ H T = none ∧ H' = upd H T (.tup [x, y, z]) ∧ (∀ xs, SqX t1 K H a xs → xs[i]? = some x) ∧ (∀ ys, SqX t2 K H b ys → ys[i]? = some y) ∧ ∀ zs, SqX t3 K H c zs → zs[i]? = some z
  stop i H := ∃ xs ys zs : List V, SqX t1 K H a xs ∧ SqX t2 K H b ys ∧ SqX t3 K H c zs ∧ (xs.length ≤ i ∨ ys.length ≤ i ∨ zs.length ≤ i)
section
variable {prog : Program} {w : World} {A : Around}
/-- a walk of i turns or more: at its end, or under way -/
theorem drawsA (t : Bool) (hh : A.handled = none) (it a : Addr) (hne : a ≠ it) (its : Array Value) (i : Nat) : ∃ (n : Nat) (P : Nat → Value → Prop) (St : Nat → Heap → Prop), Draws prog w A it [it, a] n P St ∧ (∀ g, ItX t g it a i → CoX t g a its → St i g) ∧ i ≤ n ∧ (its.size ≤ i → i = n) := by
  by_cases c : its.size ≤ i
  · exact ⟨i, _, _, drawsE t hh it a its i c, fun g h1 h2 => ⟨rfl, h1, h2⟩, Nat.le_refl _, fun _ => rfl⟩
  · exact ⟨its.size, _, _, drawsX t hh it a hne its, fun g h1 h2 => ⟨h1, h2⟩, by omega, fun z => absurd z c⟩
end
theorem turn_trip {P : Program} {w : World} {K : PySem.W.Frag} {elts : List Expr} {kk : Nat} {tpos : Pos} {t1 t2 t3 : Bool} {a b c z TI TO i1 i2 i3 : Addr} (S : ZipSep3 z TI TO i1 i2 i3 [i1, a] [i2, b] [i3, c]) (n1 : a ≠ i1) (n2 : b ≠ i2) (n3 : c ≠ i3) :
    Turn P w K (.Tuple elts kk tpos) (ItT3 t1 t2 t3 K a b c) [z, TI, TO, i1, i2, i3] z (fun i g => IsZip g z TI TO .none ∧ IsTupOf3 g TI (.ref i1) (.ref i2) (.ref i3) ∧ (∃ x y u, IsTupOf3 g TO x y u) ∧ ItX t1 g i1 a i ∧ ItX t2 g i2 b i ∧ ItX t3 g i3 c i) where
  mem := by simp
  obj := fun i g st c hc => by
    obtain ⟨hz, hTI, ⟨x, y, u, hTO⟩, h1, h2, h3⟩ := st
    have it : ∀ {t : Bool} {it a : Addr}, ItX t g it a i → ∃ o, g.get? it = some o ∧ ∀ v, ¬ (o.data = .cell v) := fun {t it a} h => by
      cases t
      · obtain ⟨o, e, _, d⟩ := (show g.IsListIter it a i from h)
        exact ⟨o, e, fun v q => by rw [d] at q; cases q⟩
      · obtain ⟨o, e, _, d⟩ := (show g.IsTupleIter it a i from h)
        exact ⟨o, e, fun v q => by rw [d] at q; cases q⟩
    simp only [List.mem_cons, List.not_mem_nil, or_false] at hc
    rcases hc with q | q | q | q | q | q
    · rw [q]; exact ⟨_, hz, fun v q => nomatch q⟩
    · rw [q]; exact ⟨_, hTI, fun v q => nomatch q⟩
    · rw [q]; exact ⟨_, hTO, fun v q => nomatch q⟩
    · rw [q]; exact it h1
    · rw [q]; exact it h2
    · rw [q]; exact it h3
  keep := fun i g g' st k => by
    obtain ⟨hz, hTI, ⟨x, y, u, hTO⟩, h1, h2, h3⟩ := st
    exact ⟨k z (by simp) _ hz, k TI (by simp) _ hTI, ⟨x, y, u, k TO (by simp) _ hTO⟩, h1.at fun o q => k i1 (by simp) o q, h2.at fun o q => k i2 (by simp) o q, h3.at fun o q => k i3 (by simp) o q⟩
  item := by
    intro X hP hw hK hc i pins s σ H E I hf st hg
    subst hP hw hK
    obtain ⟨hz, hTI, ⟨x0, y0, u0, hTO⟩, h1, h2, h3⟩ := st
    obtain ⟨xs, ys, zs, x, y, u, hqx, hqy, hqz, hx, hy, hu⟩ := hg
    obtain ⟨its, rv, p⟩ := inv_seqX I hqx
    obtain ⟨its2, rv2, p2⟩ := inv_seqX I hqy
    obtain ⟨its3, rv3, p3⟩ := inv_seqX I hqz
    obtain ⟨u1, hu1, ru⟩ := rv.get hx
    obtain ⟨u2, hu2, ru2⟩ := rv2.get hy
    obtain ⟨u3, hu3, ru3⟩ := rv3.get hu
    have ltz : z < s.heap.objs.size := Heap.lt_size hz
    have l1 : i < its.toArray.size := by
      have := (List.getElem?_eq_some_iff.mp hu1).1
      simpa using this
    have l2 : i < its2.toArray.size := by
      have := (List.getElem?_eq_some_iff.mp hu2).1
      simpa using this
    have l3 : i < its3.toArray.size := by
      have := (List.getElem?_eq_some_iff.mp hu3).1
      simpa using this
    refine wpAny_pyNext_zipD3_item S (drawsX t1 (show X.A.in1.handled = none from I.ok.hd hc) i1 a n1 its.toArray) (drawsX t2 (show X.A.in1.handled = none from I.ok.hd hc) i2 b n2 its2.toArray) (drawsX t3 (show X.A.in1.handled = none from I.ok.hd hc) i3 c n3 its3.toArray) hz hTI hTO ⟨h1, p⟩ ⟨h2, p2⟩ ⟨h3, p3⟩ l1 l2 l3 fun v1 v2 v3 g1 tk e1 e2 e3 z1 TO1 s1 s2 s3 hT hsz hk => ?_
    have ev1 : v1 = u1 := by
      have : its.toArray[i]? = some u1 := by simpa using hu1
      rw [this] at e1; exact (Option.some.inj e1).symm
    have ev2 : v2 = u2 := by
      have : its2.toArray[i]? = some u2 := by simpa using hu2
      rw [this] at e2; exact (Option.some.inj e2).symm
    have ev3 : v3 = u3 := by
      have : its3.toArray[i]? = some u3 := by simpa using hu3
      rw [this] at e3; exact (Option.some.inj e3).symm
    subst ev1 ev2 ev3
    refine ⟨_, rfl, wpAny_letOwnedTupleGo_zip (s := { s with heap := g1, toks := tk }) z1 fun g2 z2 sb => ?_⟩
    have hT2 := (sb.2 s.heap.objs.size (Nat.ne_of_gt ltz)).trans hT
    have new : ObjOk X.prog X.w (upd H s.heap.objs.size (.tup [x, y, u])) g2 s.heap.objs.size (.tup [x, y, u]) := by
      refine ⟨by show 3 ≤ sizeLine; decide, [v1, v2, v3], .cons ru (.cons ru2 (.cons ru3 .nil)), ?_⟩
      exact ⟨_, hT2, rfl, _, rfl⟩
    have I1 : L2.Inv X pins σ (upd H s.heap.objs.size (.tup [x, y, u])) { s with heap := g2, toks := tk } :=
      I.turnedNew (ch := [z, TI, TO, i1, i2, i3]) (fun c o hb q => by
        simp only [List.mem_cons, List.not_mem_nil, or_false, not_or] at hb
        exact (sb.2 c hb.1).trans (hk c o hb.1 hb.2.2.1 hb.2.2.2.1 hb.2.2.2.2.1 hb.2.2.2.2.2 q)) hf (Nat.le_refl _) new
    refine ⟨.ref s.heap.objs.size, _, I1, rfl, ⟨_, x, y, u, rfl, I.hok.fresh (Nat.le_refl _), rfl, fun l hl => by rw [inv_seqX_inj I hl hqx]; exact hx, fun l hl => by rw [inv_seqX_inj I hl hqy]; exact hy, fun l hl => by rw [inv_seqX_inj I hl hqz]; exact hu⟩, ⟨z2, ?_, ⟨v1, v2, v3, ?_⟩, ?_, ?_, ?_⟩, fun c hcm => ?_⟩
    · exact (sb.2 _ S.TIz).trans (hk _ _ S.TIz S.TITO S.TIi1 S.TIi2 S.TIi3 hTI)
    · exact (sb.2 _ S.TOz).trans TO1
    · exact s1.1.at fun o q => (sb.2 _ (Ne.symm S.zi1)).trans q
    · exact s2.1.at fun o q => (sb.2 _ (Ne.symm S.zi2)).trans q
    · exact s3.1.at fun o q => (sb.2 _ (Ne.symm S.zi3)).trans q
    · obtain ⟨o, ho, _⟩ : ∃ o, s.heap.get? c = some o ∧ True := by
        simp only [List.mem_cons, List.not_mem_nil, or_false] at hcm
        rcases hcm with q | q | q | q | q | q
        · rw [q]; exact ⟨_, hz, trivial⟩
        · rw [q]; exact ⟨_, hTI, trivial⟩
        · rw [q]; exact ⟨_, hTO, trivial⟩
        · rw [q]; obtain ⟨o, e, _⟩ := h1.there; exact ⟨o, e, trivial⟩
        · rw [q]; obtain ⟨o, e, _⟩ := h2.there; exact ⟨o, e, trivial⟩
        · rw [q]; obtain ⟨o, e, _⟩ := h3.there; exact ⟨o, e, trivial⟩
      rw [upd_ne (Nat.ne_of_lt (Heap.lt_size ho))]
      exact (hf c hcm).1
  done := by
    intro X hP hw hK hc i pins s σ H E I hf st hg
    subst hP hw hK
    obtain ⟨hz, hTI, ⟨x0, y0, u0, hTO⟩, h1, h2, h3⟩ := st
    obtain ⟨xs, ys, zs, hqx, hqy, hqz, hend⟩ := hg
    obtain ⟨its, rv, p⟩ := inv_seqX I hqx
    obtain ⟨its2, rv2, p2⟩ := inv_seqX I hqy
    obtain ⟨its3, rv3, p3⟩ := inv_seqX I hqz
    have hh : X.A.in1.handled = none := I.ok.hd hc
    have e1 := rv.length
    have e2 := rv2.length
    have e3 := rv3.length
    have fin : ∀ g1 tk, (∀ c o, c ≠ z → c ≠ TO → c ≠ i1 → c ≠ i2 → c ≠ i3 → s.heap.get? c = some o → g1.get? c = some o) → (none : Option Value) = none ∧ L2.Inv X pins σ H { s with heap := g1, toks := tk } := fun g1 tk hk =>
      ⟨rfl, I.turnedL (ch := [z, TI, TO, i1, i2, i3]) (fun c o hb q => by
        simp only [List.mem_cons, List.not_mem_nil, or_false, not_or] at hb
        exact hk c o hb.1 hb.2.2.1 hb.2.2.2.1 hb.2.2.2.2.1 hb.2.2.2.2.2 q) hf⟩
    obtain ⟨m1, P1, St1, D1, d1, le1, q1⟩ := drawsA (prog := X.prog) (w := X.w) t1 hh i1 a n1 its.toArray i
    obtain ⟨m2, P2, St2, D2, d2, le2, q2⟩ := drawsA (prog := X.prog) (w := X.w) t2 hh i2 b n2 its2.toArray i
    obtain ⟨m3, P3, St3, D3, d3, le3, q3⟩ := drawsA (prog := X.prog) (w := X.w) t3 hh i3 c n3 its3.toArray i
    refine wpAny_pyNext_zipD3_end S D1 D2 D3 hz hTI hTO (d1 _ h1 p) (d2 _ h2 p2) (d3 _ h3 p3) le1 le2 le3 ?_ fin
    have s1 : its.toArray.size = its.length := by simp
    have s2 : its2.toArray.size = its2.length := by simp
    have s3 : its3.toArray.size = its3.length := by simp
    rcases hend with q | q | q
    · exact .inl (q1 (by omega))
    · exact .inr (.inl (q2 (by omega)))
    · exact .inr (.inr (q3 (by omega)))
  self := fun A i s Q E st q => wpAny_pyIter_zip st.1 q
/-- zip of three sequences -/
def iZpB3 (K : PySem.W.Frag) (ta : TA) : TI := fun σ H R => ta σ H fun vs H1 => ∃ t1 t2 t3 a b c xs ys zs, vs = [.ref a, .ref b, .ref c] ∧ SqX t1 K H1 a xs ∧ SqX t2 K H1 b ys ∧ SqX t3 K H1 c zs ∧ R (ItT3 t1 t2 t3 K a b c) H1
theorem pi_zpB3 {X : Cx} {e e2 e3 : Expr} {ta : TA} {p pos tpos : Pos} {elts : List Expr} {kk : Nat} (hg : Gl X "zip") (hm : X.mg "zip" = none) (ha : PA X [e, e2, e3] ta)
    (st : starEach [e, e2, e3] X.env = (false, eval e X.env) :: starEach [e2, e3] X.env := by rfl) (pl : (backTo pos (starEach [e2, e3] X.env)).any (·.1) = false := by rfl) :
    PI X (.Tuple elts kk tpos) (.Call (.Name "zip" p) [e, e2, e3] [] pos) (iZpB3 X.K ta) := by
  refine ⟨fun pins s σ H R I q => ?_⟩
  refine Call_ (ld_blt I hg hm PyProof.Rows.boot_zip (PyProof.Rows.callWith_type1 (thn (ha.run pos pins s σ H _ I q) fun us s1 ⟨vs, H1, I1, r1, q1⟩ => ?_) st pl))
  obtain ⟨t1, t2, t3, a, b, c, xs, ys, zs, rfl, hqx, hqy, hqz, q⟩ := q1
  obtain ⟨u, u2, u3, rfl, ra, rb, rc⟩ : ∃ u u2 u3, us = [u, u2, u3] ∧ RelV (.ref a) u ∧ RelV (.ref b) u2 ∧ RelV (.ref c) u3 := by
    cases r1 with
    | cons ra r1 => cases r1 with
      | cons rb r1 => cases r1 with
        | cons rc r1 => cases r1; exact ⟨_, _, _, rfl, ra, rb, rc⟩
  cases ra
  cases rb
  cases rc
  obtain ⟨its, rv, p1⟩ := inv_seqX I1 hqx
  obtain ⟨its2, rv2, p2⟩ := inv_seqX I1 hqy
  obtain ⟨its3, rv3, p3⟩ := inv_seqX I1 hqz
  have la := p1.lt
  have lb := p2.lt
  have lc := p3.lt
  have fresh : ∀ c ∈ [s1.heap.objs.size + 5, s1.heap.objs.size + 3, s1.heap.objs.size + 4, s1.heap.objs.size, s1.heap.objs.size + 1, s1.heap.objs.size + 2], FpOk X pins H1 c := fun c hcm => by
    have hle : s1.heap.objs.size ≤ c := by
      simp only [List.mem_cons, List.not_mem_nil, or_false] at hcm
      rcases hcm with z | z | z | z | z | z <;> (rw [z]; first | exact Nat.le_refl _ | exact Nat.le_add_right _ _)
    exact I1.fpOk hle (I1.hok.fresh hle)
  have ne : ∀ x y : Nat, (x < y ∨ y < x) → x ≠ y := fun x y h => by omega
  have gen : ∀ n a b c : Nat, a < n → b < n → c < n → ZipSep3 (n + 5) (n + 3) (n + 4) n (n + 1) (n + 2) [n, a] [n + 1, b] [n + 2, c] := fun n a b c la lb lc => by
    have n2 : ∀ x p q : Nat, (x < p ∨ p < x) → (x < q ∨ q < x) → x ∉ [p, q] := fun x p q h1 h2 => notin2 (ne _ _ h1) (ne _ _ h2)
    exact ⟨ne _ _ (by omega), ne _ _ (by omega), ne _ _ (by omega), ne _ _ (by omega), by simp, n2 _ _ _ (by omega) (by omega), n2 _ _ _ (by omega) (by omega), ne _ _ (by omega), by simp, n2 _ _ _ (by omega) (by omega), n2 _ _ _ (by omega) (by omega), ne _ _ (by omega), by simp, n2 _ _ _ (by omega) (by omega), n2 _ _ _ (by omega) (by omega), n2 _ _ _ (by omega) (by omega), n2 _ _ _ (by omega) (by omega), n2 _ _ _ (by omega) (by omega), n2 _ _ _ (by omega) (by omega), n2 _ _ _ (by omega) (by omega), n2 _ _ _ (by omega) (by omega)⟩
  have nea : ∀ n a : Nat, a < n → a ≠ n ∧ a ≠ n + 1 ∧ a ≠ n + 2 := fun n a h => by omega
  refine zip_begins3 (beginsX t1 a its.toArray) (beginsX t2 b its2.toArray) (beginsX t3 c its3.toArray) p1 p2 p3 fun g hz hTI hTO h1 h2 h3 hsz hk => wpAny_pyIter_zip hz ?_
  exact ⟨s1.heap.objs.size + 5, [s1.heap.objs.size + 5, s1.heap.objs.size + 3, s1.heap.objs.size + 4, s1.heap.objs.size, s1.heap.objs.size + 1, s1.heap.objs.size + 2], _, _, H1, rfl, I1.kept (t' := s1.toks) hk, turn_trip (gen _ _ _ _ la lb lc) (nea _ _ la).1 (nea _ _ lb).2.1 (nea _ _ lc).2.2, ⟨hz, hTI, ⟨_, _, _, hTO⟩, obX_it h1, obX_it h2, obX_it h3⟩, fresh, q⟩
/-- the triples -/
def zipD3 : List D → List D → List D → List D
  | x :: xs, y :: ys, z :: zs => .tup [x, y, z] :: zipD3 xs ys zs
  | _, _, _ => []
theorem zipD3_get : ∀ (xs ys zs : List D) (i : Nat), (zipD3 xs ys zs)[i]? = (xs[i]?).bind fun x => (ys[i]?).bind fun y => (zs[i]?).map fun z => .tup [x, y, z]
  | [], ys, zs, i => by unfold zipD3; simp
  | x :: xs, [], zs, i => by
    unfold zipD3
    cases (x :: xs)[i]? <;> simp
  | x :: xs, y :: ys, [], i => by
    unfold zipD3
    cases (x :: xs)[i]? <;> cases (y :: ys)[i]? <;> simp
  | x :: xs, y :: ys, z :: zs, 0 => by unfold zipD3; simp
  | x :: xs, y :: ys, z :: zs, i + 1 => by
    unfold zipD3
    rw [List.getElem?_cons_succ, List.getElem?_cons_succ, List.getElem?_cons_succ, List.getElem?_cons_succ, zipD3_get xs ys zs i]
def chkZ3 (d : D) (xs : List D) (e : D) (ys : List D) (f : D) (zs : List D) : Hc → Bool := fun h => chkQ d xs h && chkQ e ys h && chkQ f zs h
def zp3F (xs : List D) (h : Hc) : R ItD := match xs with
  | [d, e, f] => match seqD h d, seqD h e, seqD h f with
    | some us, some ws, some ts => .ok ⟨zipD3 us ws ts, chkZ3 d us e ws f ts⟩ h
    | _, _, _ => .bad
  | _ => .bad
def iZip3 (as : SA) : SI := fun ds h => (as ds h).bd zp3F
theorem tripUp {K : PySem.W.Frag} {ω : Wo} {h : Hc} {T : Addr} {x y z : D} {v w u : V} (r : Rel K ω h) (hT : ω.H T = none) (rx : RelD K ω x v) (ry : RelD K ω y w) (rz : RelD K ω z u) :
    ∃ ω2, ω2.H = upd ω.H T (.tup [v, w, u]) ∧ Ext ω ω2 ∧ Rel K ω2 h ∧ RelD K ω2 (.tup [x, y, z]) (.ref T) := by
  refine ⟨ω.up T (.tup [v, w, u]), rfl, Ext.up hT, r.up hT, ?_⟩
  unfold RelD
  exact ⟨T, _, rfl, .inl (.inl upd_same), monoL r (Ext.up hT) _ _ (.cons rx (.cons ry (.cons rz .nil)))⟩
section
variable {K : PySem.W.Frag} {ω : Wo} {h : Hc} {d e f : D}
theorem itOk_zip3 {xs ys zs : List D} {a b c : Addr} (r : Rel K ω h) (x : RelD K ω d (.ref a)) (y : RelD K ω e (.ref b)) (z : RelD K ω f (.ref c)) : ItOk K ω ⟨zipD3 xs ys zs, chkZ3 d xs e ys f zs⟩ (ItT3 (isTup d) (isTup e) (isTup f) K a b c) := fun i ω' h' ex r' hk => by
  replace hk : seqD h' d = some xs ∧ seqD h' e = some ys ∧ seqD h' f = some zs := by
    have hk : (chkQ d xs h' && chkQ e ys h' && chkQ f zs h') = true := hk
    rw [Bool.and_eq_true, Bool.and_eq_true] at hk
    exact ⟨chkQ_spec hk.1.1, chkQ_spec hk.1.2, chkQ_spec hk.2⟩
  obtain ⟨p, us, e1, e2, e3⟩ := seqX_rel r' hk.1 (mono r ex _ _ x)
  obtain ⟨p2, us2, f1, f2, f3⟩ := seqX_rel r' hk.2.1 (mono r ex _ _ y)
  obtain ⟨p3, us3, g1, g2, g3⟩ := seqX_rel r' hk.2.2 (mono r ex _ _ z)
  cases e1
  cases f1
  cases g1
  refine ⟨fun w hd => ?_, fun hn => ⟨us, us2, us3, e2, f2, g2, ?_⟩⟩
  · rw [zipD3_get] at hd
    cases q : xs[i]? with
    | none => rw [q] at hd; cases hd
    | some x0 =>
      cases q2 : ys[i]? with
      | none => rw [q, q2] at hd; cases hd
      | some y0 =>
        cases q3 : zs[i]? with
        | none => rw [q, q2, q3] at hd; cases hd
        | some z0 =>
          rw [q, q2, q3] at hd
          simp only [Option.bind_some, Option.map_some, Option.some.injEq] at hd
          subst hd
          obtain ⟨v, e4, e5⟩ := e3.get q
          obtain ⟨v2, f4, f5⟩ := f3.get q2
          obtain ⟨v3, g4, g5⟩ := g3.get q3
          refine ⟨⟨us, us2, us3, v, v2, v3, e2, f2, g2, e4, f4, g4⟩, fun w H' ⟨T, w1, w2, w3, ew, hT, eH, k1, k2, k3⟩ => ?_⟩
          have k1 := k1 us e2
          rw [e4] at k1
          cases k1
          have k2 := k2 us2 f2
          rw [f4] at k2
          cases k2
          have k3 := k3 us3 g2
          rw [g4] at k3
          cases k3
          obtain ⟨ω2, m1, m2, m3, m4⟩ := tripUp r' hT e5 f5 g5
          subst ew
          exact ⟨ω2, by rw [eH, m1], m2, m3, m4⟩
  · rw [zipD3_get] at hn
    rw [← e3.len, ← f3.len, ← g3.len]
    cases q : xs[i]? with
    | none => exact .inl (List.getElem?_eq_none_iff.mp q)
    | some x0 =>
      cases q2 : ys[i]? with
      | none => exact .inr (.inl (List.getElem?_eq_none_iff.mp q2))
      | some y0 =>
        cases q3 : zs[i]? with
        | none => exact .inr (.inr (List.getElem?_eq_none_iff.mp q3))
        | some z0 => rw [q, q2, q3] at hn; cases hn
end
section
variable {X : Cx} {W : WX} {e : Expr} {as : SA}
theorem di_zip3 {tg : Expr} (he : PI X tg e (iZpB3 X.K (tA X W as))) : DI X W tg e (iZip3 as) := di_of he fun σ H R ⟨ω, h, ds, e1, r, s, p⟩ => by
  subst e1
  refine ⟨ω, h, ds, rfl, r, s, Post.bd (show Post X.K X.mg W σ ω _ R ((as ds h).bd _) from p) fun xs h1 vs ω1 e1 r1 d1 p1 => ?_⟩
  unfold zp3F at p1
  split at p1
  · rename_i d e f
    obtain ⟨v, ws, rfl, e2, e3⟩ := d1.inv
    obtain ⟨v', ws', rfl, e4, e5⟩ := e3.inv
    obtain ⟨v'', ws'', rfl, e6, e7⟩ := e5.inv
    rw [e7.inv0]
    split at p1
    · rename_i us ws ts q q2 q3
      obtain ⟨a, us1, rfl, f2, f3⟩ := seqX_rel r1 q e2
      obtain ⟨b, us2, rfl, g2, g3⟩ := seqX_rel r1 q2 e4
      obtain ⟨c, us3, rfl, k2, k3⟩ := seqX_rel r1 q3 e6
      exact ⟨_, _, _, a, b, c, us1, us2, us3, rfl, f2, g2, k2, p1 _ ω1 (Ext.refl _) r1 (itOk_zip3 r1 e2 e4 e6)⟩
    · exact False.elim p1
  · exact False.elim p1
end
theorem zp3_sqs (b c e : Bool) (xs ys zs : List D) (h : Hc) : zp3F [(if b then .lst xs else .tup xs), (if c then .lst ys else .tup ys), (if e then .lst zs else .tup zs)] h = .ok ⟨zipD3 xs ys zs, fun _ => true⟩ h := by
  have ck : ∀ (b : Bool) (xs : List D), chkQ (if b then D.lst xs else .tup xs) xs = fun _ => true := fun b xs => by cases b <;> simp
  have sd : ∀ (b : Bool) (xs : List D), seqD h (if b then D.lst xs else .tup xs) = some xs := fun b xs => by cases b <;> rfl
  unfold zp3F
  simp only [sd]
  unfold chkZ3
  simp only [ck, Bool.and_true]
end Mp
namespace Mp
open PySem PySem.Spec PyProof.Rows L2
/-! ### mirrors: Age -/
/-- _law_pick: row 0, spot 1, things 2 -/
def m_law_pick : Fn := runB 3
  (sRet (eOp ixF (eVar 2) (eCall m_law_take (aCons (eVar 0) (aCons (eVar 1) (aCons (eCB lenF (aCons (eVar 2) aNil)) aNil))))))
def m_law_life_c1 : SE :=
  (eCall m_law_pick (aCons (eVar 0) (aCons (eVar 1) (aCons (eLst (aCons (eC (.int 0)) (aCons (eC (.int 0)) (aCons (eC (.int 1)) (aCons (eC (.int 1)) (aCons (eC (.int 2)) (aCons (eC (.int 3)) (aCons (eC (.int 9)) aNil)))))))) aNil))))
/-- _law_life: row 0, spot 1, made 2, k 3 -/
def m_law_life : Fn := runB 4
  (sSeq (sSet 2 (eLcC (iRg1 (aCons (eOp addF (eC (.int 1)) (eCall m_law_take (aCons (eVar 0) (aCons (eVar 1) (aCons (eC (.int 12)) aNil))))) aNil)) (.n 3) [3] (fun _ h => .ok true h) m_law_life_c1))
  (sSeq (sIf (bEx (eOp eqF (eOp ixF (eVar 2) (eOp subF (eCB lenF (aCons (eVar 2) aNil)) (eC (.int 1)))) (eC (.int 0))))
    (sPut setF (eOp addF (eC (.int 1)) (eCall m_law_take (aCons (eVar 0) (aCons (eVar 1) (aCons (eC (.int 4)) aNil))))) (eVar 2) (eOp subF (eCB lenF (aCons (eVar 2) aNil)) (eC (.int 1))))
    sNext)
  (sRet (eCB tupleF (aCons (eVar 2) aNil)))))
/-- is_within: x 0, low 1, high 2 -/
def m_is_within : Fn := runB 3
  (sRet (eAnd (eCall m_is_integer (aCons (eVar 0) aNil)) (eAnd (eOp leF (eVar 1) (eVar 0)) (eOp leF (eVar 0) (eVar 2)))))
def m_is_life_c1 : SE :=
  (eCall m_is_within (aCons (eVar 1) (aCons (eC (.int 0)) (aCons (eC (.int 9)) aNil))))
/-- is_life: life 0, weight 1 -/
def m_is_life : Fn := runB 2
  (sSeq (sIf (bNot (bTru (eCall m_is_row (aCons (eVar 0) (aCons (eC (.int 1)) (aCons (eC (.int 12)) aNil))))))
    (sRet (eC (.bl false)))
    sNext)
  (sSeq (sIf (bNot (bTru (eCB allF (aCons (eLc (iSeq (eVar 0)) (.n 1) [1] (fun _ h => .ok true h) m_is_life_c1) aNil))))
    (sRet (eC (.bl false)))
    sNext)
  (sRet (eOp geF (eOp ixF (eVar 0) (eUn negF (eC (.int 1)))) (eC (.int 1))))))
def m_used_days_c1 : SE :=
  (eOp mulF (eVar 3) (eCB minF (aCons (eOp addF (eVar 2) (eC (.int 1))) (aCons (eVar 1) aNil))))
/-- used_days: life 0, age 1, at 2, weight 3 -/
def m_used_days : Fn := runB 4
  (sRet (eCB sumA (aCons (eLc (iEnu (aCons (eVar 0) aNil)) (.t ((.n 2) :: ((.n 3) :: []))) [2, 3] (fun _ h => .ok true h) m_used_days_c1) aNil)))
/-- mean_life: life 0 -/
def m_mean_life : Fn := runB 1
  (sSeq (sIf (bNot (bTru (eCall m_is_life (aCons (eVar 0) aNil))))
    (sRaise "BadValue" ["at"] (aCons (eC (.int 0)) aNil))
    sNext)
  (sRet (eCall m_reduced (aCons (eCall m_used_days (aCons (eVar 0) (aCons (eCB lenF (aCons (eVar 0) aNil)) aNil))) (aCons (eCB sumA (aCons (eVar 0) aNil)) aNil)))))
/-- check_costs: life 0, plan 1, fail 2 -/
def m_check_costs : Fn := runB 3
  (sSeq (sIf (bNot (bTru (eCall m_is_life (aCons (eVar 0) aNil))))
    (sRaise "BadValue" ["at"] (aCons (eC (.int 0)) aNil))
    sNext)
  (sSeq (sIf (bNot (bTru (eCall m_is_within (aCons (eVar 1) (aCons (eC (.int 0)) (aCons (eC (.int 1000)) aNil))))))
    (sRaise "BadValue" ["at"] (aCons (eC (.int 1)) aNil))
    sNext)
  (sIf (bNot (bTru (eCall m_is_within (aCons (eVar 2) (aCons (eC (.int 0)) (aCons (eC (.int 1000)) aNil))))))
    (sRaise "BadValue" ["at"] (aCons (eC (.int 2)) aNil))
    sNext)))
/-- paid: life 0, plan 1, fail 2, age 3, ended 4 -/
def m_paid : Fn := runB 5
  (sSeq (sSet 4 (eCB sumA (aCons (eSl slF (eVar 0) none (some (eVar 3))) aNil)))
  (sRet (eOp addF (eOp mulF (eVar 2) (eVar 4)) (eOp mulF (eVar 1) (eOp subF (eCB sumA (aCons (eVar 0) aNil)) (eVar 4))))))
/-- cost_of_age: life 0, plan 1, fail 2, age 3 -/
def m_cost_of_age : Fn := runB 4
  (sRet (eCall m_reduced (aCons (eCall m_paid (aCons (eVar 0) (aCons (eVar 1) (aCons (eVar 2) (aCons (eVar 3) aNil))))) (aCons (eCall m_used_days (aCons (eVar 0) (aCons (eVar 3) aNil))) aNil))))
/-- age_cost: life 0, plan 1, fail 2, age 3 -/
def m_age_cost : Fn := runB 4
  (sSeq (sDrop (eCall m_check_costs (aCons (eVar 0) (aCons (eVar 1) (aCons (eVar 2) aNil)))))
  (sSeq (sIf (bNot (bTru (eCall m_is_within (aCons (eVar 3) (aCons (eC (.int 1)) (aCons (eCB lenF (aCons (eVar 0) aNil)) aNil))))))
    (sRaise "BadValue" ["at"] (aCons (eC (.int 3)) aNil))
    sNext)
  (sRet (eCall m_cost_of_age (aCons (eVar 0) (aCons (eVar 1) (aCons (eVar 2) (aCons (eVar 3) aNil))))))))
def m_law_age_cost_l1 : SS :=
  (sSeq (sSet 4 (eOp addF (eVar 4) (eOp mulF (eOp ixF (eVar 0) (eVar 6)) (eIf (bEx (eOp leF (eOp addF (eVar 6) (eC (.int 1))) (eVar 3))) (eVar 2) (eVar 1)))))
    (sSet 5 (eOp addF (eVar 5) (eOp mulF (eOp ixF (eVar 0) (eVar 6)) (eIf (bEx (eOp leF (eOp addF (eVar 6) (eC (.int 1))) (eVar 3))) (eOp addF (eVar 6) (eC (.int 1))) (eVar 3))))))
/-- _law_age_cost: life 0, plan 1, fail 2, age 3, cost 4, days 5, k 6 -/
def m_law_age_cost : Fn := runB 7
  (sSeq (sSet 4 (eC (.int 0)))
  (sSeq (sSet 5 (eC (.int 0)))
  (sSeq (sFor (iRg1 (aCons (eCB lenF (aCons (eVar 0) aNil)) aNil)) (.n 6)
    m_law_age_cost_l1)
  (sRet (eCall (m_law_red 24) (aCons (eVar 4) (aCons (eVar 5) aNil)))))))
end Mp
/-! AgeSpec: lives, what they use and pay. -/
namespace Mp
open PySem PySem.Spec PyProof.Rows L2
/-- a row of numbers, as a list or as a tuple -/
def sq (b : Bool) (xs : List Int) : D := if b then .lst (xs.map D.int) else .tup (xs.map D.int)
@[simp] theorem flat_sq (b : Bool) (xs : List Int) : flat (sq b xs) = true := by cases b <;> simp [sq]
theorem flatL_of {xs : List D} (h : ∀ x ∈ xs, flat x = true) : flatL xs = true := by
  induction xs with
  | nil => simp
  | cons x xs ih => simp [h x (by simp), ih fun y hy => h y (by simp [hy])]
section
variable {row : List Int} (hr : row ≠ [])
include hr
/-- one of some things -/
theorem pick_ex {k : Int} {i : Nat} {h : Hc} {xs : List D} (hf : ∀ x ∈ xs, flat x = true) (hx : xs ≠ []) (hi : h[i]? = some (.lst [.int k])) (hk : 0 ≤ k) : ∃ v k', v ∈ xs ∧ 0 ≤ k' ∧ callL m_law_pick [.lst (row.map D.int), .ref i, .lst xs] h = .ok v (h.set i (.lst [.int k'])) := by
  have hp : 0 < xs.length := by cases xs <;> simp_all
  obtain ⟨v, k1, a1, b1, c1, e1⟩ := take_ex hr (h := [.lst [.int k]]) (i := 0) (l := (xs.length : Int)) rfl hk (by omega)
  simp at e1
  have hj : v.toNat < xs.length := by omega
  have e2 : atI xs v = some xs[v.toNat] := by rw [atI_of a1 (by omega)]; simp [hj]
  refine ⟨xs[v.toNat], k1, List.getElem_mem hj, c1, call_spot (d0 := xs[v.toNat]) (h' := [.lst [.int k1]]) (by simp) (by simp [flatL_of hf]) hi ?_ rfl fun j => frzD_flat (hf _ (List.getElem_mem hj))⟩
  unfold m_law_pick
  rw [runB_s]
  simp [e1, e2]
end
theorem is_within_int (x lo hi : Int) (h : Hc) : callL m_is_within [.int x, .int lo, .int hi] h = .ok (.bl (decide (lo ≤ x) && decide (x ≤ hi))) h := by
  refine call_flat (h' := []) (by simp) ?_ (by simp) h
  unfold m_is_within
  rw [runB_s]
  by_cases h1 : lo ≤ x <;> simp [is_integer_int, h1]
theorem is_row_sq (b : Bool) (xs : List Int) (lo hi : Int) (h : Hc) : callL m_is_row [sq b xs, .int lo, .int hi] h = .ok (.bl (decide (lo ≤ xs.length) && decide ((xs.length : Int) ≤ hi))) h := by
  have e : ∀ h, callL m_is_sequence [sq b xs] h = .ok (.bl true) h := fun h => by
    refine call_flat (h' := []) (by simp) ?_ (by simp) h
    unfold m_is_sequence
    rw [runB_s]
    cases b <;> simp [sq]
  refine call_flat (h' := []) (by simp) ?_ (by simp) h
  unfold m_is_row
  rw [runB_s]
  simp [e]
  have l : ∀ h, lenF [sq b xs] h = .ok (.int xs.length) h := fun h => by cases b <;> simp [sq]
  by_cases h1 : lo ≤ (xs.length : Int) <;> simp [l, h1]
@[simp] theorem len_sq (b : Bool) (xs : List Int) (h : Hc) : lenF [sq b xs] h = .ok (.int xs.length) h := by cases b <;> simp [sq]
@[simp] theorem seqD_sq (b : Bool) (xs : List Int) (h : Hc) : seqD h (sq b xs) = some (xs.map D.int) := by cases b <;> rfl
@[simp] theorem chkQ_sq (b : Bool) (xs : List Int) : chkQ (sq b xs) (xs.map D.int) = fun _ => true := by cases b <;> simp [sq]
@[simp] theorem sumA_sq (b : Bool) (xs : List Int) (h : Hc) : sumA [sq b xs] h = .ok (.int xs.sum) h := by cases b <;> simp [sq]
theorem ixF_sq (b : Bool) (xs : List Int) (i : Int) (h : Hc) : ixF (sq b xs) (.int i) h = match atI (xs.map D.int) i with
    | some d => .ok d h
    | none => .bad := by cases b <;> simp [sq] <;> rfl
/-- a life: some days, each with a weight, the last with one -/
structure Life (l : List Int) : Prop where
  ne : l ≠ []
  len : l.length ≤ 12
  w : ∀ x ∈ l, 0 ≤ x ∧ x ≤ 9
  last : ∀ h : l ≠ [], 1 ≤ l.getLast h
theorem all_within {xs : List Int} {lo hi : Int} (hw : ∀ x ∈ xs, lo ≤ x ∧ x ≤ hi) : (xs.map fun x => decide (lo ≤ x) && decide (x ≤ hi)).all id = true := by
  simp only [List.all_eq_true, List.mem_map, forall_exists_index, and_imp]
  rintro b x hx rfl
  simp [hw x hx]
theorem setF_ok {n : Nat} {xs : List D} {h : Hc} {i : Int} {x : D} (e : h[n]? = some (.lst xs)) (h0 : 0 ≤ i) (h1 : i < xs.length) : setF (.ref n) (.int i) x h = some (h.set n (.lst (xs.set i.toNat x))) := by
  unfold setF
  simp only [e]
  have : ixN xs.length i = some i.toNat := by unfold ixN; rw [if_pos h0, if_pos h1]
  rw [this]; rfl
section
variable {row : List Int} (hr : row ≠ [])
include hr
end
/-- the days that a life uses, up to an age -/
def usedF (age : Int) : Int → List Int → Int
  | _, [] => 0
  | n, w :: r => w * (if age < n + 1 then age else n + 1) + usedF age (n + 1) r
/-- what a policy pays -/
def paidF (l : List Int) (plan fail : Int) (age : Nat) : Int := fail * (l.take age).sum + plan * (l.sum - (l.take age).sum)
/-! ### what the law pays -/
def costF (plan fail age : Int) : Int → List Int → Int
  | _, [] => 0
  | n, w :: r => w * (if n + 1 ≤ age then fail else plan) + costF plan fail age (n + 1) r
def daysF (age : Int) : Int → List Int → Int
  | _, [] => 0
  | n, w :: r => w * (if n + 1 ≤ age then n + 1 else age) + daysF age (n + 1) r
theorem upFrom_range (n : Nat) : upFrom 0 n = (List.range' 0 n).map fun (j : Nat) => D.int (j : Int) := by
  unfold upFrom
  rw [List.range_eq_range']
  simp
end Mp
/-! RdcSpec: quotients in lowest terms are one for each value. -/
namespace Mp
open PySem PySem.Spec PyProof.Rows L2
theorem rdc_spec {n d : Int} (hd : 0 < d) : ∃ p q, rdc n d = qv p q ∧ Int.gcd p q = 1 ∧ 1 ≤ q ∧ q ≤ d ∧ p.natAbs ≤ n.natAbs ∧ p * d = n * q := by
  have h1 : ¬ d < 0 := by omega
  have h3 := Int.gcd_ne_zero_right (a := n) (show d ≠ 0 by omega)
  have hg : (0 : Int) < (Int.gcd n d : Int) := by omega
  have e : ∀ x : Int, x.fdiv (Int.gcd n d : Int) = x / (Int.gcd n d : Int) := fun x => Int.fdiv_eq_ediv_of_nonneg x (by omega)
  refine ⟨n / (Int.gcd n d : Int), d / (Int.gcd n d : Int), by unfold rdc sg qv; rw [if_neg h1, e, e], ?_, ?_, ?_, ?_, ?_⟩
  · exact Int.gcd_ediv_gcd_ediv_gcd (by omega)
  · exact Int.ediv_pos_of_pos_of_dvd hd (by omega) (Int.gcd_dvd_right ..)
  · exact Int.ediv_le_self _ (by omega)
  · exact Int.natAbs_ediv_le_natAbs _ _
  · have a1 : n / (Int.gcd n d : Int) * (Int.gcd n d : Int) = n := Int.ediv_mul_cancel (Int.gcd_dvd_left ..)
    have a2 : d / (Int.gcd n d : Int) * (Int.gcd n d : Int) = d := Int.ediv_mul_cancel (Int.gcd_dvd_right ..)
    calc n / (Int.gcd n d : Int) * d = n / (Int.gcd n d : Int) * (d / (Int.gcd n d : Int) * (Int.gcd n d : Int)) := by rw [a2]
      _ = (n / (Int.gcd n d : Int) * (Int.gcd n d : Int)) * (d / (Int.gcd n d : Int)) := by rw [Int.mul_assoc, Int.mul_comm (d / _) _]
      _ = n * (d / (Int.gcd n d : Int)) := by rw [a1]
theorem low_uniq {p q a b : Int} (h : p * b = a * q) (g1 : Int.gcd p q = 1) (g2 : Int.gcd a b = 1) (hq : 1 ≤ q) (hb : 1 ≤ b) : p = a ∧ q = b := by
  have aux : ∀ {x y z w : Int}, x * y = z * w → Int.gcd x w = 1 → w ∣ y := fun {x y z w} e g => by
    have h1 : w.natAbs ∣ x.natAbs * y.natAbs := by
      rw [← Int.natAbs_mul, e, Int.natAbs_mul]
      exact ⟨z.natAbs, Nat.mul_comm ..⟩
    have h2 : Nat.Coprime w.natAbs x.natAbs := by
      show Nat.gcd _ _ = 1
      rw [Nat.gcd_comm]; exact g
    exact Int.natAbs_dvd_natAbs.mp (h2.dvd_of_dvd_mul_left h1)
  have d1 : q ∣ b := aux h g1
  have d2 : b ∣ q := aux h.symm g2
  have e : q = b := Int.le_antisymm (Int.le_of_dvd (by omega) d1) (Int.le_of_dvd (by omega) d2)
  subst e
  exact ⟨Int.eq_of_mul_eq_mul_right (by omega) h, rfl⟩
theorem rdc_eq {n d m e : Int} (hd : 0 < d) (he : 0 < e) (h : n * e = m * d) : rdc n d = rdc m e := by
  obtain ⟨p, q, e1, g1, q1, _, _, r1⟩ := rdc_spec (n := n) hd
  obtain ⟨a, b, e2, g2, b1, _, _, r2⟩ := rdc_spec (n := m) he
  have key : p * b = a * q := by
    have : (p * b) * (d * e) = (a * q) * (d * e) := by
      calc (p * b) * (d * e) = (p * d) * (b * e) := by ac_rfl
        _ = (n * q) * (b * e) := by rw [r1]
        _ = (n * e) * (b * q) := by ac_rfl
        _ = (m * d) * (b * q) := by rw [h]
        _ = (m * b) * (d * q) := by ac_rfl
        _ = (a * e) * (d * q) := by rw [r2]
        _ = (a * q) * (d * e) := by ac_rfl
    exact Int.eq_of_mul_eq_mul_right (Int.mul_ne_zero (by omega) (by omega)) this
  obtain ⟨z1, z2⟩ := low_uniq key g1 g2 q1 b1
  rw [e1, e2, z1, z2]
section
variable {a b c d N M : Int} (hb : 0 < b) (hd : 0 < d) (hM : 0 < M) (sa : sm 4000 a) (sb : sm 4000 b) (sc : sm 4000 c) (sd : sm 4000 d)
include hb hd hM sa sb sc sd
end
end Mp
namespace Mp
open PySem PySem.Spec PyProof.Rows L2
/-! ### mirrors: Chn -/
def m_law_chain_c1 : SE :=
  (eCall m_law_pick (aCons (eVar 0) (aCons (eVar 1) (aCons (eLst (aCons (eC (.int 0)) (aCons (eC (.int 0)) (aCons (eC (.int 0)) (aCons (eC (.int 1)) (aCons (eC (.int 1)) (aCons (eC (.int 2)) (aCons (eC (.int 9)) aNil)))))))) aNil))))
def m_law_chain_l1 : SS :=
  (sSeq (sSet 6 (eLcC (iRg1 (aCons (eVar 3) aNil)) (.n 7) [7] (fun _ h => .ok true h) m_law_chain_c1))
    (sSeq (sIf (bEx (eOp eqF (eCB sumA (aCons (eVar 6) aNil)) (eC (.int 0))))
      (sPut setF (eOp addF (eC (.int 1)) (eCall m_law_take (aCons (eVar 0) (aCons (eVar 1) (aCons (eC (.int 4)) aNil))))) (eVar 6) (eCall m_law_take (aCons (eVar 0) (aCons (eVar 1) (aCons (eVar 3) aNil)))))
      sNext)
    (sDrop (eBM "list" appF (eVar 4) (aCons (eCB tupleF (aCons (eVar 6) aNil)) aNil)))))
/-- _law_chain: row 0, spot 1, most 2, many 3, made 4, s 5, weights 6, j 7 -/
def m_law_chain : Fn := runB 8
  (sSeq (sSet 3 (eOp addF (eC (.int 1)) (eCall m_law_take (aCons (eVar 0) (aCons (eVar 1) (aCons (eVar 2) aNil))))))
  (sSeq (sSet 4 (eCell aNil))
  (sSeq (sFor (iRg1 (aCons (eVar 3) aNil)) (.n 5)
    m_law_chain_l1)
  (sRet (eCB tupleF (aCons (eVar 4) aNil))))))
def m_sure_c1 : SE :=
  (eIf (bEx (eOp eqF (eVar 2) (eVar 1))) (eTup (aCons (eC (.int 1)) (aCons (eC (.int 1)) aNil))) (eTup (aCons (eC (.int 0)) (aCons (eC (.int 1)) aNil))))
/-- sure: many 0, at 1, k 2 -/
def m_sure : Fn := runB 3
  (sRet (eCB tupleF (aCons (eLc (iRg1 (aCons (eVar 0) aNil)) (.n 2) [2] (fun _ h => .ok true h) m_sure_c1) aNil)))
def m_is_weights_c1 : SE :=
  (eCall m_is_within (aCons (eVar 2) (aCons (eC (.int 0)) (aCons (eC (.int 9)) aNil))))
/-- is_weights: row 0, many 1, weight 2 -/
def m_is_weights : Fn := runB 3
  (sSeq (sIf (bNot (bTru (eCall m_is_row (aCons (eVar 0) (aCons (eVar 1) (aCons (eVar 1) aNil))))))
    (sRet (eC (.bl false)))
    sNext)
  (sRet (eAnd (eCB allF (aCons (eLc (iSeq (eVar 0)) (.n 2) [2] (fun _ h => .ok true h) m_is_weights_c1) aNil)) (eOp gtF (eCB sumA (aCons (eVar 0) aNil)) (eC (.int 0))))))
def m_is_chain_c1 : SE :=
  (eCall m_is_weights (aCons (eVar 1) (aCons (eCB lenF (aCons (eVar 0) aNil)) aNil)))
/-- is_chain: chain 0, row 1 -/
def m_is_chain : Fn := runB 2
  (sSeq (sIf (bNot (bTru (eCall m_is_row (aCons (eVar 0) (aCons (eC (.int 1)) (aCons (eC (.int 6)) aNil))))))
    (sRet (eC (.bl false)))
    sNext)
  (sRet (eCB allF (aCons (eLc (iSeq (eVar 0)) (.n 1) [1] (fun _ h => .ok true h) m_is_chain_c1) aNil))))
def m_common_bottom_l1 : SS :=
  (sSet 1 (eCB lcmF (aCons (eVar 1) (aCons (eVar 2) aNil))))
/-- common_bottom: bottoms 0, common 1, bottom 2 -/
def m_common_bottom : Fn := runB 3
  (sSeq (sSet 1 (eC (.int 1)))
  (sSeq (sFor (iSeq (eVar 0)) (.n 2)
    m_common_bottom_l1)
  (sRet (eVar 1))))
def m_lifted_c1 : SE :=
  (eOp mulF (eOp ixF (eVar 4) (eC (.int 1))) (eCB sumA (aCons (eVar 5) aNil)))
def m_lifted_c2 : SE :=
  (eOp mulF (eOp ixF (eVar 4) (eC (.int 0))) (eOp fdivF (eVar 3) (eVar 6)))
/-- lifted: rows 0, shares 1, bottoms 2, common 3, share 4, row 5, bottom 6 -/
def m_lifted : Fn := runB 7
  (sSeq (sSet 2 (eLc (iZip (aCons (eVar 1) (aCons (eVar 0) aNil))) (.t ((.n 4) :: ((.n 5) :: []))) [4, 5] (fun _ h => .ok true h) m_lifted_c1))
  (sSeq (sSet 3 (eCall m_common_bottom (aCons (eVar 2) aNil)))
  (sRet (eTup (aCons (eLc (iZip (aCons (eVar 1) (aCons (eVar 2) aNil))) (.t ((.n 4) :: ((.n 6) :: []))) [4, 6] (fun _ h => .ok true h) m_lifted_c2) (aCons (eVar 3) aNil))))))
def m_spread_c1 : SE :=
  (eOp mulF (eVar 7) (eOp ixF (eVar 8) (eVar 5)))
def m_spread_l1 : SS :=
  (sSeq (sSet 6 (eCB sumA (aCons (eLc (iZip (aCons (eVar 2) (aCons (eVar 0) aNil))) (.t ((.n 7) :: ((.n 8) :: []))) [7, 8] (fun _ h => .ok true h) m_spread_c1) aNil)))
    (sDrop (eBM "list" appF (eVar 4) (aCons (eCall m_reduced (aCons (eVar 6) (aCons (eVar 3) aNil))) aNil))))
/-- spread: rows 0, shares 1, factors 2, common 3, found 4, at 5, top 6, factor 7, row 8 -/
def m_spread : Fn := runB 9
  (sSeq (sAsg (.t ((.n 2) :: ((.n 3) :: []))) (eCall m_lifted (aCons (eVar 0) (aCons (eVar 1) aNil))))
  (sSeq (sSet 4 (eCell aNil))
  (sSeq (sFor (iRg1 (aCons (eCB lenF (aCons (eOp ixF (eVar 0) (eC (.int 0))) aNil)) aNil)) (.n 5)
    m_spread_l1)
  (sRet (eCB tupleF (aCons (eVar 4) aNil))))))
def m_law_shares_c1 : SE :=
  (eCall (m_law_red 24) (aCons (eVar 2) (aCons (eCB sumA (aCons (eOp ixF (eVar 0) (eVar 1)) aNil)) aNil)))
/-- _law_shares: chain 0, s 1, one 2 -/
def m_law_shares : Fn := runB 3
  (sRet (eLc (iSeq (eOp ixF (eVar 0) (eVar 1))) (.n 2) [2] (fun _ h => .ok true h) m_law_shares_c1))
end Mp
/-! ChnSpec: chains, shares, what a day makes of them. -/
namespace Mp
open PySem PySem.Spec PyProof.Rows L2
/-! ### sequences of either kind -/
def sqs (b : Bool) (ds : List D) : D := if b then .lst ds else .tup ds
@[simp] theorem seqD_sqs (b : Bool) (xs : List D) (h : Hc) : seqD h (sqs b xs) = some xs := by cases b <;> rfl
@[simp] theorem chkQ_sqs (b : Bool) (xs : List D) : chkQ (sqs b xs) xs = fun _ => true := by cases b <;> simp [sqs]
@[simp] theorem len_sqs (b : Bool) (xs : List D) (h : Hc) : lenF [sqs b xs] h = .ok (.int xs.length) h := by cases b <;> simp [sqs]
theorem ix_sqs (b : Bool) (xs : List D) (i : Int) (h : Hc) : ixF (sqs b xs) (.int i) h = match atI xs i with
    | some d => .ok d h
    | none => .bad := by cases b <;> simp [sqs] <;> rfl
theorem flat_sqs (b : Bool) {xs : List D} (hx : flatL xs = true) : flat (sqs b xs) = true := by cases b <;> simp [sqs, hx]
theorem zipD_map {α : Type} (f g : α → D) : ∀ Z : List α, zipD (Z.map f) (Z.map g) = Z.map fun z => .tup [f z, g z]
  | [] => by simp [zipD]
  | z :: r => by simp [zipD, zipD_map f g r]
theorem zpF_sqs (b c : Bool) (xs ys : List D) (h : Hc) : zpF [sqs b xs, sqs c ys] h = .ok ⟨zipD xs ys, fun _ => true⟩ h := by
  simp only [zpF, seqD_sqs]
  have : chkZ (sqs b xs) xs (sqs c ys) ys = fun _ => true := by unfold chkZ; simp
  rw [this]
/-! ### quotients: their two numbers -/
def nm (n d : Int) : Int := n.fdiv (sg n d)
def dn (n d : Int) : Int := d.fdiv (sg n d)
theorem rdc_nd (n d : Int) : rdc n d = .tup [.int (nm n d), .int (dn n d)] := rfl
theorem nd_spec {n d : Int} (hd : 0 < d) : 1 ≤ dn n d ∧ dn n d ≤ d ∧ (nm n d).natAbs ≤ n.natAbs ∧ nm n d * d = n * dn n d ∧ dn n d ∣ d := by
  obtain ⟨p, q, e1, g1, q1, q2, p2, r1⟩ := rdc_spec (n := n) hd
  rw [rdc_nd] at e1
  unfold qv at e1
  simp only [D.tup.injEq, List.cons.injEq, D.int.injEq, and_true] at e1
  rw [e1.1, e1.2]
  refine ⟨q1, q2, p2, r1, ?_⟩
  have h1 : q.natAbs ∣ p.natAbs * d.natAbs := by
    rw [← Int.natAbs_mul, r1, Int.natAbs_mul]
    exact ⟨n.natAbs, Nat.mul_comm ..⟩
  have h2 : Nat.Coprime q.natAbs p.natAbs := by
    show Nat.gcd _ _ = 1
    rw [Nat.gcd_comm]; exact g1
  exact Int.natAbs_dvd_natAbs.mp (h2.dvd_of_dvd_mul_left h1)
def shD (e : Bool) (a N : Int) : D := pq e (nm a N) (dn a N)
@[simp] theorem flat_shD (e : Bool) (a N : Int) : flat (shD e a N) = true := flat_pq e _ _
/-! ### one bottom for all -/
def lcmL (a : Int) : List Int → Int
  | [] => a
  | b :: r => lcmL ((Nat.lcm a.natAbs b.natAbs : Nat) : Int) r
theorem lcmL_spec {B : Int} (hB : 0 < B) : ∀ (bs : List Int) (a : Int), 0 < a → a ∣ B → (∀ b ∈ bs, 0 < b ∧ b ∣ B) → 0 < lcmL a bs ∧ lcmL a bs ∣ B ∧ a ∣ lcmL a bs ∧ ∀ b ∈ bs, b ∣ lcmL a bs
  | [], a, ha, hd, _ => ⟨ha, hd, Int.dvd_refl a, by simp⟩
  | b :: r, a, ha, hd, hb => by
    have hb0 := hb b (by simp)
    have z1 : (a.natAbs.lcm b.natAbs : Nat) ∣ B.natAbs := Nat.lcm_dvd (Int.natAbs_dvd_natAbs.mpr hd) (Int.natAbs_dvd_natAbs.mpr hb0.2)
    have z2 : ((a.natAbs.lcm b.natAbs : Nat) : Int) ∣ B := Int.natAbs_dvd_natAbs.mp (by simpa using z1)
    have z3 : (0 : Int) < ((a.natAbs.lcm b.natAbs : Nat) : Int) := by
      have : 0 < a.natAbs.lcm b.natAbs := Nat.lcm_pos (by omega) (by omega)
      omega
    obtain ⟨y1, y2, y3, y4⟩ := lcmL_spec hB r _ z3 z2 fun x hx => hb x (by simp [hx])
    have d1 : a ∣ ((a.natAbs.lcm b.natAbs : Nat) : Int) := Int.natAbs_dvd_natAbs.mp (by simpa using Nat.dvd_lcm_left _ _)
    have d2 : b ∣ ((a.natAbs.lcm b.natAbs : Nat) : Int) := Int.natAbs_dvd_natAbs.mp (by simpa using Nat.dvd_lcm_right _ _)
    refine ⟨y1, y2, Int.dvd_trans d1 y3, fun x hx => ?_⟩
    rcases List.mem_cons.mp hx with rfl | hx
    · exact Int.dvd_trans d2 y3
    · exact y4 x hx
theorem log_of {x : Int} {k : Nat} (hk : 0 < k) (h : x.natAbs < 2 ^ k) : x.natAbs.log2 < k := by
  by_cases h0 : x.natAbs = 0
  · rw [h0]; simpa using hk
  · exact (Nat.log2_lt h0).mpr h
theorem le_abs {x B : Int} (hB : 0 < B) (hd : x ∣ B) : x.natAbs ≤ B.natAbs := Nat.le_of_dvd (by omega) (Int.natAbs_dvd_natAbs.mpr hd)
theorem common_loop {B : Int} (hB : 0 < B) (sB : sm 8000 B) (s0 : Option D) : ∀ (bs : List Int) (a : Int) (x2 : Option D), 0 < a → a ∣ B → (∀ b ∈ bs, 0 < b ∧ b ∣ B) → ∃ y2, fl (fun _ => true) (.n 2) m_common_bottom_l1 (bs.map D.int) [s0, some (.int a), x2] [] = .nx [s0, some (.int (lcmL a bs)), y2] []
  | [], a, x2, _, _, _ => ⟨x2, fl_end rfl⟩
  | b :: r, a, x2, ha, hd, hb => by
    have hb0 := hb b (by simp)
    have z1 : (a.natAbs.lcm b.natAbs : Nat) ∣ B.natAbs := Nat.lcm_dvd (Int.natAbs_dvd_natAbs.mpr hd) (Int.natAbs_dvd_natAbs.mpr hb0.2)
    have z2 : ((a.natAbs.lcm b.natAbs : Nat) : Int) ∣ B := Int.natAbs_dvd_natAbs.mp (by simpa using z1)
    have z3 : (0 : Int) < ((a.natAbs.lcm b.natAbs : Nat) : Int) := by
      have : 0 < a.natAbs.lcm b.natAbs := Nat.lcm_pos (by omega) (by omega)
      omega
    obtain ⟨y2, ih⟩ := common_loop hB sB s0 r _ (some (.int b)) z3 z2 fun x hx => hb x (by simp [hx])
    refine ⟨y2, ?_⟩
    have l1 : a.natAbs.log2 < 8000 := log_of (by decide) (Nat.lt_of_le_of_lt (le_abs hB hd) sB)
    have l2 : b.natAbs.log2 < 8000 := log_of (by decide) (Nat.lt_of_le_of_lt (le_abs hB hb0.2) sB)
    rw [List.map_cons, fl_n (ds' := [s0, some (.int ((a.natAbs.lcm b.natAbs : Nat) : Int)), some (.int b)]) (h' := [])]
    · exact ih
    · simp [m_common_bottom_l1, l1, l2]
theorem common_ok {B : Int} (hB : 0 < B) (sB : sm 8000 B) {bs : List Int} (hb : ∀ b ∈ bs, 0 < b ∧ b ∣ B) (h : Hc) : callL m_common_bottom [.lst (bs.map D.int)] h = .ok (.int (lcmL 1 bs)) h := by
  obtain ⟨y2, e⟩ := common_loop hB sB (some (.lst (bs.map D.int))) bs 1 none (by decide) (Int.one_dvd B) hb
  refine call_flat (h' := []) (by simp) ?_ (by simp) h
  unfold m_common_bottom
  rw [runB_s]
  simp [e]

/-! ### shares lifted to one bottom -/
section
variable {N L : Int} (hN : 0 < N) (hL : 0 < L) (sN : sm 4000 N) (sL : sm 4000 L) {Z : List (Int × List Int)} (hZ : ∀ z ∈ Z, 0 < z.2.sum ∧ z.2.sum ∣ L ∧ sm 4000 z.1) (hlen : Z.length ≤ 1000)
abbrev bt (N : Int) (z : Int × List Int) : Int := dn z.1 N * z.2.sum
abbrev cbt (N : Int) (Z : List (Int × List Int)) : Int := lcmL 1 (Z.map (bt N))
abbrev fc (N : Int) (Z : List (Int × List Int)) (z : Int × List Int) : Int := nm z.1 N * (cbt N Z).fdiv (bt N z)
include hN hL hZ
include sN sL hlen
theorem sB : sm 8000 (N * L) := sm_mul (a := 4000) (b := 4000) sN sL
end

/-! ### a day -/
def stepZ (L : Int) (Z : List (Int × List Int)) (j : Nat) : Int := (Z.map fun z => z.1 * (L / z.2.sum) * z.2.getD j 0).sum
theorem sum_key {α : Type} {f g : α → Int} {B C : Int} : ∀ (Y : List α), (∀ z ∈ Y, f z * B = g z * C) → (Y.map f).sum * B = (Y.map g).sum * C
  | [], _ => by simp
  | z :: r, h => by
    have ih := sum_key r fun x hx => h x (by simp [hx])
    simp only [List.map_cons, List.sum_cons, Int.add_mul]
    rw [ih, h z (by simp)]
section
variable {N L : Int} (hN : 0 < N) (hL : 0 < L) (sN : sm 4000 N) (sL : sm 4000 L) {Z : List (Int × List Int)} (hZ : ∀ z ∈ Z, 0 < z.2.sum ∧ z.2.sum ∣ L ∧ sm 4000 z.1) (hlen : Z.length ≤ 1000) {n : Nat} (hn : n ≤ 1000) (hr : ∀ z ∈ Z, z.2.length = n ∧ ∀ x ∈ z.2, 0 ≤ x ∧ x ≤ 9)
include hN hL hZ sN sL hlen hn hr
end

/-! ### chains -/
structure Chn (M : List (List Int)) : Prop where
  lo : 1 ≤ M.length
  hi : M.length ≤ 5
  row : ∀ r ∈ M, r.length = M.length ∧ 0 < r.sum ∧ ∀ x ∈ r, 0 ≤ x ∧ x ≤ 9
def ch (b : Bool) (M : List (List Int)) : D := sqs b (M.map (sq b))
def prodL : List (List Int) → Int
  | [] => 1
  | r :: R => r.sum * prodL R
theorem sum_le9 : ∀ (r : List Int), (∀ x ∈ r, 0 ≤ x ∧ x ≤ 9) → 0 ≤ r.sum ∧ r.sum ≤ 9 * r.length
  | [], _ => by simp
  | x :: r, h => by
    have ih := sum_le9 r fun y hy => h y (by simp [hy])
    have := h x (by simp)
    simp only [List.sum_cons, List.length_cons]
    omega
/-! ### the shares of a day -/
def dayA (M : List (List Int)) (s : Nat) : Nat → List Int
  | 0 => (List.range' 0 M.length).map fun k => if k = s then 1 else 0
  | d + 1 => (List.range' 0 M.length).map fun j => stepZ (prodL M) ((dayA M s d).zip M) j
/-! ### handed in as it is or as lists throughout -/
def lsdN : Nat → D → D
  | 0, d => d
  | n + 1, .tup xs => .lst (xs.map (lsdN n))
  | _ + 1, d => d
def lsFit : Nat → D → Bool
  | 0, _ => false
  | n + 1, .tup xs => decide (xs.length ≤ 1000000) && xs.all (lsFit n)
  | _ + 1, .int _ => true
  | _ + 1, .str _ => true
  | _ + 1, .bl _ => true
  | _ + 1, .non => true
  | _ + 1, _ => false
theorem lsFit_flat : ∀ (n : Nat) (d : D), lsFit n d = true → flat d = true ∧ flat (lsdN n d) = true
  | 0, d, h => by simp [lsFit] at h
  | n + 1, d, h => by
    cases d with
    | tup xs =>
      unfold lsFit at h
      rw [Bool.and_eq_true] at h
      have hx := List.all_eq_true.mp h.2
      refine ⟨by rw [flat_tup]; exact flatL_of fun x hx' => (lsFit_flat n x (hx x hx')).1, ?_⟩
      show flat (.lst (xs.map (lsdN n))) = true
      rw [flat_lst]
      refine flatL_of fun y hy => ?_
      obtain ⟨x, hx', rfl⟩ := List.mem_map.mp hy
      exact (lsFit_flat n x (hx x hx')).2
    | int i => exact ⟨by simp, by simp [lsdN]⟩
    | str i => exact ⟨by simp, by simp [lsdN]⟩
    | bl i => exact ⟨by simp, by simp [lsdN]⟩
    | non => exact ⟨by simp, by simp [lsdN]⟩
    | _ => simp [lsFit] at h
theorem listed_gen : ∀ (n : Nat) (d : D) (h : Hc), lsFit n d = true → callL (m_law_listed n) [d] h = .ok (lsdN n d) h
  | 0, d, h, f => by simp [lsFit] at f
  | n + 1, d, h, f => by
    have ff := lsFit_flat (n + 1) d f
    refine call_flat (h' := []) (by simp [ff.1]) ?_ ff.2 h
    unfold m_law_listed
    rw [runB_s]
    cases d with
    | tup xs =>
      unfold lsFit at f
      rw [Bool.and_eq_true] at f
      have hx := List.all_eq_true.mp f.2
      have hl : xs.length ≤ 1000000 := by simpa using f.1
      have e := lcR_map (chk := fun _ => true) (p := .n 1) (own := [1]) (m := m_law_listed_c1 (m_law_listed n)) (ds := [some (.tup xs), none]) (h := []) (lsdN n) rfl xs [] (by simpa using hl) (fun d hd => ⟨_, bindP_n .., by
        have := fun h => listed_gen n d h (hx d hd)
        simp [m_law_listed_c1, this]⟩)
      simp only [List.nil_append] at e
      simp [e, lsdN]
    | int i => simp [lsdN]
    | str i => simp [lsdN]
    | bl i => simp [lsdN]
    | non => simp [lsdN]
    | _ => simp [lsFit] at f
theorem handed_gen {row : List Int} (hr : row ≠ []) {k : Int} {d : D} {i : Nat} {h : Hc} (f : lsFit 24 d = true) (hi : h[i]? = some (.lst [.int k])) (hk : 0 ≤ k) : ∃ (b : Bool) (k' : Int), 0 ≤ k' ∧ callL m_law_handed [.lst (row.map D.int), .ref i, d] h = .ok (if b then lsdN 24 d else d) (h.set i (.lst [.int k'])) := by
  obtain ⟨v1, k1, a1, b1, c1, e1⟩ := take_ex hr (h := [.lst [.int k]]) (i := 0) (l := 2) rfl hk (by decide)
  simp at e1
  have ff := lsFit_flat 24 d f
  refine ⟨decide (v1 = 0), k1, c1, call_spot (d0 := if decide (v1 = 0) then lsdN 24 d else d) (h' := [.lst [.int k1]]) (by simp) (by simp [ff.1]) hi ?_ rfl fun j => frzD_flat (by split; exact ff.2; exact ff.1)⟩
  unfold m_law_handed
  rw [runB_s]
  have e2 := fun h => listed_gen 24 d h f
  by_cases hv : v1 = 0
  · simp [e1, hv, e2]
  · simp [e1, hv]
theorem fit_row (n : Nat) (r : List Int) (hl : r.length ≤ 1000) : lsFit (n + 2) (sq false r) = true := by
  have : sq false r = .tup (r.map D.int) := rfl
  rw [this]
  unfold lsFit
  simp [lsFit]
  omega
/-! ### the start, the law's shares -/
/-! ### drawn chains -/
theorem sum_pos_mem : ∀ {r : List Int}, (∀ x ∈ r, 0 ≤ x) → (∃ x ∈ r, 1 ≤ x) → 0 < r.sum
  | [], _, ⟨_, h, _⟩ => by simp at h
  | y :: r, h, ⟨x, hx, h1⟩ => by
    have h0 := h y (by simp)
    have hr : 0 ≤ r.sum := by
      have : ∀ (l : List Int), (∀ x ∈ l, 0 ≤ x) → 0 ≤ l.sum := fun l => by
        induction l with
        | nil => simp
        | cons a l ih => intro h; have := ih fun x hx => h x (by simp [hx]); have := h a (by simp); simp only [List.sum_cons]; omega
      exact this r fun x hx => h x (by simp [hx])
    simp only [List.sum_cons]
    rcases List.mem_cons.mp hx with rfl | hx
    · omega
    · have := sum_pos_mem (r := r) (fun x hx => h x (by simp [hx])) ⟨x, hx, h1⟩
      omega
section
variable {row : List Int} (hr : row ≠ [])
include hr
end
end Mp
namespace Mp
/-! RatA: rational values and how long their numbers are. -/
def qs (k : Nat) (q : Rat) : Prop := q.num.natAbs < 2 ^ k ∧ q.den < 2 ^ k
theorem qs_le {a b : Nat} {q : Rat} (h : a ≤ b) (x : qs a q) : qs b q :=
  ⟨Nat.lt_of_lt_of_le x.1 (Nat.pow_le_pow_right (by decide) h), Nat.lt_of_lt_of_le x.2 (Nat.pow_le_pow_right (by decide) h)⟩
theorem q_of_div (a : Int) {b : Int} (hb : 0 < b) : ((a : Rat) / (b : Rat)).num = a / (Int.gcd a b : Int) ∧ ((a : Rat) / (b : Rat)).den = b.natAbs / Int.gcd a b := by
  rw [← Rat.divInt_eq_div, Rat.num_divInt, Rat.den_divInt, Int.sign_eq_one_of_pos hb, Int.one_mul, if_neg (by omega), Int.gcd_comm b a]
  exact ⟨rfl, rfl⟩
theorem qs_div {k : Nat} {a b : Int} (hb : b ≠ 0) (sa : a.natAbs < 2 ^ k) (sb : b.natAbs < 2 ^ k) : qs k ((a : Rat) / (b : Rat)) := by
  have go : ∀ {a b : Int}, 0 < b → a.natAbs < 2 ^ k → b.natAbs < 2 ^ k → qs k ((a : Rat) / (b : Rat)) := fun {a b} hb sa sb => by
    obtain ⟨e1, e2⟩ := q_of_div a hb
    refine ⟨?_, ?_⟩
    · rw [e1]; exact Nat.lt_of_le_of_lt (Int.natAbs_ediv_le_natAbs _ _) sa
    · rw [e2]; exact Nat.lt_of_le_of_lt (Nat.div_le_self _ _) sb
  by_cases h : 0 < b
  · exact go h sa sb
  · have e : (a : Rat) / (b : Rat) = ((-a : Int) : Rat) / ((-b : Int) : Rat) := by
      have : (b : Rat) ≠ 0 := by simpa using hb
      rw [Rat.intCast_neg, Rat.intCast_neg]
      grind
    rw [e]
    exact go (by omega) (by omega) (by omega)
theorem q_self (q : Rat) : q = (q.num : Rat) / ((q.den : Int) : Rat) := by
  conv => lhs; rw [← Rat.num_divInt_den q]
  rw [Rat.divInt_eq_div]
theorem den_ne (q : Rat) : ((q.den : Int) : Rat) ≠ 0 := by
  have := q.den_nz
  simpa using this
theorem add_val (p q : Rat) : ((p.num * q.den + q.num * p.den : Int) : Rat) / ((p.den * q.den : Int) : Rat) = p + q := by
  have h1 := den_ne p
  have h2 := den_ne q
  conv => rhs; rw [q_self p, q_self q]
  simp only [Rat.intCast_add, Rat.intCast_mul]
  grind
theorem sub_val (p q : Rat) : ((p.num * q.den - q.num * p.den : Int) : Rat) / ((p.den * q.den : Int) : Rat) = p - q := by
  have h1 := den_ne p
  have h2 := den_ne q
  conv => rhs; rw [q_self p, q_self q]
  simp only [Rat.intCast_sub, Rat.intCast_mul]
  grind
theorem mul_val (p q : Rat) : ((p.num * q.num : Int) : Rat) / ((p.den * q.den : Int) : Rat) = p * q := by
  have h1 := den_ne p
  have h2 := den_ne q
  conv => rhs; rw [q_self p, q_self q]
  simp only [Rat.intCast_mul]
  grind
theorem num_ne {q : Rat} (hq : q ≠ 0) : q.num ≠ 0 := fun z => hq (Rat.num_eq_zero.mp z)
theorem div_val (p q : Rat) (hq : q ≠ 0) : ((p.num * q.den : Int) : Rat) / ((p.den * q.num : Int) : Rat) = p / q := by
  have hn : (q.num : Rat) ≠ 0 := by have := num_ne hq; simpa using this
  have h1 := den_ne p
  have h2 := den_ne q
  conv => rhs; rw [q_self p, q_self q]
  simp only [Rat.intCast_mul]
  grind
theorem dden_ne (p q : Rat) : (p.den * q.den : Int) ≠ 0 := by
  have := Nat.mul_pos p.den_pos q.den_pos
  have : ((p.den * q.den : Nat) : Int) ≠ 0 := by omega
  simpa using this
theorem qs_add {a b : Nat} {p q : Rat} (x : qs a p) (y : qs b q) : qs (a + b + 1) (p + q) := by
  have e : p + q = ((p.num * q.den + q.num * p.den : Int) : Rat) / ((p.den * q.den : Int) : Rat) := by
    have h1 := den_ne p
    have h2 := den_ne q
    conv => lhs; rw [q_self p, q_self q]
    simp only [Rat.intCast_add, Rat.intCast_mul]
    grind
  rw [e]
  have pp := Nat.two_pow_pos
  have m1 : p.num.natAbs * q.den ≤ 2 ^ a * 2 ^ b := Nat.mul_le_mul (Nat.le_of_lt x.1) (Nat.le_of_lt y.2)
  have m2 : q.num.natAbs * p.den < 2 ^ b * 2 ^ a := Nat.mul_lt_mul'' y.1 x.2
  have m3 : p.den * q.den < 2 ^ a * 2 ^ b := Nat.mul_lt_mul'' x.2 y.2
  have e3 : 2 ^ (a + b + 1) = 2 ^ a * 2 ^ b + 2 ^ b * 2 ^ a := by rw [Nat.pow_succ, Nat.pow_add, Nat.mul_comm (2 ^ b)]; omega
  refine qs_div ?_ ?_ ?_
  · have := Nat.mul_pos p.den_pos q.den_pos
    have : ((p.den * q.den : Nat) : Int) ≠ 0 := by omega
    simpa using this
  · rw [e3]
    refine Nat.lt_of_le_of_lt (Int.natAbs_add_le _ _) ?_
    rw [Int.natAbs_mul, Int.natAbs_mul]
    simp only [Int.natAbs_natCast]; omega
  · rw [e3, Int.natAbs_mul]
    simp only [Int.natAbs_natCast]; omega
theorem qs_neg {a : Nat} {p : Rat} (x : qs a p) : qs a (-p) := by
  refine ⟨?_, ?_⟩
  · have := x.1; rw [Rat.neg_num]; omega
  · rw [Rat.neg_den]; exact x.2
theorem qs_sub {a b : Nat} {p q : Rat} (x : qs a p) (y : qs b q) : qs (a + b + 1) (p - q) := by
  rw [Rat.sub_eq_add_neg]; exact qs_add x (qs_neg y)
theorem qs_mul {a b : Nat} {p q : Rat} (x : qs a p) (y : qs b q) : qs (a + b) (p * q) := by
  have e : p * q = ((p.num * q.num : Int) : Rat) / ((p.den * q.den : Int) : Rat) := by
    have h1 := den_ne p
    have h2 := den_ne q
    conv => lhs; rw [q_self p, q_self q]
    simp only [Rat.intCast_mul]
    grind
  rw [e]
  refine qs_div ?_ ?_ ?_
  · have := Nat.mul_pos p.den_pos q.den_pos
    have : ((p.den * q.den : Nat) : Int) ≠ 0 := by omega
    simpa using this
  · rw [Nat.pow_add, Int.natAbs_mul]; exact Nat.mul_lt_mul'' x.1 y.1
  · rw [Nat.pow_add, Int.natAbs_mul]
    simp only [Int.natAbs_natCast]; exact Nat.mul_lt_mul'' x.2 y.2
theorem qs_quo {a b : Nat} {p q : Rat} (x : qs a p) (y : qs b q) (hq : q ≠ 0) : qs (a + b) (p / q) := by
  have hn : (q.num : Rat) ≠ 0 := by
    intro z
    have : q.num = 0 := by simpa using z
    exact hq (Rat.num_eq_zero.mp this)
  have hn' : q.num ≠ 0 := by simpa using hn
  have e : p / q = ((p.num * q.den : Int) : Rat) / ((p.den * q.num : Int) : Rat) := by
    have h1 := den_ne p
    have h2 := den_ne q
    conv => lhs; rw [q_self p, q_self q]
    simp only [Rat.intCast_mul]
    grind
  rw [e]
  refine qs_div ?_ ?_ ?_
  · have := p.den_pos
    have : (p.den : Int) ≠ 0 := by omega
    exact Int.mul_ne_zero this hn'
  · rw [Nat.pow_add, Int.natAbs_mul]; exact Nat.mul_lt_mul'' x.1 y.2
  · rw [Nat.pow_add, Int.natAbs_mul]; exact Nat.mul_lt_mul'' x.2 y.1
theorem qs_int {k : Nat} {i : Int} (h : i.natAbs < 2 ^ k) (hk : 1 ≤ k) : qs k (i : Rat) := by
  refine ⟨by simpa using h, ?_⟩
  have : (2 : Nat) ^ 1 ≤ 2 ^ k := Nat.pow_le_pow_right (by decide) hk
  simp; omega
end Mp
/-! RatSpec: fractions as rational values. -/
namespace Mp
open PySem PySem.Spec PyProof.Rows L2
def qD (q : Rat) : D := .tup [.int q.num, .int (q.den : Int)]
def qE (e : Bool) (q : Rat) : D := pq e q.num q.den
@[simp] theorem qE_ff (q : Rat) : qE false q = qD q := rfl
@[simp] theorem flat_qD (q : Rat) : flat (qD q) = true := by simp [qD]
@[simp] theorem flat_qE (e : Bool) (q : Rat) : flat (qE e q) = true := by cases e <;> simp [qE, pq]
theorem rdc_q (a : Int) {b : Int} (hb : b ≠ 0) : rdc a b = qD ((a : Rat) / (b : Rat)) := by
  have g0 : Int.gcd a b ≠ 0 := by
    intro z
    exact hb (Int.gcd_eq_zero_iff.mp z).2
  unfold rdc qD
  by_cases h : 0 < b
  · obtain ⟨e1, e2⟩ := q_of_div a h
    rw [e1, e2]
    have e : sg a b = (Int.gcd a b : Int) := by unfold sg; rw [if_neg (by omega)]
    rw [e, Int.fdiv_eq_ediv_of_nonneg _ (by omega), Int.fdiv_eq_ediv_of_nonneg _ (by omega)]
    congr 3
    rw [Int.natCast_ediv]
    congr 2
    omega
  · have e : (a : Rat) / (b : Rat) = ((-a : Int) : Rat) / ((-b : Int) : Rat) := by
      have : (b : Rat) ≠ 0 := by simpa using hb
      rw [Rat.intCast_neg, Rat.intCast_neg]
      grind
    obtain ⟨e1, e2⟩ := q_of_div (-a) (show 0 < -b by omega)
    rw [e, e1, e2]
    have e : sg a b = -(Int.gcd a b : Int) := by unfold sg; rw [if_pos (by omega)]
    have ea : (-(Int.gcd a b : Int)) ∣ a := Int.neg_dvd.mpr (Int.gcd_dvd_left ..)
    have eb : (-(Int.gcd a b : Int)) ∣ b := Int.neg_dvd.mpr (Int.gcd_dvd_right ..)
    rw [e, Int.fdiv_eq_ediv_of_dvd ea, Int.fdiv_eq_ediv_of_dvd eb]
    have g : Int.gcd (-a) (-b) = Int.gcd a b := by simp
    rw [g]
    congr 3
    · rw [Int.ediv_neg, Int.neg_ediv_of_dvd (Int.gcd_dvd_left ..)]
    · rw [Int.natCast_ediv, Int.ediv_neg]
      have : ((-b).natAbs : Int) = -b := by omega
      rw [this, Int.neg_ediv_of_dvd (Int.gcd_dvd_right ..)]
theorem qD_int (i : Int) : qD (i : Rat) = .tup [.int i, .int 1] := by simp [qD]
section
variable {p q : Rat}
theorem qsm (x : qs 4000 p) : sm 4000 p.num ∧ sm 4000 (p.den : Int) := ⟨x.1, by unfold sm; simpa using x.2⟩
theorem qpos (p : Rat) : (1 : Int) ≤ p.den := by have := p.den_pos; omega
theorem qgcd (p : Rat) : Int.gcd p.num (p.den : Int) = 1 := p.reduced
variable (x : qs 4000 p) (y : qs 4000 q)
include x y
theorem plus_q (e f : Bool) (h : Hc) : callL m_plus [qE e p, qE f q] h = .ok (qD (p + q)) h := by
  have := plus_ok e f (qsm x).1 (qsm x).2 (qsm y).1 (qsm y).2 (qpos p) (qgcd p) (qpos q) (qgcd q) h
  rw [rdc_q _ (dden_ne p q), add_val] at this
  exact this
theorem less_q (e f : Bool) (h : Hc) : callL m_less [qE e p, qE f q] h = .ok (.bl (decide (p < q))) h := by
  have := less_ok e f (qsm x).1 (qsm x).2 (qsm y).1 (qsm y).2 (qpos p) (qgcd p) (qpos q) (qgcd q) h
  simp only [← Rat.lt_iff] at this
  exact this
theorem law_add_q (h : Hc) : callL m_law_add [qD p, qD q] h = .ok (qD (p + q)) h := by
  have pd := qpos p
  have qd := qpos q
  have := law_add_ok (qsm x).1 (qsm x).2 (qsm y).1 (qsm y).2 (by omega) (by omega) h
  rw [rdc_q _ (dden_ne p q), add_val] at this
  exact this
theorem law_less_q (h : Hc) : callL m_law_less [qD p, qD q] h = .ok (.bl (decide (p < q))) h := by
  have := law_less_ok (qsm x).1 (qsm x).2 (qsm y).1 (qsm y).2 h
  simp only [← Rat.lt_iff] at this
  exact this
end
theorem is_fraction_q (e : Bool) (q : Rat) (h : Hc) : callL m_is_fraction [qE e q] h = .ok (.bl true) h := is_fraction_ok e (qpos q) (qgcd q) h
theorem q_ix0 (e : Bool) (q : Rat) (h : Hc) : ixF (qE e q) (.int 0) h = .ok (.int q.num) h := by cases e <;> simp [qE, pq]
theorem qD_ix0 (q : Rat) (h : Hc) : ixF (qD q) (.int 0) h = .ok (.int q.num) h := q_ix0 false q h
end Mp
namespace Mp
open PySem PySem.Spec PyProof.Rows L2
/-! ### mirrors: Hid -/
def m_law_hidden_c1 : SE :=
  (eCall m_law_pick (aCons (eVar 0) (aCons (eVar 1) (aCons (eLst (aCons (eC (.int 0)) (aCons (eC (.int 1)) (aCons (eC (.int 1)) (aCons (eC (.int 2)) (aCons (eC (.int 9)) aNil)))))) aNil))))
def m_law_hidden_l1 : SS :=
  (sSeq (sSet 6 (eLcC (iRg1 (aCons (eVar 2) aNil)) (.n 10) [10] (fun _ h => .ok true h) m_law_hidden_c1))
    (sSeq (sIf (bEx (eOp eqF (eCB sumA (aCons (eVar 6) aNil)) (eC (.int 0))))
      (sPut setF (eOp addF (eC (.int 1)) (eCall m_law_take (aCons (eVar 0) (aCons (eVar 1) (aCons (eC (.int 3)) aNil))))) (eVar 6) (eVar 5))
      sNext)
    (sSeq (sDrop (eBM "list" appF (eVar 3) (aCons (eCB tupleF (aCons (eVar 6) aNil)) aNil)))
    (sSeq (sSet 7 (eCall m_law_pick (aCons (eVar 0) (aCons (eVar 1) (aCons (eLst (aCons (eTup (aCons (eC (.int 1)) (aCons (eC (.int 0)) aNil))) (aCons (eTup (aCons (eC (.int 0)) (aCons (eC (.int 1)) aNil))) (aCons (eTup (aCons (eC (.int 1)) (aCons (eC (.int 1)) aNil))) (aCons (eTup (aCons (eC (.int 3)) (aCons (eC (.int 1)) aNil))) (aCons (eTup (aCons (eC (.int 1)) (aCons (eC (.int 4)) aNil))) (aCons (eTup (aCons (eC (.int 9)) (aCons (eC (.int 9)) aNil))) (aCons (eTup (aCons (eC (.int 0)) (aCons (eC (.int 5)) aNil))) aNil)))))))) aNil)))))
    (sDrop (eBM "list" appF (eVar 4) (aCons (eVar 7) aNil)))))))
def m_law_hidden_c2 : SE :=
  (eCall m_law_pick (aCons (eVar 0) (aCons (eVar 1) (aCons (eLst (aCons (eC (.int 0)) (aCons (eC (.int 1)) (aCons (eC (.int 2)) (aCons (eC (.int 5)) (aCons (eC (.int 10)) (aCons (eC (.int 30)) (aCons (eC (.int 1000)) aNil)))))))) aNil))))
/-- _law_hidden: row 0, spot 1, many 2, moves 3, looks 4, s 5, weights 6, pair 7, costs 8, one 9, j 10 -/
def m_law_hidden : Fn := runB 11
  (sSeq (sSet 2 (eOp addF (eC (.int 2)) (eCall m_law_take (aCons (eVar 0) (aCons (eVar 1) (aCons (eC (.int 2)) aNil))))))
  (sSeq (sSet 3 (eCell aNil))
  (sSeq (sSet 4 (eCell aNil))
  (sSeq (sFor (iRg1 (aCons (eVar 2) aNil)) (.n 5)
    m_law_hidden_l1)
  (sSeq (sSet 8 (eLc (iRg1 (aCons (eVar 2) aNil)) (.n 5) [5] (fun _ h => .ok true h) m_law_hidden_c2))
  (sSeq (sSet 9 (eCall m_law_pick (aCons (eVar 0) (aCons (eVar 1) (aCons (eLst (aCons (eC (.int 0)) (aCons (eC (.int 1)) (aCons (eC (.int 2)) (aCons (eC (.int 5)) (aCons (eC (.int 1000)) aNil)))))) aNil)))))
  (sRet (eTup (aCons (eCB tupleF (aCons (eVar 3) aNil)) (aCons (eCB tupleF (aCons (eVar 8) aNil)) (aCons (eCB tupleF (aCons (eVar 4) aNil)) (aCons (eVar 9) (aCons (eCall m_law_pick (aCons (eVar 0) (aCons (eVar 1) (aCons (eLst (aCons (eC (.int 0)) (aCons (eC (.int 1)) (aCons (eC (.int 3)) (aCons (eC (.int 8)) (aCons (eC (.int 20)) (aCons (eC (.int 1000)) aNil))))))) aNil)))) aNil)))))))))))))
def m_law_belief_c1 : SE :=
  (eCall m_law_pick (aCons (eVar 0) (aCons (eVar 1) (aCons (eLst (aCons (eC (.int 0)) (aCons (eC (.int 1)) (aCons (eC (.int 1)) (aCons (eC (.int 2)) (aCons (eC (.int 5)) aNil)))))) aNil))))
def m_law_belief_c2 : SE :=
  (eCall (m_law_red 24) (aCons (eVar 5) (aCons (eCB sumA (aCons (eVar 3) aNil)) aNil)))
/-- _law_belief: row 0, spot 1, many 2, weights 3, s 4, one 5 -/
def m_law_belief : Fn := runB 6
  (sSeq (sSet 3 (eLcC (iRg1 (aCons (eVar 2) aNil)) (.n 4) [4] (fun _ h => .ok true h) m_law_belief_c1))
  (sSeq (sIf (bEx (eOp eqF (eCB sumA (aCons (eVar 3) aNil)) (eC (.int 0))))
    (sPut setF (eC (.int 1)) (eVar 3) (eCall m_law_take (aCons (eVar 0) (aCons (eVar 1) (aCons (eVar 2) aNil)))))
    sNext)
  (sRet (eCB tupleF (aCons (eLc (iSeq (eVar 3)) (.n 5) [5] (fun _ h => .ok true h) m_law_belief_c2) aNil)))))
/-- _law_signal: model 0, s 1, good 2, pair 3 -/
def m_law_signal : Fn := runB 4
  (sSeq (sSet 3 (eOp ixF (eOp ixF (eVar 0) (eC (.int 2))) (eVar 1)))
  (sRet (eCall (m_law_red 24) (aCons (eIf (bTru (eVar 2)) (eOp ixF (eVar 3) (eC (.int 0))) (eOp ixF (eVar 3) (eC (.int 1)))) (aCons (eOp addF (eOp ixF (eVar 3) (eC (.int 0))) (eOp ixF (eVar 3) (eC (.int 1)))) aNil)))))
def m_law_seen_chance_l1 : SS :=
  (sSet 3 (eCall m_law_add (aCons (eVar 3) (aCons (eCall m_law_mul (aCons (eOp ixF (eVar 1) (eVar 4)) (aCons (eCall m_law_signal (aCons (eVar 0) (aCons (eVar 4) (aCons (eVar 2) aNil)))) aNil))) aNil))))
/-- _law_seen_chance: model 0, belief 1, good 2, total 3, s 4 -/
def m_law_seen_chance : Fn := runB 5
  (sSeq (sSet 3 (eTup (aCons (eC (.int 0)) (aCons (eC (.int 1)) aNil))))
  (sSeq (sFor (iRg1 (aCons (eCB lenF (aCons (eVar 1) aNil)) aNil)) (.n 4)
    m_law_seen_chance_l1)
  (sRet (eVar 3))))
def m_is_looks_c1 : SE :=
  (eCall m_is_weights (aCons (eVar 2) (aCons (eC (.int 2)) aNil)))
/-- is_looks: looks 0, many 1, pair 2 -/
def m_is_looks : Fn := runB 3
  (sRet (eAnd (eCall m_is_row (aCons (eVar 0) (aCons (eVar 1) (aCons (eVar 1) aNil)))) (eCB allF (aCons (eLc (iSeq (eVar 0)) (.n 2) [2] (fun _ h => .ok true h) m_is_looks_c1) aNil))))
def m_is_hidden_c1 : SE :=
  (eCall m_is_weights (aCons (eVar 7) (aCons (eVar 6) aNil)))
def m_is_hidden_c2 : SE :=
  (eCall m_is_within (aCons (eVar 8) (aCons (eC (.int 0)) (aCons (eC (.int 1000)) aNil))))
/-- is_hidden: model 0, moves 1, costs 2, looks 3, look_cost 4, mend_cost 5, many 6, row 7, cost 8 -/
def m_is_hidden : Fn := runB 9
  (sSeq (sIf (bNot (bTru (eCall m_is_row (aCons (eVar 0) (aCons (eC (.int 5)) (aCons (eC (.int 5)) aNil))))))
    (sRet (eC (.bl false)))
    sNext)
  (sSeq (sAsg (.t ((.n 1) :: ((.n 2) :: ((.n 3) :: ((.n 4) :: ((.n 5) :: [])))))) (eVar 0))
  (sSeq (sIf (bNot (bTru (eCall m_is_row (aCons (eVar 1) (aCons (eC (.int 2)) (aCons (eC (.int 3)) aNil))))))
    (sRet (eC (.bl false)))
    sNext)
  (sSeq (sSet 6 (eCB lenF (aCons (eVar 1) aNil)))
  (sSeq (sIf (bOr (bNot (bTru (eCB allF (aCons (eLc (iSeq (eVar 1)) (.n 7) [7] (fun _ h => .ok true h) m_is_hidden_c1) aNil)))) (bNot (bTru (eCall m_is_looks (aCons (eVar 3) (aCons (eVar 6) aNil))))))
    (sRet (eC (.bl false)))
    sNext)
  (sSeq (sIf (bOr (bNot (bTru (eCall m_is_row (aCons (eVar 2) (aCons (eVar 6) (aCons (eVar 6) aNil)))))) (bNot (bTru (eCB allF (aCons (eLc (iSeq (eVar 2)) (.n 8) [8] (fun _ h => .ok true h) m_is_hidden_c2) aNil)))))
    (sRet (eC (.bl false)))
    sNext)
  (sRet (eAnd (eCall m_is_within (aCons (eVar 4) (aCons (eC (.int 0)) (aCons (eC (.int 1000)) aNil)))) (eCall m_is_within (aCons (eVar 5) (aCons (eC (.int 0)) (aCons (eC (.int 1000)) aNil))))))))))))
def m_total_of_c1 : SE :=
  (eVar 3)
def m_total_of_c2 : SE :=
  (eOp mulF (eVar 4) (eOp fdivF (eVar 1) (eVar 3)))
/-- total_of: fractions 0, common 1, _ 2, bottom 3, top 4 -/
def m_total_of : Fn := runB 5
  (sSeq (sSet 1 (eCall m_common_bottom (aCons (eLc (iSeq (eVar 0)) (.t ((.n 2) :: ((.n 3) :: []))) [2, 3] (fun _ h => .ok true h) m_total_of_c1) aNil)))
  (sRet (eCall m_reduced (aCons (eCB sumA (aCons (eLc (iSeq (eVar 0)) (.t ((.n 4) :: ((.n 3) :: []))) [4, 3] (fun _ h => .ok true h) m_total_of_c2) aNil)) (aCons (eVar 1) aNil)))))
/-- is_chance: x 0 -/
def m_is_chance : Fn := runB 1
  (sRet (eAnd (eCall m_is_fraction (aCons (eVar 0) aNil)) (eAnd (eOp leF (eC (.int 0)) (eOp ixF (eVar 0) (eC (.int 0)))) (eOp leF (eOp ixF (eVar 0) (eC (.int 0))) (eOp ixF (eVar 0) (eC (.int 1)))))))
def m_is_belief_c1 : SE :=
  (eCall m_is_chance (aCons (eVar 1) aNil))
/-- is_belief: belief 0, chance 1 -/
def m_is_belief : Fn := runB 2
  (sSeq (sIf (bOr (bNot (bTru (eCall m_is_sequence (aCons (eVar 0) aNil)))) (bNot (bTru (eCB allF (aCons (eLc (iSeq (eVar 0)) (.n 1) [1] (fun _ h => .ok true h) m_is_belief_c1) aNil)))))
    (sRet (eC (.bl false)))
    sNext)
  (sRet (eOp eqF (eCall m_total_of (aCons (eVar 0) aNil)) (eTup (aCons (eC (.int 1)) (aCons (eC (.int 1)) aNil))))))
/-- check_belief: model 0, belief 1 -/
def m_check_belief : Fn := runB 2
  (sSeq (sIf (bNot (bTru (eCall m_is_hidden (aCons (eVar 0) aNil))))
    (sRaise "BadValue" ["at"] (aCons (eC (.int 0)) aNil))
    sNext)
  (sIf (bNot (bTru (eCall m_is_belief (aCons (eVar 1) aNil))))
    (sRaise "BadValue" ["at"] (aCons (eC (.int 1)) aNil))
    sNext))
/-- check_levels: model 0, belief 1 -/
def m_check_levels : Fn := runB 2
  (sIf (bEx (eOp neF (eCB lenF (aCons (eVar 1) aNil)) (eCB lenF (aCons (eOp ixF (eVar 0) (eC (.int 0))) aNil))))
    (sRaise "BadValue" ["at"] (aCons (eC (.int 1)) aNil))
    sNext)
/-- moved: model 0, belief 1 -/
def m_moved : Fn := runB 2
  (sSeq (sDrop (eCall m_check_belief (aCons (eVar 0) (aCons (eVar 1) aNil))))
  (sSeq (sDrop (eCall m_check_levels (aCons (eVar 0) (aCons (eVar 1) aNil))))
  (sRet (eCall m_spread (aCons (eOp ixF (eVar 0) (eC (.int 0))) (aCons (eVar 1) aNil))))))
def m_law_moved_c1 : SE :=
  (eTup (aCons (eC (.int 0)) (aCons (eC (.int 1)) aNil)))
def m_law_moved_l1 : SS :=
  (sPut setF (eCall m_law_add (aCons (eOp ixF (eVar 2) (eVar 5)) (aCons (eCall m_law_mul (aCons (eOp ixF (eVar 1) (eVar 3)) (aCons (eOp ixF (eVar 4) (eVar 5)) aNil))) aNil))) (eVar 2) (eVar 5))
def m_law_moved_l2 : SS :=
  (sSeq (sSet 4 (eCall m_law_shares (aCons (eOp ixF (eVar 0) (eC (.int 0))) (aCons (eVar 3) aNil))))
    (sFor (iRg1 (aCons (eCB lenF (aCons (eVar 1) aNil)) aNil)) (.n 5)
      m_law_moved_l1))
/-- _law_moved: model 0, belief 1, made 2, s 3, shares 4, j 5, one 6 -/
def m_law_moved : Fn := runB 7
  (sSeq (sSet 2 (eLcC (iSeq (eVar 1)) (.n 6) [6] (fun _ h => .ok true h) m_law_moved_c1))
  (sSeq (sFor (iRg1 (aCons (eCB lenF (aCons (eVar 1) aNil)) aNil)) (.n 3)
    m_law_moved_l2)
  (sRet (eCB tupleF (aCons (eVar 2) aNil)))))
/-- check_look: model 0, belief 1, good 2 -/
def m_check_look : Fn := runB 3
  (sSeq (sDrop (eCall m_check_belief (aCons (eVar 0) (aCons (eVar 1) aNil))))
  (sSeq (sIf (bNot (bTru (eCB isF (aCons (eVar 2) (aCons (eC (.ty "bool")) aNil)))))
    (sRaise "BadValue" ["at"] (aCons (eC (.int 2)) aNil))
    sNext)
  (sDrop (eCall m_check_levels (aCons (eVar 0) (aCons (eVar 1) aNil))))))
/-- place_of: good 0 -/
def m_place_of : Fn := runB 1
  (sSeq (sIf (bTru (eVar 0))
    (sRet (eC (.int 0)))
    sNext)
  (sRet (eC (.int 1))))
/-- seen_chance: model 0, belief 1, good 2 -/
def m_seen_chance : Fn := runB 3
  (sSeq (sDrop (eCall m_check_look (aCons (eVar 0) (aCons (eVar 1) (aCons (eVar 2) aNil)))))
  (sRet (eOp ixF (eCall m_spread (aCons (eOp ixF (eVar 0) (eC (.int 2))) (aCons (eVar 1) aNil))) (eCall m_place_of (aCons (eVar 2) aNil)))))
def m_revised_c1 : SE :=
  (eOp mulF (eVar 7) (eOp ixF (eVar 8) (eVar 2)))
def m_revised_c2 : SE :=
  (eCall m_reduced (aCons (eVar 9) (aCons (eVar 6) aNil)))
/-- revised: rows 0, shares 1, at 2, factors 3, _ 4, tops 5, whole 6, factor 7, row 8, top 9 -/
def m_revised : Fn := runB 10
  (sSeq (sAsg (.t ((.n 3) :: ((.n 4) :: []))) (eCall m_lifted (aCons (eVar 0) (aCons (eVar 1) aNil))))
  (sSeq (sSet 5 (eLc (iZip (aCons (eVar 3) (aCons (eVar 0) aNil))) (.t ((.n 7) :: ((.n 8) :: []))) [7, 8] (fun _ h => .ok true h) m_revised_c1))
  (sSeq (sSet 6 (eCB sumA (aCons (eVar 5) aNil)))
  (sRet (eCB tupleF (aCons (eLc (iSeq (eVar 5)) (.n 9) [9] (fun _ h => .ok true h) m_revised_c2) aNil))))))
/-- looked: model 0, belief 1, good 2, at 3 -/
def m_looked : Fn := runB 4
  (sSeq (sDrop (eCall m_check_look (aCons (eVar 0) (aCons (eVar 1) (aCons (eVar 2) aNil)))))
  (sSeq (sSet 3 (eCall m_place_of (aCons (eVar 2) aNil)))
  (sSeq (sIf (bEx (eOp eqF (eOp ixF (eCall m_spread (aCons (eOp ixF (eVar 0) (eC (.int 2))) (aCons (eVar 1) aNil))) (eVar 3)) (eTup (aCons (eC (.int 0)) (aCons (eC (.int 1)) aNil)))))
    (sRaise "NoChance" ["word"] (aCons (eC (.str "look")) aNil))
    sNext)
  (sRet (eCall m_revised (aCons (eOp ixF (eVar 0) (eC (.int 2))) (aCons (eVar 1) (aCons (eVar 3) aNil))))))))
def m_law_looked_c1 : SE :=
  (eCall m_law_div (aCons (eCall m_law_mul (aCons (eOp ixF (eVar 1) (eVar 4)) (aCons (eCall m_law_signal (aCons (eVar 0) (aCons (eVar 4) (aCons (eVar 2) aNil)))) aNil))) (aCons (eVar 3) aNil)))
/-- _law_looked: model 0, belief 1, good 2, total 3, s 4 -/
def m_law_looked : Fn := runB 5
  (sSeq (sSet 3 (eCall m_law_seen_chance (aCons (eVar 0) (aCons (eVar 1) (aCons (eVar 2) aNil)))))
  (sRet (eCB tupleF (aCons (eLc (iRg1 (aCons (eCB lenF (aCons (eVar 1) aNil)) aNil)) (.n 4) [4] (fun _ h => .ok true h) m_law_looked_c1) aNil))))
end Mp
/-! HidSpec: hidden models, beliefs, looks. -/
namespace Mp
open PySem PySem.Spec PyProof.Rows L2
structure HM where
  M : List (List Int)
  cs : List Int
  K : List (List Int)
  one : Int
  mend : Int
structure HidOk (m : HM) : Prop where
  C : Chn m.M
  lo : 2 ≤ m.M.length
  hi : m.M.length ≤ 3
  cl : m.cs.length = m.M.length
  cw : ∀ x ∈ m.cs, 0 ≤ x ∧ x ≤ 1000
  kl : m.K.length = m.M.length
  kw : ∀ r ∈ m.K, r.length = 2 ∧ 0 < r.sum ∧ ∀ x ∈ r, 0 ≤ x ∧ x ≤ 9
  ow : 0 ≤ m.one ∧ m.one ≤ 1000
  mw : 0 ≤ m.mend ∧ m.mend ≤ 1000
def hD (b : Bool) (m : HM) : D := sqs b [ch b m.M, sq b m.cs, ch b m.K, .int m.one, .int m.mend]
structure Bel (A : List Int) (n : Nat) : Prop where
  len : A.length = n
  nn : ∀ a ∈ A, 0 ≤ a
  pos : 0 < A.sum
  sz : sm 3000 A.sum
def bD (c e : Bool) (A : List Int) : D := sqs c (A.map fun a => shD e a A.sum)
theorem is_row_sqs (b : Bool) {xs : List D} (f : flatL xs = true) (lo hi : Int) (h : Hc) : callL m_is_row [sqs b xs, .int lo, .int hi] h = .ok (.bl (decide (lo ≤ xs.length) && decide ((xs.length : Int) ≤ hi))) h := by
  have ff := flat_sqs b f
  have e : ∀ h, callL m_is_sequence [sqs b xs] h = .ok (.bl true) h := fun h => by
    refine call_flat (h' := []) (by simp [ff]) ?_ (by simp) h
    unfold m_is_sequence
    rw [runB_s]
    cases b <;> simp [sqs]
  refine call_flat (h' := []) (by simp [ff]) ?_ (by simp) h
  unfold m_is_row
  rw [runB_s]
  by_cases h1 : lo ≤ (xs.length : Int) <;> simp [e, h1]
theorem is_seq_sqs (b : Bool) {xs : List D} (f : flatL xs = true) (h : Hc) : callL m_is_sequence [sqs b xs] h = .ok (.bl true) h := by
  refine call_flat (h' := []) (by simp [flat_sqs b f]) ?_ (by simp) h
  unfold m_is_sequence
  rw [runB_s]
  cases b <;> simp [sqs]
theorem all_true {α : Type} (xs : List α) (h : Hc) : allF [.lst ((xs.map fun _ => true).map D.bl)] h = .ok (.bl true) h := by
  rw [allF_lst]
  congr 2
  simp
theorem all_within2 {xs : List Int} {lo hi : Int} (hw : ∀ x ∈ xs, lo ≤ x ∧ x ≤ hi) (h : Hc) : allF [.lst (xs.map fun x => D.bl (decide (lo ≤ x) && decide (x ≤ hi)))] h = .ok (.bl true) h := by
  have e2 : (xs.map fun x => D.bl (decide (lo ≤ x) && decide (x ≤ hi))) = (xs.map fun x => decide (lo ≤ x) && decide (x ≤ hi)).map D.bl := by simp
  rw [e2, allF_lst, all_within hw]
section
variable (b : Bool) {m : HM} (H : HidOk m)
include H
end
/-! ### beliefs -/
section
variable (c e : Bool) {A : List Int} {n : Nat} (B : Bel A n) (hn : n ≤ 5)
include B
include hn
end

/-! ### what the program makes of a belief -/
/-- rows of weights, one for each of n numbers -/
structure Rws (R : List (List Int)) (n w : Nat) : Prop where
  len : R.length = n
  row : ∀ r ∈ R, r.length = w ∧ 0 < r.sum ∧ ∀ x ∈ r, 0 ≤ x ∧ x ≤ 9
abbrev zr (A : List Int) (R : List (List Int)) : List (Int × List Int) := A.zip R
section
variable {A : List Int} {n : Nat} (B : Bel A n) (hn : n ≤ 5) (h1 : 1 ≤ n) {R : List (List Int)} {w : Nat} (hR : Rws R n w) (hw : w ≤ 5)
include B hn h1 hR hw
abbrev spV (A : List Int) (R : List (List Int)) (w : Nat) : List D := (List.range' 0 w).map fun j => rdc (stepZ (prodL R) (zr A R) j) (A.sum * prodL R)
end

section
variable (b c e : Bool) {m : HM} (H : HidOk m) {A : List Int} (B : Bel A m.M.length)
include H B
def pl (g : Bool) : Nat := if g then 0 else 1
abbrev seenT (A : List Int) (m : HM) (g : Bool) : Int := stepZ (prodL m.K) (zr A m.K) (pl g)
abbrev seenB (A : List Int) (m : HM) : Int := A.sum * prodL m.K
abbrev revV (A : List Int) (m : HM) (g : Bool) : List D := (zr A m.K).map fun z => rdc (z.1 * (prodL m.K / z.2.sum) * z.2.getD (pl g) 0) (seenT A m g)
end

/-! ### the law's own reckoning -/
section
variable {A : List Int} {n : Nat} (B : Bel A n) (hn : n ≤ 5) (h1 : 1 ≤ n) {R : List (List Int)} {w : Nat} (hR : Rws R n w) (hw : w ≤ 5)
include B hn h1 hR hw
end
section
variable {m : HM} (H : HidOk m) {A : List Int} (B : Bel A m.M.length)
include H
include B
end

/-! ### the law's moved belief -/
def mxV (A : List Int) (R : List (List Int)) (n t k : Nat) : List D := (List.range' 0 n).map fun j => rdc (if j < k then stepZ (prodL R) ((zr A R).take (t + 1)) j else stepZ (prodL R) ((zr A R).take t) j) (A.sum * prodL R)
section
variable {m : HM} (H : HidOk m) {A : List Int} (B : Bel A m.M.length)
include H B
end

/-! ### drawn models, drawn beliefs -/
section
variable {row : List Int} (hr : row ≠ [])
include hr
end
end Mp
namespace Mp
open PySem PySem.Spec PyProof.Rows L2
/-! ### mirrors: Mdl -/
def m_law_model_c1 : SE :=
  (eCall m_law_pick (aCons (eVar 0) (aCons (eVar 1) (aCons (eLst (aCons (eC (.int 0)) (aCons (eC (.int 0)) (aCons (eC (.int 1)) (aCons (eC (.int 1)) (aCons (eC (.int 2)) (aCons (eC (.int 3)) (aCons (eC (.int 9)) aNil)))))))) aNil))))
def m_law_model_l1 : SS :=
  (sSeq (sSet 8 (eLcC (iRg1 (aCons (eVar 3) aNil)) (.n 10) [10] (fun _ h => .ok true h) m_law_model_c1))
      (sSeq (sIf (bEx (eOp eqF (eOp ixF (eVar 8) (eC (.int 0))) (eC (.int 0))))
        (sPut setF (eOp addF (eC (.int 1)) (eCall m_law_take (aCons (eVar 0) (aCons (eVar 1) (aCons (eC (.int 3)) aNil))))) (eVar 8) (eC (.int 0)))
        sNext)
      (sSeq (sSet 9 (eCall m_law_pick (aCons (eVar 0) (aCons (eVar 1) (aCons (eLst (aCons (eC (.int 0)) (aCons (eC (.int 1)) (aCons (eC (.int 2)) (aCons (eC (.int 3)) (aCons (eC (.int 4)) (aCons (eC (.int 7)) (aCons (eC (.int 10)) (aCons (eC (.int 50)) (aCons (eC (.int 999)) (aCons (eC (.int 1000)) aNil))))))))))) aNil)))))
      (sDrop (eBM "list" appF (eVar 6) (aCons (eTup (aCons (eVar 9) (aCons (eCB tupleF (aCons (eVar 8) aNil)) aNil))) aNil))))))
def m_law_model_l2 : SS :=
  (sSeq (sSet 6 (eCell aNil))
    (sSeq (sFor (iRg1 (aCons (eOp addF (eC (.int 1)) (eCall m_law_take (aCons (eVar 0) (aCons (eVar 1) (aCons (eIf (bEx (eOp ltF (eVar 3) (eC (.int 4)))) (eC (.int 3)) (eC (.int 2))) aNil))))) aNil)) (.n 7)
      m_law_model_l1)
    (sDrop (eBM "list" appF (eVar 4) (aCons (eCB tupleF (aCons (eVar 6) aNil)) aNil)))))
/-- _law_model: row 0, spot 1, most 2, many 3, made 4, s 5, choices 6, k 7, weights 8, cost 9, j 10 -/
def m_law_model : Fn := runB 11
  (sSeq (sSet 3 (eOp addF (eC (.int 1)) (eCall m_law_take (aCons (eVar 0) (aCons (eVar 1) (aCons (eVar 2) aNil))))))
  (sSeq (sSet 4 (eCell aNil))
  (sSeq (sFor (iRg1 (aCons (eVar 3) aNil)) (.n 5)
    m_law_model_l2)
  (sRet (eCB tupleF (aCons (eVar 4) aNil))))))
def m_law_mean_l1 : SS :=
  (sSet 2 (eCall m_law_add (aCons (eVar 2) (aCons (eCall m_law_mul (aCons (eTup (aCons (eOp ixF (eVar 0) (eVar 3)) (aCons (eC (.int 1)) aNil))) (aCons (eOp ixF (eVar 1) (eVar 3)) aNil))) aNil))))
/-- _law_mean: weights 0, values 1, total 2, k 3 -/
def m_law_mean : Fn := runB 4
  (sSeq (sSet 2 (eTup (aCons (eC (.int 0)) (aCons (eC (.int 1)) aNil))))
  (sSeq (sFor (iRg1 (aCons (eCB lenF (aCons (eVar 0) aNil)) aNil)) (.n 3)
    m_law_mean_l1)
  (sRet (eCall m_law_div (aCons (eVar 2) (aCons (eTup (aCons (eCB sumA (aCons (eVar 0) aNil)) (aCons (eC (.int 1)) aNil))) aNil))))))
/-- _law_value: choice 0, nums 1 -/
def m_law_value : Fn := runB 2
  (sRet (eCall m_law_add (aCons (eTup (aCons (eOp ixF (eVar 0) (eC (.int 0))) (aCons (eC (.int 1)) aNil))) (aCons (eCall m_law_mean (aCons (eOp ixF (eVar 0) (eC (.int 1))) (aCons (eVar 1) aNil))) aNil))))
def m_law_firsts_l1 : SS :=
  (sIf (bTru (eCall m_law_less (aCons (eCall m_law_value (aCons (eOp ixF (eVar 3) (eVar 5)) (aCons (eVar 1) aNil))) (aCons (eCall m_law_value (aCons (eOp ixF (eVar 3) (eVar 4)) (aCons (eVar 1) aNil))) aNil))))
        (sSet 4 (eVar 5))
        sNext)
def m_law_firsts_l2 : SS :=
  (sSeq (sSet 4 (eC (.int 0)))
    (sSeq (sFor (iRg1 (aCons (eCB lenF (aCons (eVar 3) aNil)) aNil)) (.n 5)
      m_law_firsts_l1)
    (sDrop (eBM "list" appF (eVar 2) (aCons (eVar 4) aNil)))))
/-- _law_firsts: model 0, nums 1, made 2, choices 3, at 4, k 5 -/
def m_law_firsts : Fn := runB 6
  (sSeq (sSet 2 (eCell aNil))
  (sSeq (sFor (iSeq (eVar 0)) (.n 3)
    m_law_firsts_l2)
  (sRet (eCB tupleF (aCons (eVar 2) aNil)))))
def m_law_total_c1 : SE :=
  (eTup (aCons (eC (.int 0)) (aCons (eC (.int 1)) aNil)))
def m_law_total_c2 : SE :=
  (eCall m_law_value (aCons (eOp ixF (eOp ixF (eVar 0) (eVar 6)) (eOp ixF (eVar 4) (eVar 6))) (aCons (eVar 2) aNil)))
def m_law_total_l1 : SS :=
  (sSeq (sSet 4 (eCall m_law_firsts (aCons (eVar 0) (aCons (eVar 2) aNil))))
    (sSet 2 (eLc (iRg1 (aCons (eCB lenF (aCons (eVar 0) aNil)) aNil)) (.n 6) [6] (fun _ h => .ok true h) m_law_total_c2)))
/-- _law_total: model 0, days 1, values 2, k 3, firsts 4, one 5, s 6 -/
def m_law_total : Fn := runB 7
  (sSeq (sSet 2 (eLc (iSeq (eVar 0)) (.n 5) [5] (fun _ h => .ok true h) m_law_total_c1))
  (sSeq (sFor (iRg1 (aCons (eVar 1) aNil)) (.n 3)
    m_law_total_l1)
  (sRet (eVar 2))))
def m_is_choice_c1 : SE :=
  (eCall m_is_within (aCons (eVar 3) (aCons (eC (.int 0)) (aCons (eC (.int 9)) aNil))))
/-- is_choice: choice 0, many 1, weights 2, weight 3 -/
def m_is_choice : Fn := runB 4
  (sSeq (sIf (bOr (bNot (bTru (eCall m_is_row (aCons (eVar 0) (aCons (eC (.int 2)) (aCons (eC (.int 2)) aNil)))))) (bNot (bTru (eCall m_is_within (aCons (eOp ixF (eVar 0) (eC (.int 0))) (aCons (eC (.int 0)) (aCons (eC (.int 1000)) aNil)))))))
    (sRet (eC (.bl false)))
    sNext)
  (sSeq (sSet 2 (eOp ixF (eVar 0) (eC (.int 1))))
  (sSeq (sIf (bNot (bTru (eCall m_is_row (aCons (eVar 2) (aCons (eVar 1) (aCons (eVar 1) aNil))))))
    (sRet (eC (.bl false)))
    sNext)
  (sRet (eAnd (eCB allF (aCons (eLc (iSeq (eVar 2)) (.n 3) [3] (fun _ h => .ok true h) m_is_choice_c1) aNil)) (eOp geF (eOp ixF (eVar 2) (eC (.int 0))) (eC (.int 1))))))))
def m_is_state_c1 : SE :=
  (eCall m_is_choice (aCons (eVar 2) (aCons (eVar 1) aNil)))
/-- is_state: state 0, many 1, choice 2 -/
def m_is_state : Fn := runB 3
  (sRet (eAnd (eCall m_is_row (aCons (eVar 0) (aCons (eC (.int 1)) (aCons (eC (.int 3)) aNil)))) (eCB allF (aCons (eLc (iSeq (eVar 0)) (.n 2) [2] (fun _ h => .ok true h) m_is_state_c1) aNil))))
def m_is_model_c1 : SE :=
  (eCall m_is_state (aCons (eVar 1) (aCons (eCB lenF (aCons (eVar 0) aNil)) aNil)))
/-- is_model: model 0, state 1 -/
def m_is_model : Fn := runB 2
  (sSeq (sIf (bNot (bTru (eCall m_is_row (aCons (eVar 0) (aCons (eC (.int 1)) (aCons (eC (.int 5)) aNil))))))
    (sRet (eC (.bl false)))
    sNext)
  (sRet (eCB allF (aCons (eLc (iSeq (eVar 0)) (.n 1) [1] (fun _ h => .ok true h) m_is_model_c1) aNil))))
def m_mean_c1 : SE :=
  (eVar 5)
def m_mean_c2 : SE :=
  (eOp mulF (eVar 6) (eOp fdivF (eVar 2) (eVar 5)))
def m_mean_c3 : SE :=
  (eOp mulF (eVar 7) (eVar 6))
/-- mean: weights 0, fractions 1, common 2, tops 3, _ 4, bottom 5, top 6, weight 7 -/
def m_mean : Fn := runB 8
  (sSeq (sSet 2 (eCall m_common_bottom (aCons (eLc (iSeq (eVar 1)) (.t ((.n 4) :: ((.n 5) :: []))) [4, 5] (fun _ h => .ok true h) m_mean_c1) aNil)))
  (sSeq (sSet 3 (eLc (iSeq (eVar 1)) (.t ((.n 6) :: ((.n 5) :: []))) [6, 5] (fun _ h => .ok true h) m_mean_c2))
  (sRet (eCall m_reduced (aCons (eCB sumA (aCons (eLc (iZip (aCons (eVar 0) (aCons (eVar 3) aNil))) (.t ((.n 7) :: ((.n 6) :: []))) [7, 6] (fun _ h => .ok true h) m_mean_c3) aNil)) (aCons (eOp mulF (eCB sumA (aCons (eVar 0) aNil)) (eVar 2)) aNil))))))
def m_sums_ahead_c1 : SE :=
  (eCall m_plus (aCons (eTup (aCons (eVar 2) (aCons (eC (.int 1)) aNil))) (aCons (eCall m_mean (aCons (eVar 3) (aCons (eVar 1) aNil))) aNil)))
/-- sums_ahead: choices 0, numbers 1, cost 2, weights 3 -/
def m_sums_ahead : Fn := runB 4
  (sRet (eLc (iSeq (eVar 0)) (.t ((.n 2) :: ((.n 3) :: []))) [2, 3] (fun _ h => .ok true h) m_sums_ahead_c1))
def m_first_least_l1 : SS :=
  (sIf (bTru (eCall m_less (aCons (eOp ixF (eVar 0) (eVar 2)) (aCons (eOp ixF (eVar 0) (eVar 1)) aNil))))
      (sSet 1 (eVar 2))
      sNext)
/-- first_least: fractions 0, found 1, at 2 -/
def m_first_least : Fn := runB 3
  (sSeq (sSet 1 (eC (.int 0)))
  (sSeq (sFor (iRg2 (aCons (eC (.int 1)) (aCons (eCB lenF (aCons (eVar 0) aNil)) aNil))) (.n 2)
    m_first_least_l1)
  (sRet (eVar 1))))
def m_least_ahead_l1 : SS :=
  (sSeq (sSet 4 (eCall m_sums_ahead (aCons (eVar 3) (aCons (eVar 1) aNil))))
    (sDrop (eBM "list" appF (eVar 2) (aCons (eOp ixF (eVar 4) (eCall m_first_least (aCons (eVar 4) aNil))) aNil))))
/-- least_ahead: model 0, totals 1, found 2, choices 3, sums 4 -/
def m_least_ahead : Fn := runB 5
  (sSeq (sSet 2 (eCell aNil))
  (sSeq (sFor (iSeq (eVar 0)) (.n 3)
    m_least_ahead_l1)
  (sRet (eVar 2))))
def m_least_total_l1 : SS :=
  (sSet 3 (eCall m_least_ahead (aCons (eVar 0) (aCons (eVar 3) aNil))))
/-- least_total: model 0, days 1, start 2, totals 3, _ 4 -/
def m_least_total : Fn := runB 5
  (sSeq (sIf (bNot (bTru (eCall m_is_model (aCons (eVar 0) aNil))))
    (sRaise "BadValue" ["at"] (aCons (eC (.int 0)) aNil))
    sNext)
  (sSeq (sIf (bNot (bTru (eCall m_is_within (aCons (eVar 1) (aCons (eC (.int 0)) (aCons (eC (.int 20)) aNil))))))
    (sRaise "BadValue" ["at"] (aCons (eC (.int 1)) aNil))
    sNext)
  (sSeq (sIf (bOr (bNot (bTru (eCall m_is_integer (aCons (eVar 2) aNil)))) (bOr (bEx (eOp ltF (eVar 2) (eC (.int 0)))) (bEx (eOp geF (eVar 2) (eCB lenF (aCons (eVar 0) aNil))))))
    (sRaise "BadValue" ["at"] (aCons (eC (.int 2)) aNil))
    sNext)
  (sSeq (sSet 3 (eOp mulF (eLst (aCons (eTup (aCons (eC (.int 0)) (aCons (eC (.int 1)) aNil))) aNil)) (eCB lenF (aCons (eVar 0) aNil))))
  (sSeq (sFor (iRg1 (aCons (eVar 1) aNil)) (.n 4)
    m_least_total_l1)
  (sRet (eOp ixF (eVar 3) (eVar 2))))))))
end Mp
/-! MdlSpec: models of wear. -/
namespace Mp
open PySem PySem.Spec PyProof.Rows L2
/-- the sum of weights times numbers -/
def wsum (Z : List (Int × Int)) : Int := (Z.map fun z => z.1 * z.2).sum
section
variable {N : Int} (hN : 0 < N) (sN : sm 4000 N) {Z : List (Int × Int)} (hZ : ∀ z ∈ Z, 0 ≤ z.1 ∧ z.1 ≤ 9 ∧ sm 4000 z.2) (hlen : Z.length ≤ 100) (hS : 0 < (Z.map (·.1)).sum)
include hN sN hZ hlen hS
theorem mean_ok (b c e : Bool) (h : Hc) : callL m_mean [sq b (Z.map (·.1)), sqs c (Z.map fun z => shD e z.2 N)] h = .ok (rdc (wsum Z) ((Z.map (·.1)).sum * N)) h := by
  have sb : sm 8000 N := sm_le (by decide) sN
  have s9 : (Z.map (·.1)).sum ≤ 900 := by
    have := (sum_le9 (Z.map (·.1)) (fun x hx => by
      obtain ⟨z, hz, rfl⟩ := List.mem_map.mp hx
      exact ⟨(hZ z hz).1, (hZ z hz).2.1⟩)).2
    simp at this
    omega
  have hb : ∀ x ∈ Z.map (fun z => dn z.2 N), 0 < x ∧ x ∣ N := fun x hx => by
    obtain ⟨z, _, rfl⟩ := List.mem_map.mp hx
    obtain ⟨d1, d2, d3, d4, d5⟩ := nd_spec (n := z.2) hN
    exact ⟨by omega, d5⟩
  have f2 : flatL (Z.map fun z => shD e z.2 N) = true := flatL_map _ (fun z => flat_shD e z.2 N) Z
  have sd : ∀ a (h : Hc), seqD h (shD e a N) = some [.int (nm a N), .int (dn a N)] := fun a h => by cases e <;> rfl
  have e1 := lcR_two (chk := fun _ => true) (p := .t ((.n 4) :: ((.n 5) :: []))) (own := [4, 5]) (m := m_mean_c1) (ds := [some (sq b (Z.map (·.1))), some (sqs c (Z.map fun z => shD e z.2 N)), none, none, none, none, none, none]) (h := []) rfl (Z.map fun z => shD e z.2 N) ((Z.map fun z => dn z.2 N).map D.int) [] (by simp; omega) (by
    rw [List.map_map]
    refine All2.map fun z hz => ⟨_, by simp [wipeD, sd]; rfl, by simp [m_mean_c1]⟩)
  have e2 := fun h => common_ok hN sb hb h
  obtain ⟨c1, c2, _, c4⟩ := lcmL_spec hN (Z.map fun z => dn z.2 N) 1 (by decide) (Int.one_dvd _) hb
  have e3 := lcR_two (chk := fun _ => true) (p := .t ((.n 6) :: ((.n 5) :: []))) (own := [6, 5]) (m := m_mean_c2) (ds := [some (sq b (Z.map (·.1))), some (sqs c (Z.map fun z => shD e z.2 N)), some (.int (lcmL 1 (Z.map fun z => dn z.2 N))), none, none, none, none, none]) (h := []) rfl (Z.map fun z => shD e z.2 N) (Z.map fun z => D.int (nm z.2 N * (lcmL 1 (Z.map fun z => dn z.2 N)).fdiv (dn z.2 N))) [] (by simp; omega) (by
    refine All2.map fun z hz => ⟨_, by simp [wipeD, sd]; rfl, ?_⟩
    obtain ⟨d1, d2, d3, d4, d5⟩ := nd_spec (n := z.2) hN
    obtain ⟨w1, w2, w3⟩ := hZ z hz
    have dv : divOk (dn z.2 N) = true := by
      unfold divOk
      have := log_of (by decide) (Nat.lt_of_le_of_lt (le_abs hN d5) sb)
      simp
      exact ⟨by omega, by omega⟩
    have m2 : mulOk (nm z.2 N) ((lcmL 1 (Z.map fun z => dn z.2 N)).fdiv (dn z.2 N)) = true := by
      refine mulOk_sm (Nat.lt_of_le_of_lt d3 (sm_le (by decide) w3)) ?_
      rw [Int.fdiv_eq_ediv_of_nonneg _ (by omega)]
      exact Nat.lt_of_le_of_lt (Int.natAbs_ediv_le_natAbs _ _) (Nat.lt_of_le_of_lt (le_abs hN c2) sb)
    show m_mean_c2 _ _ = R.ok (D.int (nm z.2 N * (lcmL 1 (Z.map fun z => dn z.2 N)).fdiv (dn z.2 N))) _
    generalize lcmL 1 (Z.map fun z => dn z.2 N) = CC at *
    simp [m_mean_c2, dv, m2])
  have ez : ∀ h, zpF [sq b (Z.map (·.1)), .lst (Z.map fun z => D.int (nm z.2 N * (lcmL 1 (Z.map fun z => dn z.2 N)).fdiv (dn z.2 N)))] h = .ok ⟨Z.map fun z => .tup [.int z.1, .int (nm z.2 N * (lcmL 1 (Z.map fun z => dn z.2 N)).fdiv (dn z.2 N))], fun _ => true⟩ h := fun h => by
    have := zpF_sqs b true ((Z.map (·.1)).map D.int) (Z.map fun z => D.int (nm z.2 N * (lcmL 1 (Z.map fun z => dn z.2 N)).fdiv (dn z.2 N))) h
    rw [List.map_map] at this
    have z2 := zipD_map (fun z : Int × Int => D.int z.1) (fun z => D.int (nm z.2 N * (lcmL 1 (Z.map fun z => dn z.2 N)).fdiv (dn z.2 N))) Z
    have e4 : zipD (Z.map (D.int ∘ fun x => x.1)) (Z.map fun z => D.int (nm z.2 N * (lcmL 1 (Z.map fun z => dn z.2 N)).fdiv (dn z.2 N))) = _ := z2
    rw [e4] at this
    have e5 : sqs b (Z.map (D.int ∘ fun x => x.1)) = sq b (Z.map (·.1)) := by cases b <;> simp [sqs, sq]
    rw [e5] at this
    exact this
  have e6 := lcR_two (chk := fun _ => true) (p := .t ((.n 7) :: ((.n 6) :: []))) (own := [7, 6]) (m := m_mean_c3) (ds := [some (sq b (Z.map (·.1))), some (sqs c (Z.map fun z => shD e z.2 N)), some (.int (lcmL 1 (Z.map fun z => dn z.2 N))), some (.lst (Z.map fun z => D.int (nm z.2 N * (lcmL 1 (Z.map fun z => dn z.2 N)).fdiv (dn z.2 N)))), none, none, none, none]) (h := []) rfl (Z.map fun z => .tup [.int z.1, .int (nm z.2 N * (lcmL 1 (Z.map fun z => dn z.2 N)).fdiv (dn z.2 N))]) ((Z.map fun z => z.1 * (nm z.2 N * (lcmL 1 (Z.map fun z => dn z.2 N)).fdiv (dn z.2 N))).map D.int) [] (by simp; omega) (by
    rw [List.map_map]
    refine All2.map fun z hz => ⟨_, by simp [wipeD]; rfl, ?_⟩
    obtain ⟨w1, w2, w3⟩ := hZ z hz
    have m2 : mulOk z.1 (nm z.2 N * (lcmL 1 (Z.map fun z => dn z.2 N)).fdiv (dn z.2 N)) = true := mulOk_l _ _ (by omega) (by omega)
    show m_mean_c3 _ _ = R.ok (D.int (z.1 * (nm z.2 N * (lcmL 1 (Z.map fun z => dn z.2 N)).fdiv (dn z.2 N)))) _
    generalize nm z.2 N * (lcmL 1 (Z.map fun z => dn z.2 N)).fdiv (dn z.2 N) = TT at *
    simp [m_mean_c3, m2])
  have key : (Z.map fun z => z.1 * (nm z.2 N * (lcmL 1 (Z.map fun z => dn z.2 N)).fdiv (dn z.2 N))).sum * N = wsum Z * lcmL 1 (Z.map fun z => dn z.2 N) := by
    refine sum_key (f := fun z : Int × Int => z.1 * (nm z.2 N * (lcmL 1 (Z.map fun z => dn z.2 N)).fdiv (dn z.2 N))) (g := fun z => z.1 * z.2) Z fun z hz => ?_
    obtain ⟨d1, d2, d3, d4, d5⟩ := nd_spec (n := z.2) hN
    obtain ⟨k, hk⟩ := c4 (dn z.2 N) (List.mem_map_of_mem hz)
    have : (lcmL 1 (Z.map fun z => dn z.2 N)).fdiv (dn z.2 N) = k := by rw [hk, Int.fdiv_eq_ediv_of_nonneg _ (by omega), Int.mul_ediv_cancel_left _ (by omega)]
    rw [this, hk]
    calc z.1 * (nm z.2 N * k) * N = z.1 * (nm z.2 N * N) * k := by ac_rfl
      _ = z.1 * (z.2 * dn z.2 N) * k := by rw [d4]
      _ = z.1 * z.2 * (dn z.2 N * k) := by ac_rfl
  have smC : sm 4000 (lcmL 1 (Z.map fun z => dn z.2 N)) := Nat.lt_of_le_of_lt (le_abs hN c2) sN
  have smS : sm 10 (Z.map (·.1)).sum := show (Z.map (fun z : Int × Int => z.1)).sum.natAbs < 2 ^ 10 by omega
  have mS : mulOk (Z.map (·.1)).sum (lcmL 1 (Z.map fun z => dn z.2 N)) = true := mulOk_l _ _ (by omega) (by omega)
  have pS : 0 < (Z.map (·.1)).sum * lcmL 1 (Z.map fun z => dn z.2 N) := Int.mul_pos hS c1
  have e7 := fun h => reduced_ok (n := (Z.map fun z => z.1 * (nm z.2 N * (lcmL 1 (Z.map fun z => dn z.2 N)).fdiv (dn z.2 N))).sum) (d := (Z.map (·.1)).sum * lcmL 1 (Z.map fun z => dn z.2 N)) (by omega) (sm_le (b := 8000) (by decide) (sm_mul smS smC)) h
  have e8 : rdc (Z.map fun z => z.1 * (nm z.2 N * (lcmL 1 (Z.map fun z => dn z.2 N)).fdiv (dn z.2 N))).sum ((Z.map (·.1)).sum * lcmL 1 (Z.map fun z => dn z.2 N)) = rdc (wsum Z) ((Z.map (·.1)).sum * N) := by
    refine rdc_eq pS (Int.mul_pos hS hN) ?_
    generalize (Z.map fun z => z.1 * (nm z.2 N * (lcmL 1 (Z.map fun z => dn z.2 N)).fdiv (dn z.2 N))).sum = X at *
    generalize lcmL 1 (Z.map fun z => dn z.2 N) = CC at *
    generalize (Z.map fun z : Int × Int => z.1).sum = S at *
    calc X * (S * N) = X * N * S := by ac_rfl
      _ = wsum Z * CC * S := by rw [key]
      _ = wsum Z * (S * CC) := by ac_rfl
  rw [e8] at e7
  refine call_flat (h' := []) (by simp [flat_sqs _ f2]) ?_ (by simp) h
  unfold m_mean
  rw [runB_s]
  simp only [List.nil_append] at e1 e3 e6
  have es : ∀ h, sumA [sq b (Z.map (·.1))] h = .ok (.int (Z.map (·.1)).sum) h := fun h => sumA_sq b _ h
  generalize hCC : lcmL 1 (Z.map fun z => dn z.2 N) = CC at *
  generalize hXX : (Z.map fun z => z.1 * (nm z.2 N * CC.fdiv (dn z.2 N))) = XX at *
  generalize (Z.map fun z => D.int (nm z.2 N * CC.fdiv (dn z.2 N))) = TT at *
  generalize hDD : (Z.map fun z => dn z.2 N) = DD at *
  generalize (Z.map fun z => shD e z.2 N) = FF at *
  generalize (Z.map fun z : Int × Int => z.1) = WW at *
  simp [e1, e2, hCC, e3, iZip, ez, e6, es, mS, e7]
end

/-! ### sums and comparisons of the program, by value -/
/-! ### choices -/
abbrev Chc := Int × List Int
def chcD (b : Bool) (x : Chc) : D := sqs b [.int x.1, sq b x.2]
def stD (b : Bool) (X : List Chc) : D := sqs b (X.map (chcD b))
def mdD (b : Bool) (Md : List (List Chc)) : D := sqs b (Md.map (stD b))
@[simp] theorem flat_chcD (b : Bool) (x : Chc) : flat (chcD b x) = true := flat_sqs b (by simp)
@[simp] theorem flat_stD (b : Bool) (X : List Chc) : flat (stD b X) = true := flat_sqs b (flatL_map _ (fun x => flat_chcD b x) X)
@[simp] theorem flat_mdD (b : Bool) (Md : List (List Chc)) : flat (mdD b Md) = true := flat_sqs b (flatL_map _ (fun x => flat_stD b x) Md)
structure ChcOk (n : Nat) (x : Chc) : Prop where
  c : 0 ≤ x.1 ∧ x.1 ≤ 1000
  len : x.2.length = n
  w : ∀ y ∈ x.2, 0 ≤ y ∧ y ≤ 9
  one : 1 ≤ x.2.getD 0 0
structure MdOk (Md : List (List Chc)) : Prop where
  lo : 1 ≤ Md.length
  hi : Md.length ≤ 5
  st : ∀ X ∈ Md, 1 ≤ X.length ∧ X.length ≤ 3 ∧ ∀ x ∈ X, ChcOk Md.length x
theorem ChcOk.sum {n : Nat} {x : Chc} (C : ChcOk n x) (hn : n ≤ 5) : 0 < x.2.sum ∧ x.2.sum ≤ 45 := by
  have h := (sum_le9 x.2 C.w).2
  have hl := C.len
  refine ⟨?_, by omega⟩
  have h1 := C.one
  cases hx : x.2 with
  | nil => rw [hx] at h1; simp at h1
  | cons a r =>
    rw [hx] at h1
    refine sum_pos_mem (fun y hy => (C.w y (by rw [hx]; exact hy)).1) ⟨a, by simp, by simpa using h1⟩
/-- a choice's value, over the bottom N * L -/
def valX (N L : Int) (V : List Int) (x : Chc) : Int := (x.1 * (x.2.sum * N) + wsum (x.2.zip V)) * (L / x.2.sum)
/-- numbers over one bottom -/
def vD (c e : Bool) (V : List Int) (N : Int) : D := sqs c (V.map fun v => shD e v N)
structure ValOk (n : Nat) (N L : Int) (V : List Int) (W : Int) : Prop where
  N0 : 0 < N
  L0 : 0 < L
  len : V.length = n
  b : ∀ v ∈ V, 0 ≤ v ∧ v ≤ W * N
  W0 : 0 ≤ W ∧ W ≤ 100000
  sN : sm 3000 N
  sNL : sm 3000 (N * L)
section
variable {n : Nat} (hn : n ≤ 5) {N L : Int} {V : List Int} {W : Int} (O : ValOk n N L V W)
include hn O
end

section
variable {n : Nat} (hn : n ≤ 5) {N L : Int} {V : List Int} {W : Int} (O : ValOk n N L V W)
include hn O
end
/-! ### the first least -/
def fm (ys : List Int) : Nat → Nat → Nat → Nat
  | _, 0, f => f
  | k, m + 1, f => fm ys (k + 1) m (if ys.getD k 0 < ys.getD f 0 then k else f)
section
variable {B : Int} (hB : 0 < B) (sB : sm 4000 B) {ys : List Int} (hy : ∀ y ∈ ys, sm 4000 y) (hl : ys.length ≤ 1000)
include hB sB hy hl
end

/-! ### a day ahead -/
def nxtV (N L : Int) (V : List Int) (Md : List (List Chc)) : List Int := Md.map fun X => (X.map (valX N L V)).getD (fm (X.map (valX N L V)) 1 (X.length - 1) 0) 0
structure DayOk (n : Nat) (L : Int) (Md : List (List Chc)) : Prop where
  st : ∀ X ∈ Md, X ≠ [] ∧ X.length ≤ 100 ∧ ∀ x ∈ X, ChcOk n x ∧ x.2.sum ∣ L
section
variable {n : Nat} (hn : n ≤ 5) {N L : Int} {V : List Int} {W : Int} (O : ValOk n N L V W)
include hn O
end
/-! ### the model is one -/
theorem choice_ok (b : Bool) {n : Nat} (hn : n ≤ 5) (h1 : 1 ≤ n) {x : Chc} (C : ChcOk n x) (h : Hc) : callL m_is_choice [chcD b x, .int (n : Int)] h = .ok (.bl true) h := by
  have hl := C.len
  have hc := C.c
  have r2 : ∀ h, callL m_is_row [chcD b x, .int 2, .int 2] h = .ok (.bl true) h := fun h => by
    have := is_row_sqs b (xs := [.int x.1, sq b x.2]) (by simp) 2 2 h
    simpa [chcD] using this
  have i0 : ∀ h, ixF (chcD b x) (.int 0) h = .ok (.int x.1) h := fun h => by
    show ixF (sqs b _) (.int 0) h = _
    rw [ix_sqs]; simp
  have i1 : ∀ h, ixF (chcD b x) (.int 1) h = .ok (sq b x.2) h := fun h => by
    show ixF (sqs b _) (.int 1) h = _
    rw [ix_sqs]; simp
  have e1 := lcR_two (chk := fun _ => true) (p := .n 3) (own := [3]) (m := m_is_choice_c1) (ds := [some (chcD b x), some (.int (n : Int)), some (sq b x.2), none]) (h := []) rfl (x.2.map D.int) (x.2.map fun x => .bl (decide (0 ≤ x) && decide (x ≤ 9))) [] (by simp; omega)
    (All2.map fun x _ => ⟨_, bindP_n .., by simp [m_is_choice_c1, is_within_int]⟩)
  have e2 := fun h => all_within2 C.w h
  have e3 : ∀ h, ixF (sq b x.2) (.int 0) h = .ok (.int (x.2.getD 0 0)) h := fun h => by
    rw [ixF_sq]
    cases hx : x.2 with
    | nil => rw [hx] at hl; simp at hl; omega
    | cons a r => simp
  have one := C.one
  refine call_flat (h' := []) (by simp) ?_ (by simp) h
  unfold m_is_choice
  rw [runB_s]
  simp only [List.nil_append] at e1
  generalize x.2.getD 0 0 = w0 at *
  simp [r2, i0, is_within_int, hc, i1, is_row_sq, hl, e1, e2, e3, one]
theorem state_ok (b : Bool) {n : Nat} (hn : n ≤ 5) (h1 : 1 ≤ n) {X : List Chc} (l1 : 1 ≤ X.length) (l3 : X.length ≤ 3) (CX : ∀ x ∈ X, ChcOk n x) (h : Hc) : callL m_is_state [stD b X, .int (n : Int)] h = .ok (.bl true) h := by
  have r : ∀ h, callL m_is_row [stD b X, .int 1, .int 3] h = .ok (.bl true) h := fun h => by
    have := is_row_sqs b (xs := X.map (chcD b)) (flatL_map _ (fun x => flat_chcD b x) X) 1 3 h
    have g1 : (1 : Int) ≤ (X.length : Int) := by omega
    have g2 : (X.length : Int) ≤ 3 := by omega
    simp only [List.length_map] at this
    simpa [stD, g1, g2] using this
  have e0 : ∀ h, seqD h (stD b X) = some (X.map (chcD b)) := fun h => seqD_sqs b _ h
  have e00 : chkQ (stD b X) (X.map (chcD b)) = fun _ => true := chkQ_sqs b _
  have e1 := lcR_two (chk := fun _ => true) (p := .n 2) (own := [2]) (m := m_is_state_c1) (ds := [some (stD b X), some (.int (n : Int)), none]) (h := []) rfl (X.map (chcD b)) ((X.map fun _ => true).map D.bl) [] (by simp; omega) (by
    rw [List.map_map]
    refine All2.map fun x hx => ⟨_, bindP_n .., ?_⟩
    have := fun h => choice_ok b hn h1 (CX x hx) h
    simp [m_is_state_c1, this])
  have e5 := fun h => all_true X h
  refine call_flat (h' := []) (by simp) ?_ (by simp) h
  unfold m_is_state
  rw [runB_s]
  simp only [List.nil_append] at e1
  generalize hB : (X.map fun _ => true).map D.bl = BL at *
  simp [r, e0, e00, e1, e5]
theorem model_ok (b : Bool) {Md : List (List Chc)} (C : MdOk Md) (h : Hc) : callL m_is_model [mdD b Md] h = .ok (.bl true) h := by
  have l1 := C.lo
  have l5 := C.hi
  have r : ∀ h, callL m_is_row [mdD b Md, .int 1, .int 5] h = .ok (.bl true) h := fun h => by
    have := is_row_sqs b (xs := Md.map (stD b)) (flatL_map _ (fun x => flat_stD b x) Md) 1 5 h
    have g1 : (1 : Int) ≤ (Md.length : Int) := by omega
    have g2 : (Md.length : Int) ≤ 5 := by omega
    simp only [List.length_map] at this
    simpa [mdD, g1, g2] using this
  have e0 : ∀ h, seqD h (mdD b Md) = some (Md.map (stD b)) := fun h => seqD_sqs b _ h
  have e00 : chkQ (mdD b Md) (Md.map (stD b)) = fun _ => true := chkQ_sqs b _
  have l : ∀ h, lenF [mdD b Md] h = .ok (.int (Md.length : Int)) h := fun h => by simp [mdD]
  have e1 := lcR_two (chk := fun _ => true) (p := .n 1) (own := [1]) (m := m_is_model_c1) (ds := [some (mdD b Md), none]) (h := []) rfl (Md.map (stD b)) ((Md.map fun _ => true).map D.bl) [] (by simp; omega) (by
    rw [List.map_map]
    refine All2.map fun x hx => ⟨_, bindP_n .., ?_⟩
    obtain ⟨a1, a2, a3⟩ := C.st x hx
    have := fun h => state_ok b (by omega) l1 a1 a2 a3 h
    simp [m_is_model_c1, l, this])
  have e5 := fun h => all_true Md h
  refine call_flat (h' := []) (by simp) ?_ (by simp) h
  unfold m_is_model
  rw [runB_s]
  simp only [List.nil_append] at e1
  generalize hB : (Md.map fun _ => true).map D.bl = BL at *
  simp [r, e0, e00, e1, e5]
/-! ### the days -/
def lMd (Md : List (List Chc)) : Int := prodL (Md.flatten.map Prod.snd)
def totV (Md : List (List Chc)) : Nat → List Int
  | 0 => Md.map fun _ => 0
  | d + 1 => nxtV (lMd Md ^ d) (lMd Md) (totV Md d) Md
abbrev tots (Md : List (List Chc)) (d : Nat) : List D := (totV Md d).map fun v => rdc v (lMd Md ^ d)
/-! ### the law's own sums -/
section
variable {n : Nat} (hn : n ≤ 5) {N L : Int} {V : List Int} {W : Int} (O : ValOk n N L V W)
include hn O
end

section
variable {n : Nat} (hn : n ≤ 5) {N L : Int} {V : List Int} {W : Int} (O : ValOk n N L V W)
include hn O
end
end Mp
/-! MdlDraw: drawn models. -/
namespace Mp
open PySem PySem.Spec PyProof.Rows L2
section
variable {row : List Int} (hr : row ≠ [])
include hr
theorem md_l1 {n : Nat} (n1 : 1 ≤ n) (n2 : n ≤ 5) (x2 x4 x5 x7 x8 x9 x10 : Option D) {p : Nat} (hp : p ≠ 0) {X : List Chc} (hX : X.length ≤ 100) {c0 : C} {k : Int} {T : Hc} (hk : 0 ≤ k) (hT : T[p]? = some (.lst (X.map (chcD false)))) (hT0 : T[0]? = some c0) :
    ∃ (x : Chc) (y8 y9 : Option D) (k' : Int) (T' : Hc), ChcOk n x ∧ 0 ≤ k' ∧ T'[p]? = some (.lst ((X ++ [x]).map (chcD false))) ∧ T'[0]? = some c0 ∧
      m_law_model_l1 [some (.lst (row.map D.int)), some (.ref 0), x2, some (.int (n : Int)), x4, x5, some (.ref (p + 1)), x7, x8, x9, x10] (.lst [.int k] :: T) =
        .nx [some (.lst (row.map D.int)), some (.ref 0), x2, some (.int (n : Int)), x4, x5, some (.ref (p + 1)), x7, y8, y9, x10] (.lst [.int k'] :: T') := by
  obtain ⟨outs, h2, e2, l2, p2, k2, hk2, i2⟩ := lcR_st (chk := fun _ => true) (p := .n 10) (own := [10]) (m := m_law_model_c1) (ds := [some (.lst (row.map D.int)), some (.ref 0), x2, some (.int (n : Int)), x4, x5, some (.ref (p + 1)), x7, x8, x9, x10]) (fun h => ∃ k, 0 ≤ k ∧ h = .lst [.int k] :: T) (fun y => ∃ v, y = .int v ∧ 0 ≤ v ∧ v ≤ 9) (fun _ _ => rfl)
    (upFrom 0 n) [] (.lst [.int k] :: T) (by rw [upFrom_len]; simp; omega) ⟨k, hk, rfl⟩ (fun d _ h ⟨k, hk, eh⟩ => by
      subst eh
      obtain ⟨v, k', hv, hk', e⟩ := pick_ex hr (h := .lst [.int k] :: T) (i := 0) (k := k) (xs := [.int 0, .int 0, .int 1, .int 1, .int 2, .int 3, .int 9]) (by simp) (by simp) rfl hk
      simp only [List.set_cons_zero] at e
      refine ⟨_, v, .lst [.int k'] :: T, bindP_n .., by simp [m_law_model_c1, e], ⟨k', hk', rfl⟩, ?_⟩
      simp at hv
      rcases hv with rfl | rfl | rfl | rfl | rfl <;> exact ⟨_, rfl, by decide, by decide⟩)
  subst i2
  obtain ⟨vs, rfl, hv⟩ := ints_of p2
  rw [upFrom_len] at l2
  simp at l2
  have g1 : rgOk (n : Int) = true := rgOk_nat (by omega)
  simp only [List.nil_append] at e2
  have hpl : p < T.length := (List.getElem?_eq_some_iff.mp hT).1
  have s1 : (sSet 8 (eLcC (iRg1 (aCons (eVar 3) aNil)) (.n 10) [10] (fun _ h => .ok true h) m_law_model_c1)) [some (.lst (row.map D.int)), some (.ref 0), x2, some (.int (n : Int)), x4, x5, some (.ref (p + 1)), x7, x8, x9, x10] (.lst [.int k] :: T) = .nx [some (.lst (row.map D.int)), some (.ref 0), x2, some (.int (n : Int)), x4, x5, some (.ref (p + 1)), x7, some (.ref (T.length + 1)), x9, x10] (.lst [.int k2] :: (T ++ [.lst (vs.map D.int)])) := by simp [g1, e2]
  -- the weights, as they are then
  obtain ⟨ws, k3, hk3, lw, hw, h1, s2⟩ : ∃ (ws : List Int) (k3 : Int), 0 ≤ k3 ∧ ws.length = n ∧ (∀ y ∈ ws, 0 ≤ y ∧ y ≤ 9) ∧ 1 ≤ ws.getD 0 0 ∧ (sIf (bEx (eOp eqF (eOp ixF (eVar 8) (eC (.int 0))) (eC (.int 0)))) (sPut setF (eOp addF (eC (.int 1)) (eCall m_law_take (aCons (eVar 0) (aCons (eVar 1) (aCons (eC (.int 3)) aNil))))) (eVar 8) (eC (.int 0))) sNext) [some (.lst (row.map D.int)), some (.ref 0), x2, some (.int (n : Int)), x4, x5, some (.ref (p + 1)), x7, some (.ref (T.length + 1)), x9, x10] (.lst [.int k2] :: (T ++ [.lst (vs.map D.int)])) =
      .nx [some (.lst (row.map D.int)), some (.ref 0), x2, some (.int (n : Int)), x4, x5, some (.ref (p + 1)), x7, some (.ref (T.length + 1)), x9, x10] (.lst [.int k3] :: (T ++ [.lst (ws.map D.int)])) := by
    obtain ⟨w0, r, rfl⟩ : ∃ w0 r, vs = w0 :: r := by
      cases vs with
      | nil => exact absurd l2 (by simp; omega)
      | cons a r => exact ⟨a, r, rfl⟩
    have ei : ∀ a : C, ixF (.ref (T.length + 1)) (.int 0) (a :: (T ++ [.lst ((w0 :: r).map D.int)])) = .ok (.int w0) (a :: (T ++ [.lst ((w0 :: r).map D.int)])) := fun a => by
      rw [ixF_ref _ (xs := (w0 :: r).map D.int) (e := by simp)]; simp
    have hw0 := hv w0 (by simp)
    by_cases hz : w0 = 0
    · obtain ⟨t, k3, t0, t3, hk3, e3⟩ := take_ex hr (h := .lst [.int k2] :: (T ++ [.lst ((w0 :: r).map D.int)])) (i := 0) (k := k2) (l := 3) rfl hk2 (by decide)
      simp only [List.set_cons_zero] at e3
      have e5 := setF_ok (n := T.length + 1) (xs := (w0 :: r).map D.int) (h := .lst [.int k3] :: (T ++ [.lst ((w0 :: r).map D.int)])) (i := 0) (x := .int (1 + t)) (by simp) (by decide) (by simp)
      have e6 : (.lst [.int k3] :: (T ++ [C.lst ((w0 :: r).map D.int)]) : Hc).set (T.length + 1) (.lst (((w0 :: r).map D.int).set (0 : Int).toNat (.int (1 + t)))) = .lst [.int k3] :: (T ++ [.lst (((1 + t) :: r).map D.int)]) := by
        rw [List.set_cons_succ, List.set_append_right _ _ (by omega)]
        simp
      rw [e6] at e5
      refine ⟨(1 + t) :: r, k3, hk3, by simpa using l2, fun y hy => ?_, by simp; omega, ?_⟩
      · rcases List.mem_cons.mp hy with rfl | hy
        · omega
        · exact hv y (by simp [hy])
      · have ei' := ei (.lst [.int k2])
        subst hz
        simp only [List.map_cons] at ei' e3 e5 ⊢
        simp [ei', e3, e5]
    · refine ⟨w0 :: r, k2, hk2, l2, hv, by simp; omega, ?_⟩
      have ei' := ei (.lst [.int k2])
      simp only [List.map_cons] at ei' ⊢
      simp [ei', hz]
  obtain ⟨cv, k4, hc, hk4, e4⟩ := pick_ex hr (xs := [.int 0, .int 1, .int 2, .int 3, .int 4, .int 7, .int 10, .int 50, .int 999, .int 1000]) (k := k3) (h := .lst [.int k3] :: (T ++ [.lst (ws.map D.int)])) (i := 0) (by simp) (by simp) rfl hk3
  simp only [List.set_cons_zero] at e4
  obtain ⟨c, rfl, cb⟩ : ∃ c : Int, cv = .int c ∧ (0 ≤ c ∧ c ≤ 1000) := by
    simp at hc
    rcases hc with rfl | rfl | rfl | rfl | rfl | rfl | rfl | rfl | rfl | rfl <;> exact ⟨_, rfl, by decide, by decide⟩
  have et : tupleF [.ref (T.length + 1)] (.lst [.int k4] :: (T ++ [.lst (ws.map D.int)])) = .ok (.tup (ws.map D.int)) (.lst [.int k4] :: (T ++ [.lst (ws.map D.int)])) := by simp [tupleF]
  have hg : (T ++ [C.lst (ws.map D.int)])[p]? = some (.lst (X.map (chcD false))) := by rw [List.getElem?_append_left hpl]; exact hT
  have hg0 : (T ++ [C.lst (ws.map D.int)])[0]? = some c0 := by rw [List.getElem?_append_left (by omega)]; exact hT0
  have hpl2 : p < (T ++ [C.lst (ws.map D.int)]).length := by simp; omega
  refine ⟨(c, ws), some (.ref (T.length + 1)), some (.int c), k4, (T ++ [C.lst (ws.map D.int)]).set p (C.lst ((X ++ [(c, ws)]).map (chcD false))), ⟨cb, lw, hw, h1⟩, hk4, by rw [List.getElem?_set_self hpl2], by rw [List.getElem?_set_ne hp]; exact hg0, ?_⟩
  generalize hTT : T ++ [C.lst (ws.map D.int)] = TT at *
  have ek : kindOk (C.lst [.int k4] :: TT) "list" (.ref (p + 1)) = true := by simp [kindOk, hg]
  have ea : appF (.ref (p + 1)) [chcD false (c, ws)] (C.lst [.int k4] :: TT) = .ok .non (C.lst [.int k4] :: TT.set p (C.lst ((X ++ [(c, ws)]).map (chcD false)))) := by
    simp [appF, hg]
    omega
  have ec : chcD false (c, ws) = .tup [.int c, .tup (ws.map D.int)] := rfl
  have s3 : (sSet 9 (eCall m_law_pick (aCons (eVar 0) (aCons (eVar 1) (aCons (eLst (aCons (eC (.int 0)) (aCons (eC (.int 1)) (aCons (eC (.int 2)) (aCons (eC (.int 3)) (aCons (eC (.int 4)) (aCons (eC (.int 7)) (aCons (eC (.int 10)) (aCons (eC (.int 50)) (aCons (eC (.int 999)) (aCons (eC (.int 1000)) aNil))))))))))) aNil))))) [some (.lst (row.map D.int)), some (.ref 0), x2, some (.int (n : Int)), x4, x5, some (.ref (p + 1)), x7, some (.ref (T.length + 1)), x9, x10] (C.lst [.int k3] :: TT) = .nx [some (.lst (row.map D.int)), some (.ref 0), x2, some (.int (n : Int)), x4, x5, some (.ref (p + 1)), x7, some (.ref (T.length + 1)), some (.int c), x10] (C.lst [.int k4] :: TT) := by simp [e4]
  have s4 : (sDrop (eBM "list" appF (eVar 6) (aCons (eTup (aCons (eVar 9) (aCons (eCB tupleF (aCons (eVar 8) aNil)) aNil))) aNil))) [some (.lst (row.map D.int)), some (.ref 0), x2, some (.int (n : Int)), x4, x5, some (.ref (p + 1)), x7, some (.ref (T.length + 1)), some (.int c), x10] (C.lst [.int k4] :: TT) = .nx [some (.lst (row.map D.int)), some (.ref 0), x2, some (.int (n : Int)), x4, x5, some (.ref (p + 1)), x7, some (.ref (T.length + 1)), some (.int c), x10] (C.lst [.int k4] :: TT.set p (C.lst ((X ++ [(c, ws)]).map (chcD false)))) := by
    rw [ec] at ea
    generalize ((X ++ [(c, ws)]).map (chcD false)) = XX at *
    simp [ek, et, ea]
  unfold m_law_model_l1
  rw [seq_nx _ _ _ _ _ _ s1, seq_nx _ _ _ _ _ _ s2, seq_nx _ _ _ _ _ _ s3, s4]
end

section
variable {row : List Int} (hr : row ≠ [])
include hr
theorem md_l1s {n : Nat} (n1 : 1 ≤ n) (n2 : n ≤ 5) (x2 x4 x5 x10 : Option D) {p : Nat} (hp : p ≠ 0) {c0 : C} : ∀ (items : List D) (X : List Chc) (x7 x8 x9 : Option D) (k : Int) (T : Hc), X.length + items.length ≤ 100 → 0 ≤ k → T[p]? = some (.lst (X.map (chcD false))) → T[0]? = some c0 → (∀ x ∈ X, ChcOk n x) →
    ∃ (X' : List Chc) (y7 y8 y9 : Option D) (k' : Int) (T' : Hc), X'.length = X.length + items.length ∧ (∀ x ∈ X', ChcOk n x) ∧ 0 ≤ k' ∧ T'[p]? = some (.lst (X'.map (chcD false))) ∧ T'[0]? = some c0 ∧
      fl (fun _ => true) (.n 7) m_law_model_l1 items [some (.lst (row.map D.int)), some (.ref 0), x2, some (.int (n : Int)), x4, x5, some (.ref (p + 1)), x7, x8, x9, x10] (C.lst [.int k] :: T) =
        .nx [some (.lst (row.map D.int)), some (.ref 0), x2, some (.int (n : Int)), x4, x5, some (.ref (p + 1)), y7, y8, y9, x10] (C.lst [.int k'] :: T')
  | [], X, x7, x8, x9, k, T, _, hk, h1, h2, hX => ⟨X, x7, x8, x9, k, T, by simp, hX, hk, h1, h2, fl_end rfl⟩
  | d :: r, X, x7, x8, x9, k, T, hl, hk, h1, h2, hX => by
    simp only [List.length_cons] at hl
    obtain ⟨x, y8, y9, k1, T1, hx, hk1, g1, g2, e⟩ := md_l1 hr n1 n2 x2 x4 x5 (some d) x8 x9 x10 hp (by omega) hk h1 h2
    obtain ⟨X', z7, z8, z9, k', T', l', q', hk', f1, f2, e'⟩ := md_l1s n1 n2 x2 x4 x5 x10 hp r (X ++ [x]) (some d) y8 y9 k1 T1 (by simp; omega) hk1 g1 g2 (fun y hy => by
      rcases List.mem_append.mp hy with q | q
      · exact hX y q
      · rw [List.mem_singleton.mp q]; exact hx)
    refine ⟨X', z7, z8, z9, k', T', by simp at l' ⊢; omega, q', hk', f1, f2, ?_⟩
    rw [fl_n (by simpa only [List.set_cons_succ, List.set_cons_zero] using e)]
    exact e'
theorem md_l2 {n : Nat} (n1 : 1 ≤ n) (n2 : n ≤ 5) (x2 x5 x6 x7 x8 x9 x10 : Option D) {Md : List (List Chc)} (hM : Md.length ≤ 100) {k : Int} {T : Hc} (hk : 0 ≤ k) (hT0 : T[0]? = some (.lst (Md.map (stD false)))) :
    ∃ (X : List Chc) (y6 y7 y8 y9 : Option D) (k' : Int) (T' : Hc), (1 ≤ X.length ∧ X.length ≤ 3 ∧ ∀ x ∈ X, ChcOk n x) ∧ 0 ≤ k' ∧ T'[0]? = some (.lst ((Md ++ [X]).map (stD false))) ∧
      m_law_model_l2 [some (.lst (row.map D.int)), some (.ref 0), x2, some (.int (n : Int)), some (.ref 1), x5, x6, x7, x8, x9, x10] (C.lst [.int k] :: T) =
        .nx [some (.lst (row.map D.int)), some (.ref 0), x2, some (.int (n : Int)), some (.ref 1), x5, y6, y7, y8, y9, x10] (C.lst [.int k'] :: T') := by
  have h0l : 0 < T.length := (List.getElem?_eq_some_iff.mp hT0).1
  have s1 : (sSet 6 (eCell aNil)) [some (.lst (row.map D.int)), some (.ref 0), x2, some (.int (n : Int)), some (.ref 1), x5, x6, x7, x8, x9, x10] (C.lst [.int k] :: T) = .nx [some (.lst (row.map D.int)), some (.ref 0), x2, some (.int (n : Int)), some (.ref 1), x5, some (.ref (T.length + 1)), x7, x8, x9, x10] (C.lst [.int k] :: (T ++ [C.lst []])) := by simp
  obtain ⟨m, k1, c, m0, m3, hk1, ec⟩ : ∃ (m k1 : Int) (c : Int), 0 ≤ m ∧ m < 3 ∧ 0 ≤ k1 ∧ iRg1 (aCons (eOp addF (eC (.int 1)) (eCall m_law_take (aCons (eVar 0) (aCons (eVar 1) (aCons (eIf (bEx (eOp ltF (eVar 3) (eC (.int 4)))) (eC (.int 3)) (eC (.int 2))) aNil))))) aNil) [some (.lst (row.map D.int)), some (.ref 0), x2, some (.int (n : Int)), some (.ref 1), x5, some (.ref (T.length + 1)), x7, x8, x9, x10] (C.lst [.int k] :: (T ++ [C.lst []])) = .ok ⟨upFrom 0 (1 + m).toNat, fun _ => true⟩ (C.lst [.int k1] :: (T ++ [C.lst []])) := by
    by_cases h4 : (n : Int) < 4
    · obtain ⟨m, k1, m0, m3, hk1, e1⟩ := take_ex hr (h := C.lst [.int k] :: (T ++ [C.lst []])) (i := 0) (k := k) (l := 3) rfl hk (by decide)
      simp only [List.set_cons_zero] at e1
      have g1 : rgOk (1 + m) = true := rgOk_of (by omega) (by omega)
      exact ⟨m, k1, 0, m0, m3, hk1, by simp [h4, e1, g1]⟩
    · obtain ⟨m, k1, m0, m3, hk1, e1⟩ := take_ex hr (h := C.lst [.int k] :: (T ++ [C.lst []])) (i := 0) (k := k) (l := 2) rfl hk (by decide)
      simp only [List.set_cons_zero] at e1
      have g1 : rgOk (1 + m) = true := rgOk_of (by omega) (by omega)
      exact ⟨m, k1, 0, m0, by omega, hk1, by simp [h4, e1, g1]⟩
  obtain ⟨X, y7, y8, y9, k2, T2, lX, qX, hk2, f1, f2, e2⟩ := md_l1s hr n1 n2 x2 (some (.ref 1)) x5 x10 (p := T.length) (by omega) (c0 := .lst (Md.map (stD false))) (upFrom 0 (1 + m).toNat) [] x7 x8 x9 k1 (T ++ [C.lst []]) (by rw [upFrom_len]; simp; omega) hk1 (by simp) (by rw [List.getElem?_append_left h0l]; exact hT0) (by simp)
  rw [upFrom_len] at lX
  simp at lX
  have h2l : 0 < T2.length := (List.getElem?_eq_some_iff.mp f2).1
  have et : tupleF [.ref (T.length + 1)] (C.lst [.int k2] :: T2) = .ok (stD false X) (C.lst [.int k2] :: T2) := by
    have : stD false X = .tup (X.map (chcD false)) := rfl
    rw [this]
    simp [tupleF, f1]
  have ek : kindOk (C.lst [.int k2] :: T2) "list" (.ref 1) = true := by simp [kindOk, f2]
  have ea : appF (.ref 1) [stD false X] (C.lst [.int k2] :: T2) = .ok .non (C.lst [.int k2] :: T2.set 0 (C.lst ((Md ++ [X]).map (stD false)))) := by
    simp [appF, f2]
    omega
  refine ⟨X, some (.ref (T.length + 1)), y7, y8, y9, k2, T2.set 0 (C.lst ((Md ++ [X]).map (stD false))), ⟨by omega, by omega, qX⟩, hk2, by rw [List.getElem?_set_self h2l], ?_⟩
  have s2 : (sFor (iRg1 (aCons (eOp addF (eC (.int 1)) (eCall m_law_take (aCons (eVar 0) (aCons (eVar 1) (aCons (eIf (bEx (eOp ltF (eVar 3) (eC (.int 4)))) (eC (.int 3)) (eC (.int 2))) aNil))))) aNil)) (.n 7) m_law_model_l1) [some (.lst (row.map D.int)), some (.ref 0), x2, some (.int (n : Int)), some (.ref 1), x5, some (.ref (T.length + 1)), x7, x8, x9, x10] (C.lst [.int k] :: (T ++ [C.lst []])) = .nx [some (.lst (row.map D.int)), some (.ref 0), x2, some (.int (n : Int)), some (.ref 1), x5, some (.ref (T.length + 1)), y7, y8, y9, x10] (C.lst [.int k2] :: T2) := by
    rw [sFor_s, ec, sBd_ok]
    exact e2
  have s3 : (sDrop (eBM "list" appF (eVar 4) (aCons (eCB tupleF (aCons (eVar 6) aNil)) aNil))) [some (.lst (row.map D.int)), some (.ref 0), x2, some (.int (n : Int)), some (.ref 1), x5, some (.ref (T.length + 1)), y7, y8, y9, x10] (C.lst [.int k2] :: T2) = .nx [some (.lst (row.map D.int)), some (.ref 0), x2, some (.int (n : Int)), some (.ref 1), x5, some (.ref (T.length + 1)), y7, y8, y9, x10] (C.lst [.int k2] :: T2.set 0 (C.lst ((Md ++ [X]).map (stD false)))) := by
    generalize ((Md ++ [X]).map (stD false)) = XX at *
    generalize stD false X = SX at *
    simp [ek, et, ea]
  unfold m_law_model_l2
  rw [seq_nx _ _ _ _ _ _ s1, seq_nx _ _ _ _ _ _ s2, s3]
theorem md_l2s {n : Nat} (n1 : 1 ≤ n) (n2 : n ≤ 5) (x2 x10 : Option D) : ∀ (items : List D) (Md : List (List Chc)) (x5 x6 x7 x8 x9 : Option D) (k : Int) (T : Hc), Md.length + items.length ≤ 100 → 0 ≤ k → T[0]? = some (.lst (Md.map (stD false))) → (∀ X ∈ Md, 1 ≤ X.length ∧ X.length ≤ 3 ∧ ∀ x ∈ X, ChcOk n x) →
    ∃ (Md' : List (List Chc)) (y5 y6 y7 y8 y9 : Option D) (k' : Int) (T' : Hc), Md'.length = Md.length + items.length ∧ (∀ X ∈ Md', 1 ≤ X.length ∧ X.length ≤ 3 ∧ ∀ x ∈ X, ChcOk n x) ∧ 0 ≤ k' ∧ T'[0]? = some (.lst (Md'.map (stD false))) ∧
      fl (fun _ => true) (.n 5) m_law_model_l2 items [some (.lst (row.map D.int)), some (.ref 0), x2, some (.int (n : Int)), some (.ref 1), x5, x6, x7, x8, x9, x10] (C.lst [.int k] :: T) =
        .nx [some (.lst (row.map D.int)), some (.ref 0), x2, some (.int (n : Int)), some (.ref 1), y5, y6, y7, y8, y9, x10] (C.lst [.int k'] :: T')
  | [], Md, x5, x6, x7, x8, x9, k, T, _, hk, h1, hX => ⟨Md, x5, x6, x7, x8, x9, k, T, by simp, hX, hk, h1, fl_end rfl⟩
  | d :: r, Md, x5, x6, x7, x8, x9, k, T, hl, hk, h1, hX => by
    simp only [List.length_cons] at hl
    obtain ⟨X, y6, y7, y8, y9, k1, T1, hx, hk1, g1, e⟩ := md_l2 hr n1 n2 x2 (some d) x6 x7 x8 x9 x10 (by omega) hk h1
    obtain ⟨Md', z5, z6, z7, z8, z9, k', T', l', q', hk', f1, e'⟩ := md_l2s n1 n2 x2 x10 r (Md ++ [X]) (some d) y6 y7 y8 y9 k1 T1 (by simp; omega) hk1 g1 (fun y hy => by
      rcases List.mem_append.mp hy with q | q
      · exact hX y q
      · rw [List.mem_singleton.mp q]; exact hx)
    refine ⟨Md', z5, z6, z7, z8, z9, k', T', by simp at l' ⊢; omega, q', hk', f1, ?_⟩
    rw [fl_n (by simpa only [List.set_cons_succ, List.set_cons_zero] using e)]
    exact e'
end
end Mp
namespace Mp
open PySem PySem.Spec PyProof.Rows L2
/-! ### mirrors: Str -/
def m_law_letters_l1 : SS :=
  (sSet 3 (eOp addF (eVar 3) (eOp ixF (eC (.str "abcdefghijklmnopqrstuvwxyz")) (eCall m_law_take (aCons (eVar 0) (aCons (eVar 1) (aCons (eC (.int 26)) aNil)))))))
/-- _law_letters: row 0, spot 1, many 2, made 3, k 4 -/
def m_law_letters : Fn := runB 5
  (sSeq (sSet 3 (eC (.str "")))
  (sSeq (sFor (iRg1 (aCons (eVar 2) aNil)) (.n 4)
    m_law_letters_l1)
  (sRet (eVar 3))))
/-- _law_reserved:  -/
def m_law_reserved : Fn := runB 0
  (sRet (eLst (aCons (eC (.str "and")) (aCons (eC (.str "or")) (aCons (eC (.str "of")) (aCons (eC (.str "always")) (aCons (eC (.str "never")) aNil)))))))
def m_law_name_l1 : SS :=
  (sSeq (sIf (bAnd (bEx (eOp (inG true) (eVar 3) (eVar 2))) (bEx (eOp (inG true) (eVar 3) (eCall m_law_reserved aNil))))
      (fun ds h => .bk ds h)
      sNext)
    (sSeq (sSet 3 (eOp addF (eSl slF (eVar 3) none (some (eC (.int 7)))) (eOp ixF (eC (.str "abcdefghijklmnopqrstuvwxyz")) (eOp modF (eCB intF (aCons (eOp addF (eOp mulF (eVar 4) (eC (.int 7))) (eCB lenF (aCons (eVar 2) aNil))) aNil)) (eC (.int 26))))))
    (sIf (bEx (eOp gtF (eVar 4) (eC (.int 20))))
      (sSet 3 (eOp addF (eSl slF (eVar 3) (some (eC (.int 1))) none) (eC (.str "z"))))
      sNext)))
/-- _law_name: row 0, spot 1, used 2, made 3, k 4 -/
def m_law_name : Fn := runB 5
  (sSeq (sSet 3 (eCall m_law_letters (aCons (eVar 0) (aCons (eVar 1) (aCons (eOp addF (eC (.int 1)) (eCall m_law_take (aCons (eVar 0) (aCons (eVar 1) (aCons (eIf (bEx (eOp gtF (eCall m_law_take (aCons (eVar 0) (aCons (eVar 1) (aCons (eC (.int 4)) aNil)))) (eC (.int 0)))) (eC (.int 2)) (eC (.int 8))) aNil))))) aNil)))))
  (sSeq (sFor (iRg1 (aCons (eC (.int 40)) aNil)) (.n 4)
    m_law_name_l1)
  (sSeq (sDrop (eBM "list" appF (eVar 2) (aCons (eVar 3) aNil)))
  (sRet (eVar 3)))))
def m_law_names_l1 : SS :=
  (sDrop (eCall m_law_name (aCons (eVar 0) (aCons (eVar 1) (aCons (eVar 3) aNil)))))
/-- _law_names: row 0, spot 1, many 2, used 3, k 4 -/
def m_law_names : Fn := runB 5
  (sSeq (sSet 3 (eCell aNil))
  (sSeq (sFor (iRg1 (aCons (eVar 2) aNil)) (.n 4)
    m_law_names_l1)
  (sRet (eCB sortF (aCons (eVar 3) aNil)))))
def m_law_tree_l1 (self : Fn) : SS :=
  (sDrop (eBM "list" appF (eVar 7) (aCons (eCall self (aCons (eVar 0) (aCons (eVar 1) (aCons (eVar 2) (aCons (eOp subF (eVar 3) (eC (.int 1))) (aCons (eIf (bEx (eOp gtF (eVar 3) (eC (.int 2)))) (eVar 4) (eC (.int 3))) aNil)))))) aNil)))
/-- _law_tree: row 0, spot 1, names 2, depth 3, most 4, kind 5, many 6, es 7, k 8 -/
def m_law_tree : Nat → Fn
  | 0 => fun _ _ => .bad
  | n + 1 => runB 9 (sSeq (sSet 5 (eCall m_law_take (aCons (eVar 0) (aCons (eVar 1) (aCons (eC (.int 10)) aNil)))))
  (sSeq (sIf (bOr (bEx (eOp leF (eVar 3) (eC (.int 1)))) (bEx (eOp leF (eVar 5) (eC (.int 2)))))
    (sSeq (sIf (bAnd (bEx (eOp eqF (eVar 5) (eC (.int 0)))) (bEx (eOp eqF (eCall m_law_take (aCons (eVar 0) (aCons (eVar 1) (aCons (eC (.int 3)) aNil)))) (eC (.int 0)))))
      (sRet (eIf (bEx (eOp eqF (eCall m_law_take (aCons (eVar 0) (aCons (eVar 1) (aCons (eC (.int 2)) aNil)))) (eC (.int 0)))) (eTup (aCons (eC (.str "all")) (aCons (eTup aNil) aNil))) (eTup (aCons (eC (.str "any")) (aCons (eTup aNil) aNil)))))
      sNext)
    (sRet (eTup (aCons (eC (.str "part")) (aCons (eCall m_law_pick (aCons (eVar 0) (aCons (eVar 1) (aCons (eVar 2) aNil)))) aNil)))))
    sNext)
  (sSeq (sSet 6 (eOp addF (eC (.int 2)) (eCall m_law_take (aCons (eVar 0) (aCons (eVar 1) (aCons (eOp subF (eVar 4) (eC (.int 1))) aNil))))))
  (sSeq (sIf (bEx (eOp geF (eVar 5) (eC (.int 7))))
    (sSet 6 (eOp addF (eC (.int 1)) (eCall m_law_take (aCons (eVar 0) (aCons (eVar 1) (aCons (eVar 4) aNil))))))
    sNext)
  (sSeq (sSet 7 (eCell aNil))
  (sSeq (sFor (iRg1 (aCons (eVar 6) aNil)) (.n 8)
    (m_law_tree_l1 (m_law_tree n)))
  (sSeq (sIf (bEx (eOp leF (eVar 5) (eC (.int 4))))
    (sRet (eTup (aCons (eC (.str "all")) (aCons (eCB tupleF (aCons (eVar 7) aNil)) aNil))))
    sNext)
  (sSeq (sIf (bEx (eOp leF (eVar 5) (eC (.int 6))))
    (sRet (eTup (aCons (eC (.str "any")) (aCons (eCB tupleF (aCons (eVar 7) aNil)) aNil))))
    sNext)
  (sRet (eTup (aCons (eC (.str "some")) (aCons (eOp addF (eC (.int 1)) (eCall m_law_take (aCons (eVar 0) (aCons (eVar 1) (aCons (eVar 6) aNil))))) (aCons (eCB tupleF (aCons (eVar 7) aNil)) aNil)))))))))))))
def m_law_flat_c1 : SE :=
  (eTup (aCons (eC (.str "part")) (aCons (eVar 6) aNil)))
def m_law_flat_l1 : SS :=
  (sIf (bEx (eOp eqF (eCall m_law_take (aCons (eVar 0) (aCons (eVar 1) (aCons (eC (.int 2)) aNil)))) (eC (.int 0))))
      (sDrop (eBM "list" appF (eVar 3) (aCons (eTup (aCons (eC (.str "part")) (aCons (eCall m_law_pick (aCons (eVar 0) (aCons (eVar 1) (aCons (eVar 2) aNil)))) aNil))) aNil)))
      sNext)
/-- _law_flat: row 0, spot 1, names 2, es 3, k 4, kind 5, name 6 -/
def m_law_flat : Fn := runB 7
  (sSeq (sSet 3 (eLcC (iSeq (eSl slF (eVar 2) none (some (eC (.int 8))))) (.n 6) [6] (fun _ h => .ok true h) m_law_flat_c1))
  (sSeq (sFor (iRg1 (aCons (eOp subF (eC (.int 8)) (eCB lenF (aCons (eVar 3) aNil))) aNil)) (.n 4)
    m_law_flat_l1)
  (sSeq (sIf (bEx (eOp ltF (eCB lenF (aCons (eVar 3) aNil)) (eC (.int 2))))
    (sRet (eTup (aCons (eC (.str "some")) (aCons (eC (.int 1)) (aCons (eCB tupleF (aCons (eVar 3) aNil)) aNil)))))
    sNext)
  (sSeq (sSet 5 (eCall m_law_take (aCons (eVar 0) (aCons (eVar 1) (aCons (eC (.int 4)) aNil)))))
  (sSeq (sIf (bEx (eOp eqF (eVar 5) (eC (.int 0))))
    (sRet (eTup (aCons (eC (.str "all")) (aCons (eCB tupleF (aCons (eVar 3) aNil)) aNil))))
    sNext)
  (sSeq (sIf (bEx (eOp eqF (eVar 5) (eC (.int 1))))
    (sRet (eTup (aCons (eC (.str "any")) (aCons (eCB tupleF (aCons (eVar 3) aNil)) aNil))))
    sNext)
  (sRet (eTup (aCons (eC (.str "some")) (aCons (eOp addF (eC (.int 1)) (eCall m_law_take (aCons (eVar 0) (aCons (eVar 1) (aCons (eCB lenF (aCons (eVar 3) aNil)) aNil))))) (aCons (eCB tupleF (aCons (eVar 3) aNil)) aNil)))))))))))
/-- _law_structure: row 0, spot 1, names 2, kind 3 -/
def m_law_structure : Fn := runB 4
  (sSeq (sSet 3 (eCall m_law_take (aCons (eVar 0) (aCons (eVar 1) (aCons (eC (.int 6)) aNil)))))
  (sSeq (sIf (bEx (eOp eqF (eVar 3) (eC (.int 0))))
    (sRet (eCall m_law_flat (aCons (eVar 0) (aCons (eVar 1) (aCons (eVar 2) aNil)))))
    sNext)
  (sSeq (sIf (bEx (eOp eqF (eVar 3) (eC (.int 1))))
    (sRet (eCall (m_law_tree 24) (aCons (eVar 0) (aCons (eVar 1) (aCons (eVar 2) (aCons (eC (.int 2)) (aCons (eC (.int 6)) aNil)))))))
    sNext)
  (sRet (eCall (m_law_tree 24) (aCons (eVar 0) (aCons (eVar 1) (aCons (eVar 2) (aCons (eOp addF (eC (.int 2)) (eCall m_law_take (aCons (eVar 0) (aCons (eVar 1) (aCons (eC (.int 3)) aNil))))) (aCons (eC (.int 3)) aNil))))))))))
def m_law_works_c1 (self : Fn) : SE :=
  (eVar 3)
def m_law_works_t1 (self : Fn) : SB :=
  (bTru (eCall self (aCons (eVar 3) (aCons (eVar 1) aNil))))
/-- _law_works: e 0, up 1, many 2, one 3 -/
def m_law_works : Nat → Fn
  | 0 => fun _ _ => .bad
  | n + 1 => runB 4 (sSeq (sIf (bEx (eOp eqF (eOp ixF (eVar 0) (eC (.int 0))) (eC (.str "part"))))
    (sRet (eOp (inG false) (eOp ixF (eVar 0) (eC (.int 1))) (eVar 1)))
    sNext)
  (sSeq (sSet 2 (eCB lenF (aCons (eLc (iSeq (eOp ixF (eVar 0) (eOp subF (eCB lenF (aCons (eVar 0) aNil)) (eC (.int 1))))) (.n 3) [3] (m_law_works_t1 (m_law_works n)) (m_law_works_c1 (m_law_works n))) aNil)))
  (sSeq (sIf (bEx (eOp eqF (eOp ixF (eVar 0) (eC (.int 0))) (eC (.str "all"))))
    (sRet (eOp eqF (eVar 2) (eCB lenF (aCons (eOp ixF (eVar 0) (eC (.int 1))) aNil))))
    sNext)
  (sSeq (sIf (bEx (eOp eqF (eOp ixF (eVar 0) (eC (.int 0))) (eC (.str "any"))))
    (sRet (eOp gtF (eVar 2) (eC (.int 0))))
    sNext)
  (sRet (eOp geF (eVar 2) (eOp ixF (eVar 0) (eC (.int 1)))))))))
def m_is_name_c1 : SE :=
  (eOp (inG false) (eVar 1) (eC (.str "abcdefghijklmnopqrstuvwxyz")))
/-- is_name: x 0, sign 1 -/
def m_is_name : Fn := runB 2
  (sSeq (sIf (bOr (bNot (bTru (eCB isF (aCons (eVar 0) (aCons (eC (.ty "str")) aNil))))) (bOr (bEx (eOp eqF (eCB lenF (aCons (eVar 0) aNil)) (eC (.int 0)))) (bOr (bEx (eOp gtF (eCB lenF (aCons (eVar 0) aNil)) (eC (.int 8)))) (bEx (eOp (inG false) (eVar 0) (eC (.tup [(.str "and"), (.str "or"), (.str "of"), (.str "always"), (.str "never")])))))))
    (sRet (eC (.bl false)))
    sNext)
  (sRet (eCB allF (aCons (eLc (iSgn (eVar 0)) (.n 1) [1] (fun _ h => .ok true h) m_is_name_c1) aNil))))
/-- _is_outline: e 0 -/
def m_is_outline : Fn := runB 1
  (sSeq (sIf (bOr (bNot (bTru (eCall m_is_sequence (aCons (eVar 0) aNil)))) (bOr (bEx (eOp ltF (eCB lenF (aCons (eVar 0) aNil)) (eC (.int 2)))) (bOr (bEx (eOp gtF (eCB lenF (aCons (eVar 0) aNil)) (eC (.int 3)))) (bNot (bTru (eCB isF (aCons (eOp ixF (eVar 0) (eC (.int 0))) (aCons (eC (.ty "str")) aNil))))))))
    (sRet (eC (.bl false)))
    sNext)
  (sSeq (sIf (bEx (eOp eqF (eCB lenF (aCons (eVar 0) aNil)) (eC (.int 3))))
    (sRet (eAnd (eOp eqF (eOp ixF (eVar 0) (eC (.int 0))) (eC (.str "some"))) (eAnd (eCall m_is_row (aCons (eOp ixF (eVar 0) (eC (.int 2))) (aCons (eC (.int 1)) (aCons (eC (.int 8)) aNil)))) (eCall m_is_within (aCons (eOp ixF (eVar 0) (eC (.int 1))) (aCons (eC (.int 1)) (aCons (eCB lenF (aCons (eOp ixF (eVar 0) (eC (.int 2))) aNil)) aNil)))))))
    sNext)
  (sSeq (sIf (bEx (eOp eqF (eOp ixF (eVar 0) (eC (.int 0))) (eC (.str "part"))))
    (sRet (eCall m_is_name (aCons (eOp ixF (eVar 0) (eC (.int 1))) aNil)))
    sNext)
  (sSeq (sIf (bAnd (bEx (eOp neF (eOp ixF (eVar 0) (eC (.int 0))) (eC (.str "all")))) (bEx (eOp neF (eOp ixF (eVar 0) (eC (.int 0))) (eC (.str "any")))))
    (sRet (eC (.bl false)))
    sNext)
  (sRet (eAnd (eCall m_is_row (aCons (eOp ixF (eVar 0) (eC (.int 1))) (aCons (eC (.int 0)) (aCons (eC (.int 8)) aNil)))) (eOp neF (eCB lenF (aCons (eOp ixF (eVar 0) (eC (.int 1))) aNil)) (eC (.int 1)))))))))
def m_is_structure_l1 : SS :=
  (sDrop (eBM "list" appF (eVar 3) (aCons (eTup (aCons (eVar 6) (aCons (eOp addF (eVar 5) (eC (.int 1))) aNil))) aNil)))
def m_is_structure_l2 : SS :=
  (sSeq (sAsg (.t ((.n 4) :: ((.n 5) :: []))) (eBM0 "list" popF (eVar 3)))
    (sSeq (sAug 2 addI (eC (.int 1)))
    (sSeq (sIf (bOr (bEx (eOp gtF (eVar 2) (eC (.int 60)))) (bOr (bEx (eOp gtF (eVar 5) (eC (.int 10)))) (bNot (bTru (eCall m_is_outline (aCons (eVar 4) aNil))))))
      (sRet (eC (.bl false)))
      sNext)
    (sIf (bEx (eOp eqF (eOp ixF (eVar 4) (eC (.int 0))) (eC (.str "part"))))
      (sSeq (sPut putF (eC (.bl true)) (eVar 1) (eOp ixF (eVar 4) (eC (.int 1))))
      (sIf (bEx (eOp gtF (eCB lenF (aCons (eVar 1) aNil)) (eC (.int 10))))
        (sRet (eC (.bl false)))
        sNext))
      (sFor (iSeq (eOp ixF (eVar 4) (eUn negF (eC (.int 1))))) (.n 6)
        m_is_structure_l1)))))
/-- is_structure: e 0, names 1, count 2, waiting 3, one 4, level 5, member 6 -/
def m_is_structure : Fn := runB 7
  (sSeq (sSet 1 eDct0)
  (sSeq (sSet 2 (eC (.int 0)))
  (sSeq (sSet 3 (eCell (aCons (eTup (aCons (eVar 0) (aCons (eC (.int 1)) aNil))) aNil)))
  (sSeq (wl (bTru (eVar 3))
    m_is_structure_l2 100000)
  (sRet (eC (.bl true)))))))
/-- _look: e 0 -/
def m_look_2 : Fn := runB 1
  (sIf (bNot (bTru (eCall m_is_structure (aCons (eVar 0) aNil))))
    (sRaise "BadValue" ["at"] (aCons (eC (.int 0)) aNil))
    sNext)
def m_names_in_l1 : SS :=
  (sDrop (eBM "list" appF (eVar 2) (aCons (eVar 4) aNil)))
def m_names_in_l2 : SS :=
  (sSeq (sSet 3 (eBM0 "list" popF (eVar 2)))
    (sIf (bEx (eOp eqF (eOp ixF (eVar 3) (eC (.int 0))) (eC (.str "part"))))
      (sPut putF (eC (.bl true)) (eVar 1) (eOp ixF (eVar 3) (eC (.int 1))))
      (sFor (iSeq (eOp ixF (eVar 3) (eUn negF (eC (.int 1))))) (.n 4)
        m_names_in_l1)))
/-- names_in: e 0, names 1, waiting 2, one 3, member 4 -/
def m_names_in : Fn := runB 5
  (sSeq (sSet 1 eDct0)
  (sSeq (sSet 2 (eCell (aCons (eVar 0) aNil)))
  (sSeq (wl (bTru (eVar 2))
    m_names_in_l2 100000)
  (sRet (eCB tupleF (aCons (eCB sortF (aCons (eVar 1) aNil)) aNil))))))
/-- parts: e 0 -/
def m_parts : Fn := runB 1
  (sSeq (sDrop (eCall m_look_2 (aCons (eVar 0) aNil)))
  (sRet (eCall m_names_in (aCons (eVar 0) aNil))))
def m_holds_c1 (self : Fn) : SE :=
  (eC (.int 1))
def m_holds_t1 (self : Fn) : SB :=
  (bTru (eCall self (aCons (eVar 3) (aCons (eVar 1) aNil))))
/-- holds: e 0, up 1, working 2, member 3 -/
def m_holds : Nat → Fn
  | 0 => fun _ _ => .bad
  | n + 1 => runB 4 (sSeq (sIf (bEx (eOp eqF (eOp ixF (eVar 0) (eC (.int 0))) (eC (.str "part"))))
    (sRet (eOp (inG false) (eOp ixF (eVar 0) (eC (.int 1))) (eVar 1)))
    sNext)
  (sSeq (sSet 2 (eCB sumA (aCons (eLc (iSeq (eOp ixF (eVar 0) (eUn negF (eC (.int 1))))) (.n 3) [3] (m_holds_t1 (m_holds n)) (m_holds_c1 (m_holds n))) aNil)))
  (sSeq (sIf (bEx (eOp eqF (eOp ixF (eVar 0) (eC (.int 0))) (eC (.str "all"))))
    (sRet (eOp eqF (eVar 2) (eCB lenF (aCons (eOp ixF (eVar 0) (eUn negF (eC (.int 1)))) aNil))))
    sNext)
  (sSeq (sIf (bEx (eOp eqF (eOp ixF (eVar 0) (eC (.int 0))) (eC (.str "any"))))
    (sRet (eOp gtF (eVar 2) (eC (.int 0))))
    sNext)
  (sRet (eOp geF (eVar 2) (eOp ixF (eVar 0) (eC (.int 1)))))))))
def m_works_c1 : SE :=
  (eCall m_is_name (aCons (eVar 2) aNil))
/-- works: e 0, up 1, name 2 -/
def m_works : Fn := runB 3
  (sSeq (sDrop (eCall m_look_2 (aCons (eVar 0) aNil)))
  (sSeq (sIf (bOr (bNot (bTru (eCall m_is_row (aCons (eVar 1) (aCons (eC (.int 0)) (aCons (eC (.int 30)) aNil)))))) (bNot (bTru (eCB allF (aCons (eLc (iSeq (eVar 1)) (.n 2) [2] (fun _ h => .ok true h) m_works_c1) aNil)))))
    (sRaise "BadValue" ["at"] (aCons (eC (.int 1)) aNil))
    sNext)
  (sRet (eCall (m_holds 24) (aCons (eVar 0) (aCons (eVar 1) aNil))))))
def m_law_parts_l1 (self : Fn) : SS :=
  (sIf (bEx (eOp (inG true) (eVar 3) (eVar 1)))
        (sDrop (eBM "list" appF (eVar 1) (aCons (eVar 3) aNil)))
        sNext)
def m_law_parts_l2 (self : Fn) : SS :=
  (sFor (iSeq (eCall self (aCons (eVar 2) aNil))) (.n 3)
      (m_law_parts_l1 self))
/-- _law_parts: e 0, made 1, one 2, name 3 -/
def m_law_parts : Nat → Fn
  | 0 => fun _ _ => .bad
  | n + 1 => runB 4 (sSeq (sIf (bEx (eOp eqF (eOp ixF (eVar 0) (eC (.int 0))) (eC (.str "part"))))
    (sRet (eLst (aCons (eOp ixF (eVar 0) (eC (.int 1))) aNil)))
    sNext)
  (sSeq (sSet 1 (eCell aNil))
  (sSeq (sFor (iSeq (eOp ixF (eVar 0) (eOp subF (eCB lenF (aCons (eVar 0) aNil)) (eC (.int 1))))) (.n 2)
    (m_law_parts_l2 (m_law_parts n)))
  (sRet (eCB sortF (aCons (eVar 1) aNil))))))
end Mp
namespace Mp
open PySem PySem.Spec PyProof.Rows L2
/-! ### mirrors: Set -/
def m_law_sets_c1 : SE :=
  (eOp addF (eVar 3) (eLst (aCons (eVar 2) aNil)))
def m_law_sets_l1 : SS :=
  (sSet 1 (eOp addF (eVar 1) (eLc (iSeq (eVar 1)) (.n 3) [3] (fun _ h => .ok true h) m_law_sets_c1)))
/-- _law_sets: names 0, made 1, name 2, one 3 -/
def m_law_sets : Fn := runB 4
  (sSeq (sSet 1 (eCell (aCons (eLst aNil) aNil)))
  (sSeq (sFor (iSeq (eVar 0)) (.n 2)
    m_law_sets_l1)
  (sRet (eVar 1))))
def m_law_others_c1 : SE :=
  (eVar 2)
def m_law_others_t1 : SB :=
  (bEx (eOp (inG true) (eVar 2) (eVar 1)))
/-- _law_others: names 0, some 1, name 2 -/
def m_law_others : Fn := runB 3
  (sRet (eLc (iSeq (eVar 0)) (.n 2) [2] m_law_others_t1 m_law_others_c1))
end Mp
namespace Mp
open PySem PySem.Spec PyProof.Rows L2
/-! ### mirrors: Tab -/
def m_enough_l1 : SS :=
  (sPut setF (eOp borF (eOp ixF (eVar 3) (eVar 5)) (eOp bandF (eOp ixF (eVar 3) (eOp subF (eVar 5) (eC (.int 1)))) (eVar 4))) (eVar 3) (eVar 5))
def m_enough_l2 : SS :=
  (sFor (iRg3 (aCons (eVar 1) (aCons (eC (.int 0)) (aCons (eUn negF (eC (.int 1))) aNil)))) (.n 5)
      m_enough_l1)
/-- enough: tables 0, least 1, whole 2, reached 3, one 4, j 5 -/
def m_enough : Fn := runB 6
  (sSeq (sSet 3 (eOp addC (eLst (aCons (eVar 2) aNil)) (eOp mulF (eLst (aCons (eC (.int 0)) aNil)) (eVar 1))))
  (sSeq (sFor (iSeq (eVar 0)) (.n 4)
    m_enough_l2)
  (sRet (eOp ixF (eVar 3) (eVar 1)))))
def m_joined_c1 (self : Fn) : SE :=
  (eCall self (aCons (eVar 6) (aCons (eVar 1) (aCons (eVar 2) aNil))))
def m_joined_l1 (self : Fn) : SS :=
  (sSet 4 (eOp bandF (eVar 4) (eVar 5)))
def m_joined_l2 (self : Fn) : SS :=
  (sSet 4 (eOp borF (eVar 4) (eVar 5)))
/-- joined: e 0, columns 1, whole 2, tables 3, told 4, one 5, member 6 -/
def m_joined : Nat → Fn
  | 0 => fun _ _ => .bad
  | n + 1 => runB 7 (sSeq (sIf (bEx (eOp eqF (eOp ixF (eVar 0) (eC (.int 0))) (eC (.str "part"))))
    (sRet (eOp dgF (eVar 1) (eOp ixF (eVar 0) (eC (.int 1)))))
    sNext)
  (sSeq (sSet 3 (eLc (iSeq (eOp ixF (eVar 0) (eUn negF (eC (.int 1))))) (.n 6) [6] (fun _ h => .ok true h) (m_joined_c1 (m_joined n))))
  (sSeq (sIf (bEx (eOp eqF (eOp ixF (eVar 0) (eC (.int 0))) (eC (.str "some"))))
    (sRet (eCall m_enough (aCons (eVar 3) (aCons (eOp ixF (eVar 0) (eC (.int 1))) (aCons (eVar 2) aNil)))))
    sNext)
  (sSeq (sIf (bEx (eOp eqF (eOp ixF (eVar 0) (eC (.int 0))) (eC (.str "all"))))
    (sSeq (sSet 4 (eVar 2))
    (sSeq (sFor (iSeq (eVar 3)) (.n 5)
      (m_joined_l1 (m_joined n)))
    (sRet (eVar 4))))
    sNext)
  (sSeq (sSet 4 (eC (.int 0)))
  (sSeq (sFor (iSeq (eVar 3)) (.n 5)
    (m_joined_l2 (m_joined n)))
  (sRet (eVar 4))))))))
/-- everywhere: count 0 -/
def m_everywhere : Fn := runB 1
  (sRet (eOp subF (eOp shlF (eC (.int 1)) (eOp shlF (eC (.int 1)) (eVar 0))) (eC (.int 1))))
/-- column: place 0, count 1, run 2 -/
def m_column : Fn := runB 3
  (sSeq (sSet 2 (eOp shlF (eC (.int 1)) (eVar 0)))
  (sRet (eOp shlF (eOp fdivF (eCall m_everywhere (aCons (eVar 1) aNil)) (eOp addF (eOp shlF (eC (.int 1)) (eVar 2)) (eC (.int 1)))) (eVar 2))))
def m_table_k1 : SE :=
  (eVar 5)
def m_table_v1 : SE :=
  (eCall m_column (aCons (eVar 4) (aCons (eVar 2) aNil)))
/-- table: e 0, names 1, count 2, columns 3, k 4, name 5 -/
def m_table : Fn := runB 6
  (sSeq (sSet 2 (eCB lenF (aCons (eVar 1) aNil)))
  (sSeq (sSet 3 (eDc (iEnu (aCons (eVar 1) aNil)) (.t ((.n 4) :: ((.n 5) :: []))) [4, 5] (fun _ h => .ok true h) m_table_k1 m_table_v1))
  (sRet (eCall (m_joined 24) (aCons (eVar 0) (aCons (eVar 3) (aCons (eCall m_everywhere (aCons (eVar 2) aNil)) aNil)))))))
end Mp
namespace Mp
open PySem PySem.Spec PyProof.Rows L2
/-! ### mirrors: Cha -/
/-- _law_chance: row 0, spot 1, kind 2, low 3 -/
def m_law_chance : Fn := runB 4
  (sSeq (sSet 2 (eCall m_law_take (aCons (eVar 0) (aCons (eVar 1) (aCons (eC (.int 8)) aNil)))))
  (sSeq (sIf (bEx (eOp eqF (eVar 2) (eC (.int 0))))
    (sRet (eTup (aCons (eC (.int 0)) (aCons (eC (.int 1)) aNil))))
    sNext)
  (sSeq (sIf (bEx (eOp eqF (eVar 2) (eC (.int 1))))
    (sRet (eTup (aCons (eC (.int 1)) (aCons (eC (.int 1)) aNil))))
    sNext)
  (sSeq (sSet 3 (eOp addF (eC (.int 1)) (eCall m_law_take (aCons (eVar 0) (aCons (eVar 1) (aCons (eC (.int 9)) aNil))))))
  (sRet (eCall (m_law_red 24) (aCons (eCall m_law_take (aCons (eVar 0) (aCons (eVar 1) (aCons (eOp addF (eVar 3) (eC (.int 1))) aNil)))) (aCons (eVar 3) aNil))))))))
def m_law_odds_l1 : SS :=
  (sSeq (sSet 5 (eCall m_law_take (aCons (eVar 0) (aCons (eVar 1) (aCons (eOp addF (eCB lenF (aCons (eVar 3) aNil)) (eC (.int 1))) aNil)))))
    (sSet 3 (eOp addF (eOp addF (eSl slF (eVar 3) none (some (eVar 5))) (eLst (aCons (eTup (aCons (eVar 4) (aCons (eCall m_law_chance (aCons (eVar 0) (aCons (eVar 1) aNil))) aNil))) aNil))) (eSl slF (eVar 3) (some (eVar 5)) none))))
/-- _law_odds: row 0, spot 1, names 2, made 3, name 4, at 5 -/
def m_law_odds : Fn := runB 6
  (sSeq (sSet 3 (eCell aNil))
  (sSeq (sFor (iSeq (eVar 2)) (.n 4)
    m_law_odds_l1)
  (sRet (eCB tupleF (aCons (eVar 3) aNil)))))
/-- _law_inner: row 0, spot 1, low 2 -/
def m_law_inner : Fn := runB 3
  (sSeq (sSet 2 (eOp addF (eC (.int 2)) (eCall m_law_take (aCons (eVar 0) (aCons (eVar 1) (aCons (eC (.int 8)) aNil))))))
  (sRet (eCall (m_law_red 24) (aCons (eOp addF (eC (.int 1)) (eCall m_law_take (aCons (eVar 0) (aCons (eVar 1) (aCons (eOp subF (eVar 2) (eC (.int 1))) aNil))))) (aCons (eVar 2) aNil)))))
def m_law_sure_l1 : SS :=
  (sDrop (eBM "list" appF (eVar 3) (aCons (eTup (aCons (eVar 4) (aCons (eCall m_law_inner (aCons (eVar 0) (aCons (eVar 1) aNil))) aNil))) aNil)))
/-- _law_sure: row 0, spot 1, names 2, made 3, name 4 -/
def m_law_sure : Fn := runB 5
  (sSeq (sSet 3 (eCell aNil))
  (sSeq (sFor (iSeq (eVar 2)) (.n 4)
    m_law_sure_l1)
  (sRet (eCB tupleF (aCons (eVar 3) aNil)))))
def m_odds_of_l1 : SS :=
  (sSeq (sIf (bOr (bNot (bTru (eCall m_is_row (aCons (eVar 2) (aCons (eC (.int 2)) (aCons (eC (.int 2)) aNil)))))) (bOr (bNot (bTru (eCall m_is_name (aCons (eOp ixF (eVar 2) (eC (.int 0))) aNil)))) (bNot (bTru (eCall m_is_chance (aCons (eOp ixF (eVar 2) (eC (.int 1))) aNil))))))
      (sRet (eC .non))
      sNext)
    (sSeq (sIf (bEx (eOp (dinF false) (eOp ixF (eVar 2) (eC (.int 0))) (eVar 1)))
      (sRet (eC .non))
      sNext)
    (sPut putF (eTup (aCons (eOp ixF (eOp ixF (eVar 2) (eC (.int 1))) (eC (.int 0))) (aCons (eOp ixF (eOp ixF (eVar 2) (eC (.int 1))) (eC (.int 1))) aNil))) (eVar 1) (eOp ixF (eVar 2) (eC (.int 0))))))
/-- odds_of: value 0, found 1, pair 2 -/
def m_odds_of : Fn := runB 3
  (sSeq (sIf (bNot (bTru (eCall m_is_row (aCons (eVar 0) (aCons (eC (.int 0)) (aCons (eC (.int 20)) aNil))))))
    (sRet (eC .non))
    sNext)
  (sSeq (sSet 1 eDct0)
  (sSeq (sFor (iSeq (eVar 0)) (.n 2)
    m_odds_of_l1)
  (sRet (eVar 1)))))
/-- _known_odds: e 0, odds 1, known 2 -/
def m_known_odds : Fn := runB 3
  (sSeq (sIf (bNot (bTru (eCall m_is_structure (aCons (eVar 0) aNil))))
    (sRaise "BadValue" ["at"] (aCons (eC (.int 0)) aNil))
    sNext)
  (sSeq (sSet 2 (eCall m_odds_of (aCons (eVar 1) aNil)))
  (sSeq (sIf (bEx (eOp isnF (eVar 2) (eC .non)))
    (sRaise "BadValue" ["at"] (aCons (eC (.int 1)) aNil))
    sNext)
  (sRet (eVar 2)))))
def m_first_lacking_l1 : SS :=
  (sIf (bEx (eOp (dinF true) (eVar 2) (eVar 1)))
      (sRet (eVar 2))
      sNext)
/-- first_lacking: names 0, known 1, name 2 -/
def m_first_lacking : Fn := runB 3
  (sSeq (sFor (iSeq (eVar 0)) (.n 2)
    m_first_lacking_l1)
  (sRet (eC .non)))
/-- _look_up: names 0, known 1, lacking 2 -/
def m_look_up : Fn := runB 3
  (sSeq (sSet 2 (eCall m_first_lacking (aCons (eVar 0) (aCons (eVar 1) aNil))))
  (sIf (bEx (eOp notnF (eVar 2) (eC .non)))
    (sRaise "Unknown" ["name"] (aCons (eVar 2) aNil))
    sNext))
def m_weights_of_c1 : SE :=
  (eTup (aCons (eOp ixF (eOp dgF (eVar 1) (eVar 2)) (eC (.int 0))) (aCons (eOp subF (eOp ixF (eOp dgF (eVar 1) (eVar 2)) (eC (.int 1))) (eOp ixF (eOp dgF (eVar 1) (eVar 2)) (eC (.int 0)))) aNil)))
/-- weights_of: names 0, known 1, name 2 -/
def m_weights_of : Fn := runB 3
  (sRet (eLc (iSeq (eVar 0)) (.n 2) [2] (fun _ h => .ok true h) m_weights_of_c1))
def m_folded_c1 : SE :=
  (eOp addF (eOp mulF (eVar 3) (eOp ixF (eVar 0) (eVar 4))) (eOp mulF (eVar 2) (eOp ixF (eVar 0) (eOp addF (eVar 4) (eC (.int 1))))))
def m_folded_l1 : SS :=
  (sSet 0 (eLc (iRg3 (aCons (eC (.int 0)) (aCons (eCB lenF (aCons (eVar 0) aNil)) (aCons (eC (.int 2)) aNil)))) (.n 4) [4] (fun _ h => .ok true h) m_folded_c1))
/-- folded: row 0, weights 1, up 2, down 3, k 4 -/
def m_folded : Fn := runB 5
  (sSeq (sFor (iSeq (eVar 1)) (.t ((.n 2) :: ((.n 3) :: [])))
    m_folded_l1)
  (sRet (eVar 0)))
def m_bits_of_c1 : SE :=
  (eOp bandF (eOp shrF (eVar 0) (eVar 2)) (eC (.int 1)))
/-- bits_of: told 0, count 1, mask 2 -/
def m_bits_of : Fn := runB 3
  (sRet (eLc (iRg1 (aCons (eOp shlF (eC (.int 1)) (eVar 1)) aNil)) (.n 2) [2] (fun _ h => .ok true h) m_bits_of_c1))
/-- weighed: told 0, weights 1 -/
def m_weighed : Fn := runB 2
  (sRet (eOp ixF (eCall m_folded (aCons (eCall m_bits_of (aCons (eVar 0) (aCons (eCB lenF (aCons (eVar 1) aNil)) aNil))) (aCons (eVar 1) aNil))) (eC (.int 0))))
def m_product_of_l1 : SS :=
  (sSet 1 (eOp mulF (eVar 1) (eVar 2)))
/-- product_of: numbers 0, told 1, number 2 -/
def m_product_of : Fn := runB 3
  (sSeq (sSet 1 (eC (.int 1)))
  (sSeq (sFor (iSeq (eVar 0)) (.n 2)
    m_product_of_l1)
  (sRet (eVar 1))))
def m_below_c1 : SE :=
  (eOp addF (eVar 1) (eVar 2))
/-- below: weights 0, up 1, down 2 -/
def m_below : Fn := runB 3
  (sRet (eCall m_product_of (aCons (eLc (iSeq (eVar 0)) (.t ((.n 1) :: ((.n 2) :: []))) [1, 2] (fun _ h => .ok true h) m_below_c1) aNil)))
/-- chance: e 0, odds 1, known 2, names 3, weights 4 -/
def m_chance : Fn := runB 5
  (sSeq (sSet 2 (eCall m_known_odds (aCons (eVar 0) (aCons (eVar 1) aNil))))
  (sSeq (sSet 3 (eCall m_names_in (aCons (eVar 0) aNil)))
  (sSeq (sDrop (eCall m_look_up (aCons (eVar 3) (aCons (eVar 2) aNil))))
  (sSeq (sSet 4 (eCall m_weights_of (aCons (eVar 3) (aCons (eVar 2) aNil))))
  (sRet (eCall m_lowest (aCons (eCall m_weighed (aCons (eCall m_table (aCons (eVar 0) (aCons (eVar 3) aNil))) (aCons (eVar 4) aNil))) (aCons (eCall m_below (aCons (eVar 4) aNil)) aNil))))))))
def m_law_prior_l1 : SS :=
  (sIf (bEx (eOp eqF (eOp ixF (eVar 5) (eC (.int 0))) (eVar 4)))
        (sSet 3 (eCall m_law_mul (aCons (eVar 3) (aCons (eIf (bEx (eOp (inG false) (eVar 4) (eVar 2))) (eCall m_law_sub (aCons (eTup (aCons (eC (.int 1)) (aCons (eC (.int 1)) aNil))) (aCons (eOp ixF (eVar 5) (eC (.int 1))) aNil))) (eOp ixF (eVar 5) (eC (.int 1)))) aNil))))
        sNext)
def m_law_prior_l2 : SS :=
  (sFor (iSeq (eVar 1)) (.n 5)
      m_law_prior_l1)
/-- _law_prior: names 0, odds 1, broken 2, made 3, name 4, pair 5 -/
def m_law_prior : Fn := runB 6
  (sSeq (sSet 3 (eTup (aCons (eC (.int 1)) (aCons (eC (.int 1)) aNil))))
  (sSeq (sFor (iSeq (eVar 0)) (.n 4)
    m_law_prior_l2)
  (sRet (eVar 3))))
def m_law_sum_chance_l1 : SS :=
  (sIf (bTru (eCall (m_law_works 24) (aCons (eVar 0) (aCons (eVar 4) aNil))))
      (sSet 3 (eCall m_law_add (aCons (eVar 3) (aCons (eCall m_law_prior (aCons (eVar 2) (aCons (eVar 1) (aCons (eCall m_law_others (aCons (eVar 2) (aCons (eVar 4) aNil))) aNil)))) aNil))))
      sNext)
/-- _law_sum_chance: e 0, odds 1, names 2, total 3, one 4 -/
def m_law_sum_chance : Fn := runB 5
  (sSeq (sSet 2 (eCall (m_law_parts 24) (aCons (eVar 0) aNil)))
  (sSeq (sSet 3 (eTup (aCons (eC (.int 0)) (aCons (eC (.int 1)) aNil))))
  (sSeq (sFor (iSeq (eCall m_law_sets (aCons (eVar 2) aNil))) (.n 4)
    m_law_sum_chance_l1)
  (sRet (eVar 3)))))
end Mp
/-! words that differ -/
namespace Mp
open PySem PySem.Spec PyProof.Rows L2
end Mp
/-! StrA: structures as data; names; lists of names without repetition. -/
namespace Mp
open PySem PySem.Spec PyProof.Rows L2
/-! ### while -/
theorem wl_nx {t : SB} {b : SS} {n : Nat} {ds ds' : Sl} {h h1 h' : Hc} (ht : t ds h = .ok true h1) (hb : b ds h1 = .nx ds' h') : wl t b (n + 1) ds h = wl t b n ds' h' := by
  conv => lhs; unfold wl
  rw [ht, sBd_ok, if_pos rfl, hb]
theorem wl_stop {t : SB} {b : SS} {n : Nat} {ds : Sl} {h h1 : Hc} (ht : t ds h = .ok false h1) : wl t b (n + 1) ds h = .nx ds h1 := by
  conv => lhs; unfold wl
  rw [ht, sBd_ok, if_neg (by decide)]
/-! ### comprehensions over mapped lists -/
/-- without a test -/
theorem lcR_mm {α : Type} {chk : Hc → Bool} {p : Pt} {own : List Nat} {m : SE} {ds : Sl} {h : Hc} (g f : α → D) (hc : chk h = true) (xs : List α) (hl : xs.length ≤ 1000000)
    (hi : ∀ x ∈ xs, ∃ ds1, bindP h p (g x) (wipeD ds own) = some ds1 ∧ m ds1 h = .ok (f x) h) : lcR chk p own (fun _ h => .ok true h) m ds (xs.map g) [] h = .ok (xs.map f) h := by
  have := lcR_two (chk := chk) (p := p) (own := own) (m := m) (ds := ds) (h := h) hc (xs.map g) (xs.map f) [] (by simpa using hl) (All2.map fun x hx => hi x hx)
  simpa using this
/-! ### lists without repetition -/
section
variable {α : Type} [DecidableEq α]
def uq : List α → List α
  | [] => []
  | x :: r => if x ∈ r then uq r else x :: uq r
end
/-! ### names -/
structure Nm (w : Str) : Prop where
  lo : 1 ≤ w.cps.toList.length
  hi : w.cps.toList.length ≤ 8
  low : ∀ c ∈ w.cps.toList, 97 ≤ c ∧ c ≤ 122
  nr : w ∉ (["and", "or", "of", "always", "never"] : List Str)
@[simp] theorem eqS_str (a b : Str) : eqS (.str a) (.str b) = (a == b) := rfl
@[simp] theorem scalD_str (a : Str) : scalD (.str a) = true := rfl
end Mp
/-! StrB: structures as data; whether a value is one; the names in it. -/
namespace Mp
open PySem PySem.Spec PyProof.Rows L2
inductive Cn where
  | all | any | some (k : Int)
inductive E where
  | part (w : Str) | node (c : Cn) (es : List E)
mutual
def eD (b : Bool) : E → D
  | .part w => sqs b [.str "part", .str w]
  | .node .all es => sqs b [.str "all", sqs b (eDL b es)]
  | .node .any es => sqs b [.str "any", sqs b (eDL b es)]
  | .node (.some k) es => sqs b [.str "some", .int k, sqs b (eDL b es)]
def eDL (b : Bool) : List E → List D
  | [] => []
  | e :: r => eD b e :: eDL b r
end
mutual
@[simp] theorem flat_eD (b : Bool) : ∀ e, flat (eD b e) = true
  | .part w => by unfold eD; exact flat_sqs b (by simp)
  | .node .all es => by unfold eD; exact flat_sqs b (by simp [flat_sqs b (flat_eDL b es)])
  | .node .any es => by unfold eD; exact flat_sqs b (by simp [flat_sqs b (flat_eDL b es)])
  | .node (.some k) es => by unfold eD; exact flat_sqs b (by simp [flat_sqs b (flat_eDL b es)])
@[simp] theorem flat_eDL (b : Bool) : ∀ es, flatL (eDL b es) = true
  | [] => by simp [eDL]
  | e :: r => by simp [eDL, flat_eD b e, flat_eDL b r]
end
/-- as the program sees it -/
def cnD (b : Bool) (c : Cn) (x : D) : D := match c with
  | .all => sqs b [.str "all", x]
  | .any => sqs b [.str "any", x]
  | .some k => sqs b [.str "some", .int k, x]
mutual
def sz : E → Nat
  | .part _ => 1
  | .node _ es => 1 + szL es
def szL : List E → Nat
  | [] => 0
  | e :: r => sz e + szL r
end
mutual
def dp : E → Nat
  | .part _ => 1
  | .node _ es => 1 + dpL es
def dpL : List E → Nat
  | [] => 0
  | e :: r => max (dp e) (dpL r)
end
def CnOk (c : Cn) (n : Nat) : Prop := match c with
  | .some k => 1 ≤ k ∧ k ≤ n
  | _ => n ≠ 1
mutual
def EOk (ns : List Str) : E → Prop
  | .part w => w ∈ ns
  | .node c es => es.length ≤ 8 ∧ CnOk c es.length ∧ EOkL ns es
def EOkL (ns : List Str) : List E → Prop
  | [] => True
  | e :: r => EOk ns e ∧ EOkL ns r
end
/-- a structure over names -/
structure SOk (ns : List Str) (e : E) : Prop where
  nm : ∀ w ∈ ns, Nm w
  len : ns.length ≤ 10
  ok : EOk ns e
  sz : sz e ≤ 60
  dp : dp e ≤ 10
/-! ### one member's form -/
end Mp
/-! StrC: is_structure. -/
namespace Mp
open PySem PySem.Spec PyProof.Rows L2
theorem appF_ref {n : Nat} {xs : List D} {d : D} {h : Hc} (e : h[n]? = some (.lst xs)) (hl : xs.length < 1000000) : appF (.ref n) [d] h = .ok .non (h.set n (.lst (xs ++ [d]))) := by
  unfold appF
  simp [e, hl]
theorem kindOk_list {n : Nat} {xs : List D} {h : Hc} (e : h[n]? = some (.lst xs)) : kindOk h "list" (.ref n) = true := by
  simp [kindOk, rdlD, lstD, e]
/-- keys of a dict with names -/
def insW (ws : List Str) (w : Str) : List Str := if w ∈ ws then ws else ws ++ [w]
abbrev Stk := List (E × Nat)
def stkD (b : Bool) (S : Stk) : List D := S.map fun z => .tup [eD b z.1, .int (z.2 : Int)]
def totS (S : Stk) : Nat := (S.map fun z => sz z.1).sum
section
variable (b : Bool) (x0 x1 x2 x4 : Option D) (l : Nat) (c0 : C)
end
structure StkOk (ns : List Str) (S : Stk) : Prop where
  ok : ∀ z ∈ S, EOk ns z.1 ∧ z.2 + dp z.1 ≤ 11
section
variable (b : Bool) {ns : List Str} (hN : ∀ w ∈ ns, Nm w) (hn : ns.length ≤ 10) (x0 : Option D)
include hN hn
end
end Mp
namespace Mp
open PySem PySem.Spec PyProof.Rows L2
/-! ### mirrors: Lin -/
def m_shared_factor_l1 : SS :=
  (sSet 1 (eCB gcdF (aCons (eVar 1) (aCons (eVar 2) aNil))))
/-- shared_factor: row 0, common 1, x 2 -/
def m_shared_factor : Fn := runB 3
  (sSeq (sSet 1 (eC (.int 0)))
  (sSeq (sFor (iSeq (eVar 0)) (.n 2)
    m_shared_factor_l1)
  (sRet (eCB maxF (aCons (eVar 1) (aCons (eC (.int 1)) aNil))))))
def m_lowered_c1 : SE :=
  (eOp fdivF (eVar 2) (eVar 1))
/-- lowered: row 0, common 1, x 2 -/
def m_lowered : Fn := runB 3
  (sSeq (sSet 1 (eCall m_shared_factor (aCons (eVar 0) aNil)))
  (sRet (eLc (iSeq (eVar 0)) (.n 2) [2] (fun _ h => .ok true h) m_lowered_c1)))
def m_lead_place_l1 : SS :=
  (sAug 2 addI (eC (.int 1)))
/-- lead_place: rows 0, at 1, place 2 -/
def m_lead_place : Fn := runB 3
  (sSeq (sSet 2 (eVar 1))
  (sSeq (wl (bEx (eOp eqF (eOp ixF (eOp ixF (eVar 0) (eVar 2)) (eVar 1)) (eC (.int 0))))
    m_lead_place_l1 100000)
  (sRet (eVar 2))))
def m_cleared_c1 : SE :=
  (eOp subF (eOp mulF (eVar 4) (eVar 6)) (eOp mulF (eVar 5) (eVar 7)))
/-- cleared: row 0, lead 1, at 2, common 3, ours 4, theirs 5, x 6, y 7 -/
def m_cleared : Fn := runB 8
  (sSeq (sSet 3 (eCB gcdF (aCons (eOp ixF (eVar 0) (eVar 2)) (aCons (eOp ixF (eVar 1) (eVar 2)) aNil))))
  (sSeq (sSet 4 (eOp fdivF (eOp ixF (eVar 1) (eVar 2)) (eVar 3)))
  (sSeq (sSet 5 (eOp fdivF (eOp ixF (eVar 0) (eVar 2)) (eVar 3)))
  (sRet (eCall m_lowered (aCons (eLc (iZip (aCons (eVar 0) (aCons (eVar 1) aNil))) (.t ((.n 6) :: ((.n 7) :: []))) [6, 7] (fun _ h => .ok true h) m_cleared_c1) aNil))))))
def m_solved_c1 : SE :=
  (eCall m_lowered (aCons (eVar 6) aNil))
def m_solved_l1 : SS :=
  (sIf (bAnd (bEx (eOp neF (eVar 5) (eVar 3))) (bEx (eOp neF (eOp ixF (eOp ixF (eVar 1) (eVar 5)) (eVar 3)) (eC (.int 0)))))
        (sPut setF (eCall m_cleared (aCons (eOp ixF (eVar 1) (eVar 5)) (aCons (eOp ixF (eVar 1) (eVar 3)) (aCons (eVar 3) aNil)))) (eVar 1) (eVar 5))
        sNext)
def m_solved_l2 : SS :=
  (sSeq (sSet 4 (eCall m_lead_place (aCons (eVar 1) (aCons (eVar 3) aNil))))
    (sSeq (sSw (aCons (eOp ixF (eVar 1) (eVar 4)) (aCons (eOp ixF (eVar 1) (eVar 3)) aNil)) (eVar 1) (eVar 3) (eVar 1) (eVar 4))
    (sFor (iRg1 (aCons (eVar 2) aNil)) (.n 5)
      m_solved_l1)))
def m_solved_c2 : SE :=
  (eCall m_reduced (aCons (eOp ixF (eOp ixF (eVar 1) (eVar 5)) (eVar 2)) (aCons (eOp ixF (eOp ixF (eVar 1) (eVar 5)) (eVar 5)) aNil)))
/-- solved: rows 0, work 1, many 2, at 3, place 4, k 5, row 6 -/
def m_solved : Fn := runB 7
  (sSeq (sSet 1 (eLcC (iSeq (eVar 0)) (.n 6) [6] (fun _ h => .ok true h) m_solved_c1))
  (sSeq (sSet 2 (eCB lenF (aCons (eVar 1) aNil)))
  (sSeq (sFor (iRg1 (aCons (eVar 2) aNil)) (.n 3)
    m_solved_l2)
  (sRet (eCB tupleF (aCons (eLc (iRg1 (aCons (eVar 2) aNil)) (.n 5) [5] (fun _ h => .ok true h) m_solved_c2) aNil))))))
def m_reached_l1 : SS :=
  (sIf (bAnd (bEx (eOp gtF (eVar 7) (eC (.int 0)))) (bEx (eOp (dinF true) (eVar 6) (eVar 3))))
          (sSeq (sPut putF (eC (.bl true)) (eVar 3) (eVar 6))
          (sDrop (eBM "list" appF (eVar 4) (aCons (eVar 6) aNil))))
          sNext)
def m_reached_l2 : SS :=
  (sSeq (sSet 5 (eBM0 "list" popF (eVar 4)))
    (sIf (bEx (eOp (inG true) (eVar 5) (eVar 2)))
      (sFor (iEnu (aCons (eOp ixF (eVar 0) (eVar 5)) aNil)) (.t ((.n 6) :: ((.n 7) :: [])))
        m_reached_l1)
      sNext))
/-- reached: chain 0, start 1, walls 2, found 3, waiting 4, state 5, other 6, weight 7 -/
def m_reached : Fn := runB 8
  (sSeq (sSet 3 (eDct1 (gVar 1) (gC (.bl true))))
  (sSeq (sSet 4 (eCell (aCons (eVar 1) aNil)))
  (sSeq (wl (bTru (eVar 4))
    m_reached_l2 100000)
  (sRet (eCB sortF (aCons (eVar 3) aNil))))))
def m_law_reach_l1 : SS :=
  (sIf (bAnd (bEx (eOp gtF (eOp ixF (eOp ixF (eVar 0) (eVar 6)) (eVar 7)) (eC (.int 0)))) (bEx (eOp (inG true) (eVar 7) (eVar 3))))
          (sSeq (sDrop (eBM "list" appF (eVar 3) (aCons (eVar 7) aNil)))
          (sDrop (eBM "list" appF (eVar 4) (aCons (eVar 7) aNil))))
          sNext)
def m_law_reach_l2 : SS :=
  (sSeq (sIf (bEx (eOp eqF (eCB lenF (aCons (eVar 4) aNil)) (eC (.int 0))))
      (fun ds h => .bk ds h)
      sNext)
    (sSeq (sSet 6 (eBM0 "list" popF (eVar 4)))
    (sIf (bEx (eOp (inG true) (eVar 6) (eVar 2)))
      (sFor (iRg1 (aCons (eCB lenF (aCons (eVar 0) aNil)) aNil)) (.n 7)
        m_law_reach_l1)
      sNext)))
/-- _law_reach: chain 0, start 1, stops 2, made 3, waiting 4, k 5, one 6, j 7 -/
def m_law_reach : Fn := runB 8
  (sSeq (sSet 3 (eCell (aCons (eVar 1) aNil)))
  (sSeq (sSet 4 (eCell (aCons (eVar 1) aNil)))
  (sSeq (sFor (iRg1 (aCons (eOp addF (eCB lenF (aCons (eVar 0) aNil)) (eC (.int 1))) aNil)) (.n 5)
    m_law_reach_l2)
  (sRet (eVar 3)))))
def m_law_solve_c1 : SE :=
  (eCB listF (aCons (eVar 9) aNil))
def m_law_solve_l1 : SS :=
  (sIf (bEx (eOp neF (eOp ixF (eOp ixF (eOp ixF (eVar 2) (eVar 5)) (eVar 3)) (eC (.int 0))) (eC (.int 0))))
        (sSeq (sSet 4 (eVar 5))
        (fun ds h => .bk ds h))
        sNext)
def m_law_solve_c2 : SE :=
  (eCall m_law_div (aCons (eVar 9) (aCons (eVar 7) aNil)))
def m_law_solve_c3 : SE :=
  (eCall m_law_sub (aCons (eOp ixF (eOp ixF (eVar 2) (eVar 5)) (eVar 10)) (aCons (eCall m_law_mul (aCons (eVar 8) (aCons (eOp ixF (eOp ixF (eVar 2) (eVar 3)) (eVar 10)) aNil))) aNil)))
def m_law_solve_l2 : SS :=
  (sIf (bAnd (bEx (eOp neF (eVar 5) (eVar 3))) (bEx (eOp neF (eOp ixF (eOp ixF (eOp ixF (eVar 2) (eVar 5)) (eVar 3)) (eC (.int 0))) (eC (.int 0)))))
        (sSeq (sSet 8 (eOp ixF (eOp ixF (eVar 2) (eVar 5)) (eVar 3)))
        (sPut setF (eLc (iRg1 (aCons (eOp addF (eVar 1) (eC (.int 1))) aNil)) (.n 10) [10] (fun _ h => .ok true h) m_law_solve_c3) (eVar 2) (eVar 5)))
        sNext)
def m_law_solve_l3 : SS :=
  (sSeq (sSet 4 (eVar 3))
    (sSeq (sFor (iRg2 (aCons (eVar 3) (aCons (eVar 1) aNil))) (.n 5)
      m_law_solve_l1)
    (sSeq (sSet 6 (eOp ixF (eVar 2) (eVar 3)))
    (sSeq (sPut setF (eOp ixF (eVar 2) (eVar 4)) (eVar 2) (eVar 3))
    (sSeq (sPut setF (eVar 6) (eVar 2) (eVar 4))
    (sSeq (sSet 7 (eOp ixF (eOp ixF (eVar 2) (eVar 3)) (eVar 3)))
    (sSeq (sPut setF (eLc (iSeq (eOp ixF (eVar 2) (eVar 3))) (.n 9) [9] (fun _ h => .ok true h) m_law_solve_c2) (eVar 2) (eVar 3))
    (sFor (iRg1 (aCons (eVar 1) aNil)) (.n 5)
      m_law_solve_l2))))))))
def m_law_solve_c4 : SE :=
  (eOp ixF (eVar 9) (eVar 1))
/-- _law_solve: rows 0, many 1, made 2, k 3, at 4, j 5, held 6, top 7, by 8, one 9, i 10 -/
def m_law_solve : Fn := runB 11
  (sSeq (sSet 1 (eCB lenF (aCons (eVar 0) aNil)))
  (sSeq (sSet 2 (eLcC (iSeq (eVar 0)) (.n 9) [9] (fun _ h => .ok true h) m_law_solve_c1))
  (sSeq (sFor (iRg1 (aCons (eVar 1) aNil)) (.n 3)
    m_law_solve_l3)
  (sRet (eLc (iSeq (eVar 2)) (.n 9) [9] (fun _ h => .ok true h) m_law_solve_c4)))))
def m_law_lines_c1 : SE :=
  (eIf (bEx (eOp eqF (eVar 8) (eVar 5))) (eTup (aCons (eC (.int 1)) (aCons (eC (.int 1)) aNil))) (eTup (aCons (eC (.int 0)) (aCons (eC (.int 1)) aNil))))
def m_law_lines_c2 : SE :=
  (eCall m_law_sub (aCons (eOp ixF (eVar 6) (eVar 8)) (aCons (eOp ixF (eVar 7) (eVar 8)) aNil)))
def m_law_lines_l1 : SS :=
  (sSeq (sSet 6 (eLc (iRg1 (aCons (eVar 3) aNil)) (.n 8) [8] (fun _ h => .ok true h) m_law_lines_c1))
    (sIf (bEx (eOp notnF (eOp ixF (eVar 1) (eVar 5)) (eC .non)))
      (sDrop (eBM "list" appF (eVar 4) (aCons (eOp addF (eVar 6) (eLst (aCons (eOp ixF (eVar 1) (eVar 5)) aNil))) aNil)))
      (sSeq (sSet 7 (eCall m_law_shares (aCons (eVar 0) (aCons (eVar 5) aNil))))
      (sDrop (eBM "list" appF (eVar 4) (aCons (eOp addF (eLc (iRg1 (aCons (eVar 3) aNil)) (.n 8) [8] (fun _ h => .ok true h) m_law_lines_c2) (eLst (aCons (eVar 2) aNil))) aNil))))))
/-- _law_lines: chain 0, known 1, base 2, many 3, rows 4, s 5, one 6, shares 7, j 8 -/
def m_law_lines : Fn := runB 9
  (sSeq (sSet 3 (eCB lenF (aCons (eVar 0) aNil)))
  (sSeq (sSet 4 (eCell aNil))
  (sSeq (sFor (iRg1 (aCons (eVar 3) aNil)) (.n 5)
    m_law_lines_l1)
  (sRet (eVar 4)))))
end Mp
/-! SolA: lines of numbers that are cleared column by column. -/
namespace Mp
def sumR (f : Nat → Rat) : Nat → Rat
  | 0 => 0
  | n + 1 => sumR f n + f n
theorem sumR_congr {f g : Nat → Rat} : ∀ {n : Nat}, (∀ i, i < n → f i = g i) → sumR f n = sumR g n
  | 0, _ => rfl
  | n + 1, h => by rw [sumR, sumR, sumR_congr fun i hi => h i (by omega), h n (by omega)]
theorem sumR_add (f g : Nat → Rat) : ∀ n, sumR (fun i => f i + g i) n = sumR f n + sumR g n
  | 0 => by simp only [sumR]; grind
  | n + 1 => by simp only [sumR]; rw [sumR_add f g n]; grind
theorem sumR_mul (a : Rat) (f : Nat → Rat) : ∀ n, sumR (fun i => a * f i) n = a * sumR f n
  | 0 => by simp only [sumR]; grind
  | n + 1 => by simp only [sumR]; rw [sumR_mul a f n]; grind
theorem sumR_zero {f : Nat → Rat} : ∀ {n : Nat}, (∀ i, i < n → f i = 0) → sumR f n = 0
  | 0, _ => rfl
  | n + 1, h => by rw [sumR, sumR_zero fun i hi => h i (by omega), h n (by omega)]; grind
theorem sumR_one {f : Nat → Rat} {k : Nat} : ∀ {n : Nat}, k < n → (∀ i, i < n → i ≠ k → f i = 0) → sumR f n = f k
  | 0, h, _ => by omega
  | n + 1, h, z => by
    rw [sumR]
    by_cases e : k = n
    · subst e
      rw [sumR_zero fun i hi => z i (by omega) (by omega)]; grind
    · rw [sumR_one (k := k) (n := n) (by omega) fun i hi => z i (by omega), z n (by omega) (fun q => e q.symm)]; grind
theorem sumR_two {f : Nat → Rat} {k j : Nat} (hkj : k ≠ j) : ∀ {n : Nat}, k < n → j < n → (∀ i, i < n → i ≠ k → i ≠ j → f i = 0) → sumR f n = f k + f j
  | 0, h, _, _ => by omega
  | n + 1, h, h2, z => by
    rw [sumR]
    by_cases e : k = n
    · subst e
      rw [sumR_one (k := j) (n := k) (by omega) fun i hi hj => z i (by omega) (by omega) hj]; grind
    · by_cases e2 : j = n
      · subst e2
        rw [sumR_one (k := k) (n := j) (by omega) fun i hi hk => z i (by omega) hk (by omega)]
      · rw [sumR_two hkj (n := n) (by omega) (by omega) fun i hi => z i (by omega), z n (by omega) (fun q => e q.symm) (fun q => e2 q.symm)]; grind
abbrev Mx := Nat → Nat → Rat
def dotM (n : Nat) (r : Nat → Rat) (x : Nat → Rat) : Rat := sumR (fun j => r j * x j) n
/-- the line holds (t = 1), or holds with nothing on the right (t = 0) -/
def satL (n : Nat) (t : Rat) (r : Nat → Rat) (x : Nat → Rat) : Prop := dotM n r x = t * r n
def satM (n : Nat) (t : Rat) (m : Mx) (x : Nat → Rat) : Prop := ∀ i, i < n → satL n t (m i) x
def NSing (n : Nat) (m : Mx) : Prop := ∀ x, satM n 0 m x → ∀ j, j < n → x j = 0
theorem dot_comb (n : Nat) {r s u : Nat → Rat} {a b : Rat} (h : ∀ c, c ≤ n → r c = a * s c + b * u c) (x : Nat → Rat) : dotM n r x = a * dotM n s x + b * dotM n u x := by
  unfold dotM
  rw [← sumR_mul, ← sumR_mul, ← sumR_add]
  exact sumR_congr fun i hi => by rw [h i (by omega)]; grind
theorem sat_comb {n : Nat} {t : Rat} {r s u x : Nat → Rat} {a b : Rat} (ha : a ≠ 0) (h : ∀ c, c ≤ n → r c = a * s c + b * u c) (hu : satL n t u x) : satL n t r x ↔ satL n t s x := by
  unfold satL at hu ⊢
  rw [dot_comb n h, h n (Nat.le_refl _), hu]
  constructor
  · intro q
    have : a * (dotM n s x - t * s n) = 0 := by grind
    rcases Rat.mul_eq_zero.mp this with z | z
    · exact absurd z ha
    · grind
  · intro q
    rw [q]; grind
theorem sat_scale {n : Nat} {t : Rat} {r s x : Nat → Rat} {a : Rat} (ha : a ≠ 0) (h : ∀ c, c ≤ n → r c = a * s c) : satL n t r x ↔ satL n t s x := by
  have h' : ∀ c, c ≤ n → r c = a * s c + 0 * (fun _ => (0 : Rat)) c := fun c hc => by rw [h c hc]; grind
  refine sat_comb ha h' ?_
  unfold satL dotM
  rw [sumR_zero fun i _ => by grind]
  grind
def swp (k p i : Nat) : Nat := if i = k then p else if i = p then k else i
/-- one column is cleared -/
structure Stp (n k p : Nat) (m m' : Mx) : Prop where
  kn : k < n
  kp : k ≤ p
  pn : p < n
  piv : m p k ≠ 0
  lead : ∃ a, a ≠ 0 ∧ ∀ c, c ≤ n → m' k c = a * m p c
  rest : ∀ i, i < n → i ≠ k → m' i k = 0 ∧ ∃ a b, a ≠ 0 ∧ ∀ c, c ≤ n → m' i c = a * m (swp k p i) c + b * m p c
theorem swp_lt {n k p i : Nat} (hk : k < n) (hp : p < n) (hi : i < n) : swp k p i < n := by
  unfold swp
  split
  · exact hp
  · split
    · exact hk
    · exact hi
theorem stp_sat {n k p : Nat} {m m' : Mx} (S : Stp n k p m m') (t : Rat) (x : Nat → Rat) : satM n t m' x ↔ satM n t m x := by
  obtain ⟨a, ha, hl⟩ := S.lead
  constructor
  · intro h
    have hp : satL n t (m p) x := (sat_scale ha hl).mp (h k S.kn)
    intro i hi
    by_cases e : i = p
    · subst e; exact hp
    · -- the line that stands at swp
      have hs : swp k p i ≠ k := by
        unfold swp
        split
        · rename_i q
          subst q
          intro q2; exact e q2.symm
        · rename_i q
          exact q
      have hsl := swp_lt S.kn S.pn hi
      obtain ⟨_, a2, b2, ha2, h2⟩ := S.rest (swp k p i) hsl hs
      have hinv : swp k p (swp k p i) = i := by
        unfold swp
        by_cases q : i = k
        · subst q; simp
        · simp [q, e]
      rw [hinv] at h2
      exact (sat_comb ha2 h2 hp).mp (h _ hsl)
  · intro h i hi
    by_cases e : i = k
    · subst e
      exact (sat_scale ha hl).mpr (h p S.pn)
    · obtain ⟨_, a2, b2, ha2, h2⟩ := S.rest i hi e
      exact (sat_comb ha2 h2 (h p S.pn)).mpr (h _ (swp_lt S.kn S.pn hi))
/-- so many columns are cleared -/
structure Clr (n k : Nat) (m0 m : Mx) : Prop where
  sat : ∀ t x, satM n t m x ↔ satM n t m0 x
  off : ∀ c i, c < k → i < n → i ≠ c → m i c = 0
  dia : ∀ c, c < k → m c c ≠ 0
theorem Clr.start (n : Nat) (m : Mx) : Clr n 0 m m := ⟨fun _ _ => Iff.rfl, fun c i h => by omega, fun c h => by omega⟩
theorem Clr.step {n k p : Nat} {m0 m m' : Mx} (I : Clr n k m0 m) (S : Stp n k p m m') : Clr n (k + 1) m0 m' := by
  obtain ⟨a, ha, hl⟩ := S.lead
  have hk := S.kn
  have hkp := S.kp
  have hp := S.pn
  have colp : ∀ c, c < k → m p c = 0 := fun c hc => I.off c p hc hp (by omega)
  refine ⟨fun t x => (stp_sat S t x).trans (I.sat t x), fun c i hc hi hne => ?_, fun c hc => ?_⟩
  · by_cases e : c = k
    · subst e
      exact (S.rest i hi hne).1
    · have hc' : c < k := by omega
      by_cases ei : i = k
      · subst ei
        rw [hl c (by omega), colp c hc']; grind
      · obtain ⟨_, a2, b2, _, h2⟩ := S.rest i hi ei
        rw [h2 c (by omega), colp c hc', I.off c (swp k p i) hc' (swp_lt hk hp hi) (by unfold swp; rw [if_neg ei]; split <;> omega)]
        grind
  · by_cases e : c = k
    · subst e
      rw [hl c (by omega)]
      intro z
      rcases Rat.mul_eq_zero.mp z with z | z
      · exact ha z
      · exact S.piv z
    · have hc' : c < k := by omega
      obtain ⟨_, a2, b2, ha2, h2⟩ := S.rest c (by omega) e
      have es : swp k p c = c := by unfold swp; rw [if_neg e, if_neg (by omega)]
      rw [h2 c (by omega), es, colp c hc']
      intro z
      have : a2 * m c c = 0 := by grind
      rcases Rat.mul_eq_zero.mp this with z | z
      · exact ha2 z
      · exact I.dia c hc' z
/-- there is something to clear with -/
theorem Clr.pivot {n k : Nat} {m0 m : Mx} (I : Clr n k m0 m) (hk : k < n) (N : NSing n m0) : ∃ p, k ≤ p ∧ p < n ∧ m p k ≠ 0 := by
  by_cases h : ∃ p, k ≤ p ∧ p < n ∧ m p k ≠ 0
  · exact h
  · exfalso
    have hz : ∀ p, k ≤ p → p < n → m p k = 0 := fun p h1 h2 => by
      by_cases q : m p k = 0
      · exact q
      · exact absurd ⟨p, h1, h2, q⟩ h
    let y : Nat → Rat := fun j => if j = k then 1 else if j < k then -(m j k) / m j j else 0
    have hy : satM n 0 m y := fun i hi => by
      unfold satL dotM
      have e0 : (0 : Rat) * m i n = 0 := by grind
      rw [e0]
      by_cases c : i < k
      · rw [sumR_two (f := fun j => m i j * y j) (k := i) (j := k) (by omega) hi hk fun j hj h1 h2 => ?_]
        · show m i i * (if i = k then 1 else if i < k then -(m i k) / m i i else 0) + m i k * (if k = k then 1 else _) = 0
          rw [if_neg (by omega), if_pos c, if_pos rfl]
          have := I.dia i c
          grind
        · show m i j * (if j = k then 1 else if j < k then -(m j k) / m j j else 0) = 0
          rw [if_neg h2]
          split
          · rename_i q
            rw [I.off j i q hi (fun z => h1 z.symm)]; grind
          · grind
      · refine sumR_zero fun j hj => ?_
        show m i j * (if j = k then 1 else if j < k then -(m j k) / m j j else 0) = 0
        split
        · rename_i q
          subst q
          rw [hz i (by omega) hi]; grind
        · split
          · rename_i q
            rw [I.off j i q hi (by omega)]; grind
          · grind
    have := N y ((I.sat 0 y).mp hy) k hk
    have e : y k = 1 := if_pos rfl
    rw [e] at this
    exact absurd this (by decide)
/-- the end: each line tells its number -/
theorem Clr.done {n : Nat} {m0 m : Mx} (I : Clr n n m0 m) : satM n 1 m0 (fun i => m i n / m i i) := by
  rw [← I.sat]
  intro i hi
  unfold satL dotM
  rw [sumR_one (k := i) hi fun j hj hne => by rw [I.off j i hj hi (fun z => hne z.symm)]; grind]
  have := I.dia i hi
  grind
theorem sat_uniq {n : Nat} {m : Mx} (N : NSing n m) {x y : Nat → Rat} (hx : satM n 1 m x) (hy : satM n 1 m y) : ∀ j, j < n → x j = y j := by
  intro j hj
  have : satM n 0 m fun i => x i - y i := fun i hi => by
    have h1 := hx i hi
    have h2 := hy i hi
    unfold satL dotM at h1 h2 ⊢
    have e : sumR (fun j => m i j * (x j - y j)) n = sumR (fun j => m i j * x j) n + (-1) * sumR (fun j => m i j * y j) n := by
      rw [← sumR_mul, ← sumR_add]
      exact sumR_congr fun j _ => by grind
    rw [e, h1, h2]; grind
  have := N _ this j hj
  grind
end Mp
/-! SolB: lines of ints are solved by the program. -/
namespace Mp
open PySem PySem.Spec PyProof.Rows L2
def rwI (r : List Int) : D := .lst (r.map D.int)
@[simp] theorem flat_rwI (r : List Int) : flat (rwI r) = true := by unfold rwI; simp
def gF (c : Nat) (r : List Int) : Nat := r.foldl (fun c x => Nat.gcd c x.natAbs) c
theorem gF_dvd : ∀ (r : List Int) (c : Nat), gF c r ∣ c ∧ ∀ x ∈ r, gF c r ∣ x.natAbs
  | [], c => ⟨Nat.dvd_refl _, by simp⟩
  | x :: r, c => by
    obtain ⟨h1, h2⟩ := gF_dvd r (Nat.gcd c x.natAbs)
    refine ⟨Nat.dvd_trans h1 (Nat.gcd_dvd_left _ _), fun y hy => ?_⟩
    rcases List.mem_cons.mp hy with rfl | hy
    · exact Nat.dvd_trans h1 (Nat.gcd_dvd_right _ _)
    · exact h2 y hy
def shf (r : List Int) : Int := if (gF 0 r : Int) < 1 then 1 else gF 0 r
theorem shf_pos (r : List Int) : 1 ≤ shf r := by unfold shf; split <;> omega
theorem shf_dvd {r : List Int} {x : Int} (h : x ∈ r) : shf r ∣ x := by
  unfold shf
  split
  · exact Int.one_dvd x
  · exact Int.ofNat_dvd_left.mpr ((gF_dvd r 0).2 x h)
theorem shf_big (r : List Int) {b : Nat} (hb : 1 ≤ b) (hr : ∀ x ∈ r, x.natAbs < 2 ^ b) (hne : r ≠ []) : (shf r).natAbs < 2 ^ b := by
  unfold shf
  split
  · exact Nat.one_lt_two_pow (by omega)
  · rename_i h
    obtain ⟨x, hx⟩ := List.exists_mem_of_ne_nil r hne
    by_cases z : ∃ x ∈ r, x ≠ 0
    · obtain ⟨x, hx, h0⟩ := z
      have := Nat.le_of_dvd (by omega) ((gF_dvd r 0).2 x hx)
      have := hr x hx
      simp
      omega
    · exfalso
      have all0 : ∀ x ∈ r, x = 0 := fun x hx => by
        by_cases q : x = 0
        · exact q
        · exact absurd ⟨x, hx, q⟩ z
      have : ∀ (l : List Int), (∀ x ∈ l, x = 0) → gF 0 l = 0 := fun l => by
        induction l with
        | nil => intro _; rfl
        | cons y l ih =>
          intro hl
          have hy := hl y (by simp)
          subst hy
          exact ih fun x hx => hl x (by simp [hx])
      rw [this r all0] at h
      omega
def lowI (r : List Int) : List Int := r.map fun x => x.fdiv (shf r)
theorem shared_loop (x0 : Option D) : ∀ (r : List Int) (c : Nat) (x2 : Option D), ∃ y2, fl (fun _ => true) (.n 2) m_shared_factor_l1 (r.map D.int) [x0, some (.int (c : Int)), x2] [] = .nx [x0, some (.int (gF c r : Nat)), y2] []
  | [], c, x2 => ⟨x2, fl_end rfl⟩
  | x :: r, c, x2 => by
    obtain ⟨y2, ih⟩ := shared_loop x0 r (Nat.gcd c x.natAbs) (some (.int x))
    refine ⟨y2, ?_⟩
    rw [List.map_cons]
    refine Eq.trans (fl_n (b := m_shared_factor_l1) ?_) ih
    simp [m_shared_factor_l1]
theorem shared_ok (r : List Int) (h : Hc) : callL m_shared_factor [rwI r] h = .ok (.int (shf r)) h := by
  obtain ⟨y2, e1⟩ := shared_loop (some (rwI r)) r 0 none
  have e0 : ((0 : Nat) : Int) = 0 := rfl
  rw [e0] at e1
  refine call_flat (h' := []) (by simp) ?_ (by simp) h
  have e8 : ∀ h, seqD h (rwI r) = some (r.map D.int) := fun h => rfl
  have e9 : chkQ (rwI r) (r.map D.int) = fun _ => true := by unfold rwI; simp
  unfold m_shared_factor shf
  rw [runB_s]
  generalize r.map D.int = RD at *
  generalize rwI r = RW at *
  simp [e8, e9, e1]
theorem divOk_b {j : Int} {b : Nat} (h0 : j ≠ 0) (hb : b ≤ 8000) (hj : j.natAbs < 2 ^ b) : divOk j = true := by
  unfold divOk
  have h1 : j.natAbs.log2 < b := (Nat.log2_lt (by omega)).mpr hj
  rw [decide_eq_true h0, decide_eq_true (show j.natAbs.log2 < 9000 by omega)]
  rfl
theorem lowered_ok {r : List Int} (hl : r.length ≤ 1000) {b : Nat} (hb1 : 1 ≤ b) (hb : b ≤ 8000) (hr : ∀ x ∈ r, x.natAbs < 2 ^ b) (h : Hc) : callL m_lowered [rwI r] h = .ok (rwI (lowI r)) h := by
  have e1 := fun h => shared_ok r h
  have hp := shf_pos r
  have c1 := lcR_mm (chk := fun _ => true) (p := .n 2) (own := [2]) (m := m_lowered_c1) (ds := [some (rwI r), some (.int (shf r)), none]) (h := []) D.int (fun x => D.int (x.fdiv (shf r))) rfl r (by omega)
    (fun x hx => ⟨_, bindP_n .., by
      have dv : divOk (shf r) = true := by
        have hne : r ≠ [] := fun e => by rw [e] at hx; simp at hx
        exact divOk_b (by omega) hb (shf_big r hb1 hr hne)
      generalize rwI r = RW at *
      simp [m_lowered_c1, iF, dv]⟩)
  have e2 : (r.map fun x => D.int (x.fdiv (shf r))) = (lowI r).map D.int := by unfold lowI; rw [List.map_map]; rfl
  rw [e2] at c1
  have e8 : ∀ h, seqD h (rwI r) = some (r.map D.int) := fun h => rfl
  have e9 : chkQ (rwI r) (r.map D.int) = fun _ => true := by unfold rwI; simp
  have e3 : rwI (lowI r) = .lst ((lowI r).map D.int) := rfl
  refine call_flat (h' := []) (by simp) ?_ (by simp) h
  unfold m_lowered
  rw [runB_s, e3]
  generalize (lowI r).map D.int = LD at *
  generalize r.map D.int = RD at *
  generalize rwI r = RW at *
  simp [e1, e8, e9, c1]
theorem low_mem {r : List Int} {y : Int} (h : y ∈ lowI r) : ∃ x ∈ r, y * shf r = x := by
  unfold lowI at h
  obtain ⟨x, hx, rfl⟩ := List.mem_map.mp h
  refine ⟨x, hx, ?_⟩
  rw [Int.fdiv_eq_ediv_of_dvd (shf_dvd hx), Int.ediv_mul_cancel (shf_dvd hx)]
theorem low_bnd {r : List Int} {b : Nat} (hr : ∀ x ∈ r, x.natAbs < 2 ^ b) : ∀ y ∈ lowI r, y.natAbs < 2 ^ b := fun y hy => by
  obtain ⟨x, hx, e⟩ := low_mem hy
  have h1 := hr x hx
  have hp := shf_pos r
  rw [← e, Int.natAbs_mul] at h1
  have : y.natAbs * 1 ≤ y.natAbs * (shf r).natAbs := Nat.mul_le_mul_left _ (by omega)
  omega
theorem low_len (r : List Int) : (lowI r).length = r.length := by unfold lowI; rw [List.length_map]
theorem low_at (r : List Int) (c : Nat) : (((lowI r).getD c 0 : Int) : Rat) = (1 / ((shf r : Int) : Rat)) * ((r.getD c 0 : Int) : Rat) := by
  have hp := shf_pos r
  have hs : ((shf r : Int) : Rat) ≠ 0 := by
    intro z
    have : shf r = 0 := by exact_mod_cast z
    omega
  by_cases hc : c < r.length
  · have e : (lowI r).getD c 0 * shf r = r.getD c 0 := by
      have h1 : (lowI r).getD c 0 = (r.getD c 0).fdiv (shf r) := by
        unfold lowI
        simp [List.getD, hc]
      have hm : r.getD c 0 ∈ r := by
        simp [List.getD, hc]
      rw [h1, Int.fdiv_eq_ediv_of_dvd (shf_dvd hm), Int.ediv_mul_cancel (shf_dvd hm)]
    rw [← e, Rat.intCast_mul]
    generalize ((shf r : Int) : Rat) = s at *
    grind
  · have h1 : (lowI r).getD c 0 = 0 := by
      rw [List.getD, List.getElem?_eq_none (by rw [low_len]; omega)]; rfl
    have h2 : r.getD c 0 = 0 := by
      rw [List.getD, List.getElem?_eq_none (by omega)]; rfl
    rw [h1, h2]
    have : ((0 : Int) : Rat) = 0 := rfl
    rw [this]
    grind
/-! ### a line is cleared with another -/
def gcA (r l : List Int) (a : Nat) : Int := ((Nat.gcd (r.getD a 0).natAbs (l.getD a 0).natAbs : Nat) : Int)
def rawA (r l : List Int) (a : Nat) : List Int := (r.zip l).map fun z => (l.getD a 0).fdiv (gcA r l a) * z.1 - (r.getD a 0).fdiv (gcA r l a) * z.2
def clI (r l : List Int) (a : Nat) : List Int := lowI (rawA r l a)
theorem gcA_pos {r l : List Int} {a : Nat} (h : l.getD a 0 ≠ 0) : 1 ≤ gcA r l a := by
  unfold gcA
  have : 0 < Nat.gcd (r.getD a 0).natAbs (l.getD a 0).natAbs := Nat.gcd_pos_of_pos_right _ (by omega)
  omega
theorem gcA_dvd (r l : List Int) (a : Nat) : gcA r l a ∣ r.getD a 0 ∧ gcA r l a ∣ l.getD a 0 := ⟨Int.ofNat_dvd_left.mpr (Nat.gcd_dvd_left _ _), Int.ofNat_dvd_left.mpr (Nat.gcd_dvd_right _ _)⟩
theorem ours_le {r l : List Int} {a : Nat} {x : Int} (h : l.getD a 0 ≠ 0) (hd : gcA r l a ∣ x) {b : Nat} (hx : x.natAbs < 2 ^ b) : (x.fdiv (gcA r l a)).natAbs < 2 ^ b := by
  have hp := gcA_pos (r := r) h
  rw [Int.fdiv_eq_ediv_of_dvd hd]
  have e := Int.ediv_mul_cancel hd
  generalize x / gcA r l a = y at *
  rw [← e, Int.natAbs_mul] at hx
  have : y.natAbs * 1 ≤ y.natAbs * (gcA r l a).natAbs := Nat.mul_le_mul_left _ (by omega)
  omega
theorem mem_getD {r : List Int} {c : Nat} (hc : c < r.length) : r.getD c 0 ∈ r := by simp [List.getD, hc]
theorem raw_len {r l : List Int} {a : Nat} (h : r.length = l.length) : (rawA r l a).length = r.length := by
  unfold rawA
  rw [List.length_map, List.length_zip]
  omega
theorem raw_at {r l : List Int} {a : Nat} (h : r.length = l.length) (c : Nat) : (rawA r l a).getD c 0 = (l.getD a 0).fdiv (gcA r l a) * r.getD c 0 - (r.getD a 0).fdiv (gcA r l a) * l.getD c 0 := by
  by_cases hc : c < r.length
  · have hc2 : c < l.length := by omega
    have ez : (r.zip l)[c]? = some (r[c], l[c]) := by rw [List.getElem?_eq_getElem (by rw [List.length_zip]; omega), List.getElem_zip]
    unfold rawA
    simp [List.getD, hc, hc2, ez]
  · have h1 : (rawA r l a).getD c 0 = 0 := by
      rw [List.getD, List.getElem?_eq_none (by rw [raw_len h]; omega)]; rfl
    have h2 : r.getD c 0 = 0 := by
      rw [List.getD, List.getElem?_eq_none (by omega)]; rfl
    have h3 : l.getD c 0 = 0 := by
      rw [List.getD, List.getElem?_eq_none (by omega)]; rfl
    rw [h1, h2, h3]
    omega
theorem raw_bnd {r l : List Int} {a b : Nat} (hlen : r.length = l.length) (ha : a < r.length) (h : l.getD a 0 ≠ 0) (hr : ∀ x ∈ r, x.natAbs < 2 ^ b) (hl : ∀ x ∈ l, x.natAbs < 2 ^ b) : ∀ y ∈ rawA r l a, y.natAbs < 2 ^ (2 * b + 1) := fun y hy => by
  unfold rawA at hy
  obtain ⟨z, hz, rfl⟩ := List.mem_map.mp hy
  have z1 : z.1 ∈ r := (List.of_mem_zip hz).1
  have z2 : z.2 ∈ l := (List.of_mem_zip hz).2
  have o1 := ours_le h (gcA_dvd r l a).2 (hl _ (mem_getD (r := l) (c := a) (by omega)))
  have o2 := ours_le h (gcA_dvd r l a).1 (hr _ (mem_getD (r := r) (c := a) ha))
  generalize (l.getD a 0).fdiv (gcA r l a) = o at *
  generalize (r.getD a 0).fdiv (gcA r l a) = t at *
  have p1 : (o * z.1).natAbs < 2 ^ b * 2 ^ b := by
    rw [Int.natAbs_mul]
    exact Nat.mul_lt_mul'' o1 (hr _ z1)
  have p2 : (t * z.2).natAbs < 2 ^ b * 2 ^ b := by
    rw [Int.natAbs_mul]
    exact Nat.mul_lt_mul'' o2 (hl _ z2)
  have e : 2 ^ (2 * b + 1) = 2 * (2 ^ b * 2 ^ b) := by rw [Nat.pow_succ, Nat.two_mul, Nat.pow_add]; omega
  rw [e]
  omega
theorem mulOk_b {i j : Int} {b : Nat} (hb : b ≤ 8000) (hi : i.natAbs < 2 ^ b) (hj : j.natAbs < 2 ^ b) : mulOk i j = true := by
  have lg : ∀ {x : Int}, x.natAbs < 2 ^ b → x.natAbs.log2 < 8001 := fun {x} hx => by
    by_cases z : x.natAbs = 0
    · rw [z]; decide
    · have := (Nat.log2_lt z).mpr hx
      omega
  have h1 := lg hi
  have h2 := lg hj
  unfold mulOk
  rw [decide_eq_true (show i.natAbs.log2 + j.natAbs.log2 < 1000000 by omega), Bool.or_true]
theorem zip_D : ∀ (r l : List Int), zipD (r.map D.int) (l.map D.int) = (r.zip l).map fun z => D.tup [.int z.1, .int z.2]
  | [], l => by simp [zipD]
  | x :: r, [] => by simp [zipD]
  | x :: r, y :: l => by
    rw [List.map_cons, List.map_cons, zipD, zip_D r l]
    rfl
theorem rwI_ix {r : List Int} {c : Nat} (hc : c < r.length) (h : Hc) : ixF (rwI r) (.int (c : Int)) h = .ok (.int (r.getD c 0)) h := by
  have q := ix_sqs true (r.map D.int) (c : Int) h
  rw [atI_of (by omega) (by simp; omega)] at q
  have e2 : (r.map D.int)[(c : Int).toNat]? = some (.int (r.getD c 0)) := by simp [List.getD, hc]
  rw [e2] at q
  exact q
theorem cleared_ok {r l : List Int} {a b : Nat} (hlen : r.length = l.length) (hl1 : r.length ≤ 1000) (ha : a < r.length) (h0 : l.getD a 0 ≠ 0) (hb1 : 1 ≤ b) (hb : 2 * b + 1 ≤ 8000) (hr : ∀ x ∈ r, x.natAbs < 2 ^ b) (hl : ∀ x ∈ l, x.natAbs < 2 ^ b) (h : Hc) : callL m_cleared [rwI r, rwI l, .int (a : Int)] h = .ok (rwI (clI r l a)) h := by
  have i1 := fun h => rwI_ix (r := r) ha h
  have i2 := fun h => rwI_ix (r := l) (c := a) (by omega) h
  have m1 := hr _ (mem_getD (r := r) (c := a) ha)
  have m2 := hl _ (mem_getD (r := l) (c := a) (by omega))
  have gp := gcA_pos (r := r) h0
  have gb : (gcA r l a).natAbs < 2 ^ b := by
    have : (gcA r l a).natAbs ≤ (l.getD a 0).natAbs := by
      unfold gcA
      rw [Int.natAbs_natCast]
      exact Nat.le_of_dvd (by omega) (Nat.gcd_dvd_right _ _)
    omega
  have dv : divOk (gcA r l a) = true := divOk_b (by omega) (show b ≤ 8000 by omega) gb
  have o1 := ours_le h0 (gcA_dvd r l a).2 m2
  have o2 := ours_le h0 (gcA_dvd r l a).1 m1
  have ez : ∀ h, zpF [rwI r, rwI l] h = .ok ⟨(r.zip l).map fun z => D.tup [.int z.1, .int z.2], fun _ => true⟩ h := fun h => by
    rw [zpF_seq (h := h) (d := rwI r) (e := rwI l) (us := r.map D.int) (ws := l.map D.int) rfl rfl, zip_D]
    have : chkZ (rwI r) (r.map D.int) (rwI l) (l.map D.int) = fun _ => true := by
      unfold chkZ rwI
      simp
    rw [this]
  have c1 := lcR_mm (chk := fun _ => true) (p := .t ((.n 6) :: ((.n 7) :: []))) (own := [6, 7]) (m := m_cleared_c1) (ds := [some (rwI r), some (rwI l), some (.int (a : Int)), some (.int (gcA r l a)), some (.int ((l.getD a 0).fdiv (gcA r l a))), some (.int ((r.getD a 0).fdiv (gcA r l a))), none, none]) (h := [])
    (fun z : Int × Int => D.tup [.int z.1, .int z.2]) (fun z => D.int ((l.getD a 0).fdiv (gcA r l a) * z.1 - (r.getD a 0).fdiv (gcA r l a) * z.2)) rfl (r.zip l) (by rw [List.length_zip]; omega)
    (fun z hz => by
      have z1 : z.1 ∈ r := (List.of_mem_zip hz).1
      have z2 : z.2 ∈ l := (List.of_mem_zip hz).2
      have k1 := mulOk_b (show b ≤ 8000 by omega) o1 (hr _ z1)
      have k2 := mulOk_b (show b ≤ 8000 by omega) o2 (hl _ z2)
      generalize (l.getD a 0).fdiv (gcA r l a) = o at *
      generalize (r.getD a 0).fdiv (gcA r l a) = t at *
      generalize gcA r l a = g at *
      generalize rwI r = R1 at *
      generalize rwI l = R2 at *
      exact ⟨[some R1, some R2, some (.int (a : Int)), some (.int g), some (.int o), some (.int t), some (.int z.1), some (.int z.2)], by simp [wipeD], by simp [m_cleared_c1, k1, k2]⟩)
  have e2 : ((r.zip l).map fun z => D.int ((l.getD a 0).fdiv (gcA r l a) * z.1 - (r.getD a 0).fdiv (gcA r l a) * z.2)) = (rawA r l a).map D.int := by unfold rawA; rw [List.map_map]; rfl
  rw [e2] at c1
  have lo := fun h => lowered_ok (r := rawA r l a) (by rw [raw_len hlen]; omega) (b := 2 * b + 1) (by omega) hb (raw_bnd hlen ha h0 hr hl) h
  have e3 : rwI (rawA r l a) = .lst ((rawA r l a).map D.int) := rfl
  rw [e3] at lo
  refine call_flat (h' := []) (by simp) ?_ (by simp) h
  unfold m_cleared
  rw [runB_s]
  have eg : ((Nat.gcd (r.getD a 0).natAbs (l.getD a 0).natAbs : Nat) : Int) = gcA r l a := rfl
  have ecl : clI r l a = lowI (rawA r l a) := rfl
  rw [ecl]
  generalize rwI (lowI (rawA r l a)) = RES at *
  generalize (rawA r l a).map D.int = RA at *
  generalize ((r.zip l).map fun z => D.tup [.int z.1, .int z.2]) = ZL at *
  generalize hG : gcA r l a = g at *
  generalize rwI r = R1 at *
  generalize rwI l = R2 at *
  generalize r.getD a 0 = ra at *
  generalize l.getD a 0 = la at *
  simp [i1, i2, eg, iF, dv, ez, c1, lo]
theorem cl_at {r l : List Int} {a : Nat} (h : r.length = l.length) (c : Nat) : (((clI r l a).getD c 0 : Int) : Rat) = (1 / ((shf (rawA r l a) : Int) : Rat) * (((l.getD a 0).fdiv (gcA r l a) : Int) : Rat)) * ((r.getD c 0 : Int) : Rat) + (-(1 / ((shf (rawA r l a) : Int) : Rat)) * (((r.getD a 0).fdiv (gcA r l a) : Int) : Rat)) * ((l.getD c 0 : Int) : Rat) := by
  unfold clI
  rw [low_at, raw_at h, Rat.intCast_sub, Rat.intCast_mul, Rat.intCast_mul]
  grind
theorem cl_zero {r l : List Int} {a : Nat} (h : r.length = l.length) (ha : a < r.length) : (clI r l a).getD a 0 = 0 := by
  have e : (rawA r l a).getD a 0 = 0 := by
    rw [raw_at h]
    obtain ⟨d1, d2⟩ := gcA_dvd r l a
    rw [Int.fdiv_eq_ediv_of_dvd d1, Int.fdiv_eq_ediv_of_dvd d2]
    obtain ⟨u, hu⟩ := d1
    obtain ⟨v, hv⟩ := d2
    by_cases g0 : gcA r l a = 0
    · rw [g0] at hu hv
      rw [hu, hv]; simp
    · have e1 : r.getD a 0 / gcA r l a = u := by rw [hu]; exact Int.mul_ediv_cancel_left _ g0
      have e2 : l.getD a 0 / gcA r l a = v := by rw [hv]; exact Int.mul_ediv_cancel_left _ g0
      rw [e1, e2, hu, hv]
      have : v * (gcA r l a * u) = u * (gcA r l a * v) := by
        rw [Int.mul_left_comm, Int.mul_left_comm u, Int.mul_comm v u]
      omega
  unfold clI lowI
  have hl : a < (rawA r l a).length := by rw [raw_len h]; exact ha
  have e2 : (rawA r l a)[a]? = some 0 := by
    rw [List.getElem?_eq_getElem hl]
    congr 1
    simp [List.getD, hl] at e
    exact e
  simp [List.getD, e2]
theorem cl_len {r l : List Int} {a : Nat} (h : r.length = l.length) : (clI r l a).length = r.length := by
  unfold clI
  rw [low_len, raw_len h]
end Mp
/-! SolC: the program solves. -/
namespace Mp
open PySem PySem.Spec PyProof.Rows L2
abbrev Wk := Nat → List Int
def lstN (n : Nat) (W : Wk) : List D := (List.range n).map fun i => rwI (W i)
def updW (W : Wk) (i : Nat) (v : List Int) : Wk := fun j => if j = i then v else W j
theorem lstN_len (n : Nat) (W : Wk) : (lstN n W).length = n := by unfold lstN; simp
theorem flat_lstN (n : Nat) (W : Wk) : flatL (lstN n W) = true := flatL_map _ (fun i => flat_rwI _) _
theorem lstN_at {n : Nat} {W : Wk} {i : Nat} (hi : i < n) : atI (lstN n W) (i : Int) = some (rwI (W i)) := by
  rw [atI_of (by omega) (by rw [lstN_len]; omega)]
  unfold lstN
  simp [hi]
theorem lstN_get (n : Nat) (W : Wk) (j : Nat) : (lstN n W)[j]? = if j < n then some (rwI (W j)) else none := by
  unfold lstN
  by_cases h : j < n
  · simp [h]
  · simp [h]
theorem lstN_set {n : Nat} {W : Wk} {i : Nat} (hi : i < n) (v : List Int) : (lstN n W).set i (rwI v) = lstN n (updW W i v) := by
  apply List.ext_getElem?
  intro j
  rw [List.getElem?_set, lstN_get, lstN_get, lstN_len]
  by_cases e : i = j
  · subst e
    rw [if_pos rfl, if_pos hi, if_pos hi]
    have : updW W i v i = v := if_pos rfl
    rw [this]
  · rw [if_neg e]
    have : updW W i v j = W j := if_neg (fun z => e z.symm)
    rw [this]
theorem upFrom_x (lo : Int) (n : Nat) : upFrom lo (n + 1) = D.int lo :: upFrom (lo + 1) n := by
  unfold upFrom
  rw [List.range_succ_eq_map, List.map_cons, List.map_map]
  congr 1
  · simp
  · refine List.map_congr_left fun i _ => ?_
    simp only [Function.comp]
    congr 1
    push_cast
    omega
def mxW (W : Wk) : Mx := fun i c => (((W i).getD c 0 : Int) : Rat)
/-- n lines of n + 1 numbers below 2^b -/
structure WOkk (n b : Nat) (W : Wk) : Prop where
  len : ∀ i, i < n → (W i).length = n + 1
  bnd : ∀ i, i < n → ∀ x ∈ W i, x.natAbs < 2 ^ b
theorem place_raw {n : Nat} {W : Wk} (hl : ∀ i, i < n → (W i).length = n + 1) {k : Nat} : ∀ (t p fuel : Nat), p + t < n → k < n → (∀ i, p ≤ i → i < p + t → (W i).getD k 0 = 0) → (W (p + t)).getD k 0 ≠ 0 → t < fuel →
    wl (bEx (eOp eqF (eOp ixF (eOp ixF (eVar 0) (eVar 2)) (eVar 1)) (eC (.int 0)))) m_lead_place_l1 fuel [some (.ref 0), some (.int (k : Int)), some (.int (p : Int))] [.lst (lstN n W)] = .nx [some (.ref 0), some (.int (k : Int)), some (.int ((p + t : Nat) : Int))] [.lst (lstN n W)]
  | 0, p, fuel, hp, hk, hz, hne, hf => by
    obtain ⟨m, rfl⟩ : ∃ m, fuel = m + 1 := ⟨fuel - 1, by omega⟩
    have ix := ixF_ref (n := 0) (i := (p : Int)) (xs := lstN n W) (h := [.lst (lstN n W)]) rfl
    rw [lstN_at (by omega)] at ix
    have i2 := fun h => rwI_ix (r := W p) (c := k) (by rw [hl p (by omega)]; omega) h
    have hne' : ¬ (W p).getD k 0 = 0 := hne
    refine wl_stop (h1 := [.lst (lstN n W)]) ?_
    generalize (W p).getD k 0 = v at *
    generalize rwI (W p) = RW at *
    generalize lstN n W = LW at *
    simp [ix, i2, hne']
  | t + 1, p, fuel, hp, hk, hz, hne, hf => by
    obtain ⟨m, rfl⟩ : ∃ m, fuel = m + 1 := ⟨fuel - 1, by omega⟩
    have ih := place_raw hl (k := k) t (p + 1) m (by omega) hk (fun i h1 h2 => hz i (by omega) (by omega)) (by rw [show p + 1 + t = p + (t + 1) by omega]; exact hne) (by omega)
    have ix := ixF_ref (n := 0) (i := (p : Int)) (xs := lstN n W) (h := [.lst (lstN n W)]) rfl
    rw [lstN_at (by omega)] at ix
    have i2 := fun h => rwI_ix (r := W p) (c := k) (by rw [hl p (by omega)]; omega) h
    have hz0 := hz p (Nat.le_refl _) (by omega)
    rw [hz0] at i2
    rw [show p + 1 + t = p + (t + 1) by omega] at ih
    have ep : ((p + 1 : Nat) : Int) = (p : Int) + 1 := by push_cast; rfl
    rw [ep] at ih
    refine (wl_nx (h1 := [.lst (lstN n W)]) ?_ ?_).trans ih
    · generalize rwI (W p) = RW at *
      generalize lstN n W = LW at *
      simp [ix, i2]
    · generalize lstN n W = LW at *
      simp [m_lead_place_l1]
theorem place_ok {n : Nat} (hn : n ≤ 1000) {W : Wk} (hl : ∀ i, i < n → (W i).length = n + 1) {k : Nat} (hk : k < n) (ex : ∃ p, k ≤ p ∧ p < n ∧ (W p).getD k 0 ≠ 0) {q : Nat} {h : Hc} (hq : h[q]? = some (.lst (lstN n W))) :
    ∃ p, k ≤ p ∧ p < n ∧ (W p).getD k 0 ≠ 0 ∧ callL m_lead_place [.ref q, .int (k : Int)] h = .ok (.int (p : Int)) h := by
  obtain ⟨t, h1, h2, h3⟩ : ∃ t, k + t < n ∧ (W (k + t)).getD k 0 ≠ 0 ∧ ∀ i, k ≤ i → i < k + t → (W i).getD k 0 = 0 := by
    have go : ∀ d, (k + d < n ∧ (W (k + d)).getD k 0 ≠ 0) → ∃ t, k + t < n ∧ (W (k + t)).getD k 0 ≠ 0 ∧ ∀ i, k ≤ i → i < k + t → (W i).getD k 0 = 0 := by
      intro d
      induction d using Nat.strongRecOn with
      | ind d ih =>
        rintro ⟨a1, a2⟩
        by_cases z : ∃ i, k ≤ i ∧ i < k + d ∧ (W i).getD k 0 ≠ 0
        · obtain ⟨i, b1, b2, b3⟩ := z
          refine ih (i - k) (by omega) ?_
          rw [show k + (i - k) = i by omega]
          exact ⟨by omega, b3⟩
        · refine ⟨d, a1, a2, fun i b1 b2 => ?_⟩
          by_cases z2 : (W i).getD k 0 = 0
          · exact z2
          · exact absurd ⟨i, b1, b2, z2⟩ z
    obtain ⟨p, a1, a2, a3⟩ := ex
    exact go (p - k) (by rw [show k + (p - k) = p by omega]; exact ⟨a2, a3⟩)
  refine ⟨k + t, by omega, h1, h2, ?_⟩
  have e1 := place_raw hl (k := k) t k 100000 h1 hk h3 h2 (by omega)
  have raw : m_lead_place [.ref 0, .int (k : Int)] [.lst (lstN n W)] = .ok (.int ((k + t : Nat) : Int)) [.lst (lstN n W)] := by
    unfold m_lead_place
    rw [runB_s]
    generalize lstN n W = LW at *
    simp [e1]
  have c := call_ref1 (m := m_lead_place) (as := [.ref q, .int (k : Int)]) (as' := [.ref 0, .int (k : Int)]) (i := q) (c := .lst (lstN n W)) (c' := .lst (lstN n W)) (h := h) (h' := [.lst (lstN n W)]) (d0 := .int ((k + t : Nat) : Int)) (d := .int ((k + t : Nat) : Int)) (by simp [refsOf]) (by simp [renL, renD]) hq (flat_lstN n W) raw rfl (flat_lstN n W) (frzD_flat rfl)
  rw [c]
  congr 1
  apply List.ext_getElem?
  intro i
  rw [List.getElem?_set]
  split
  · rename_i e
    subst e
    split
    · exact hq.symm
    · rename_i hn
      rw [List.getElem?_eq_none (by omega)] at hq
      cases hq
  · rfl
/-- one column is cleared -/
def fW (W : Wk) (k i : Nat) : List Int := if i ≠ k ∧ (W i).getD k 0 ≠ 0 then clI (W i) (W k) k else W i
def parW (W : Wk) (k c : Nat) : Wk := fun i => if i < c then fW W k i else W i
def swW (W : Wk) (k p : Nat) : Wk := fun i => W (swp k p i)
theorem clear_loop {n b : Nat} {W : Wk} (O : WOkk n b W) {k : Nat} (hk : k < n) (hn : n ≤ 900) (hb1 : 1 ≤ b) (hb : 2 * b + 1 ≤ 8000) (hpv : (W k).getD k 0 ≠ 0) {H : Hc} (x0 x4 x6 : Option D) : ∀ (t i : Nat) (x5 : Option D), i + t = n → ∃ y5,
    fl (fun _ => true) (.n 5) m_solved_l1 (upFrom (i : Int) t) [x0, some (.ref H.length), some (.int (n : Int)), some (.int (k : Int)), x4, x5, x6] (H ++ [.lst (lstN n (parW W k i))]) =
      .nx [x0, some (.ref H.length), some (.int (n : Int)), some (.int (k : Int)), x4, y5, x6] (H ++ [.lst (lstN n (parW W k n))])
  | 0, i, x5, hi => by
    have : i = n := by omega
    subst this
    exact ⟨x5, fl_end rfl⟩
  | t + 1, i, x5, hi => by
    have hi' : i < n := by omega
    obtain ⟨y5, ih⟩ := clear_loop O hk hn hb1 hb hpv (H := H) x0 x4 x6 t (i + 1) (some (.int (i : Int))) (by omega)
    refine ⟨y5, ?_⟩
    have ei : ((i + 1 : Nat) : Int) = (i : Int) + 1 := by push_cast; rfl
    rw [ei] at ih
    rw [upFrom_x]
    refine Eq.trans (fl_n (b := m_solved_l1) ?_) ih
    have gq : (H ++ [C.lst (lstN n (parW W k i))])[H.length]? = some (.lst (lstN n (parW W k i))) := by simp
    have ixi := ixF_ref (n := H.length) (i := (i : Int)) (xs := lstN n (parW W k i)) (h := H ++ [C.lst (lstN n (parW W k i))]) gq
    rw [lstN_at hi'] at ixi
    have ixk := ixF_ref (n := H.length) (i := (k : Int)) (xs := lstN n (parW W k i)) (h := H ++ [C.lst (lstN n (parW W k i))]) gq
    rw [lstN_at hk] at ixk
    have ewi : parW W k i i = W i := by unfold parW; rw [if_neg (by omega)]
    have ewk : parW W k i k = W k := by
      unfold parW fW
      split
      · rw [if_neg (fun z => z.1 rfl)]
      · rfl
    rw [ewi] at ixi
    rw [ewk] at ixk
    have j1 := fun h => rwI_ix (r := W i) (c := k) (by rw [O.len i hi']; omega) h
    have ew : parW W k (i + 1) = updW (parW W k i) i (fW W k i) := by
      funext j
      unfold parW updW
      by_cases e : j = i
      · subst e
        rw [if_pos (by omega), if_pos rfl]
      · rw [if_neg e]
        show (if j < i + 1 then fW W k j else W j) = if j < i then fW W k j else W j
        by_cases c : j < i
        · rw [if_pos c, if_pos (by omega)]
        · rw [if_neg c, if_neg (by omega)]
    have eself : lstN n (updW (parW W k i) i (W i)) = lstN n (parW W k i) := by
      congr 1
      funext j
      unfold updW
      split
      · rename_i e; subst e; exact ewi.symm
      · rfl
    have hne : ((i : Int) = (k : Int)) ↔ i = k := by omega
    by_cases q : i ≠ k ∧ (W i).getD k 0 ≠ 0
    · obtain ⟨q1, q2⟩ := q
      have efw : fW W k i = clI (W i) (W k) k := by unfold fW; rw [if_pos ⟨q1, q2⟩]
      have cl := fun h => cleared_ok (r := W i) (l := W k) (a := k) (b := b) (by rw [O.len i hi', O.len k hk]) (by rw [O.len i hi']; omega) (by rw [O.len i hi']; omega) hpv hb1 hb (O.bnd i hi') (O.bnd k hk) h
      have st := setF_ok (n := H.length) (xs := lstN n (parW W k i)) (h := H ++ [C.lst (lstN n (parW W k i))]) (i := (i : Int)) (x := rwI (clI (W i) (W k) k)) gq (by omega) (by rw [lstN_len]; omega)
      rw [Int.toNat_natCast, lstN_set hi', List.set_append_right _ _ (Nat.le_refl _), Nat.sub_self] at st
      have st2 : setF (.ref H.length) (.int (i : Int)) (rwI (clI (W i) (W k) k)) (H ++ [C.lst (lstN n (parW W k i))]) = some (H ++ [C.lst (lstN n (updW (parW W k i) i (clI (W i) (W k) k)))]) := st
      rw [ew, efw]
      have q1' : ¬ ((i : Int) = (k : Int)) := by omega
      generalize (W i).getD k 0 = v at *
      generalize rwI (clI (W i) (W k) k) = CL at *
      generalize rwI (W i) = RI at *
      generalize rwI (W k) = RK at *
      generalize H ++ [C.lst (lstN n (updW (parW W k i) i (clI (W i) (W k) k)))] = H2 at *
      generalize H ++ [C.lst (lstN n (parW W k i))] = H1 at *
      simp [m_solved_l1, q1', q1, ixi, j1, q2, ixk, cl, st2]
    · have efw : fW W k i = W i := by unfold fW; rw [if_neg q]
      rw [ew, efw, eself]
      generalize (W i).getD k 0 = v at *
      generalize rwI (W i) = RI at *
      generalize rwI (W k) = RK at *
      generalize H ++ [C.lst (lstN n (parW W k i))] = H1 at *
      by_cases e : i = k
      · subst e
        simp [m_solved_l1]
      · have e' : ¬ ((i : Int) = (k : Int)) := by omega
        have v0 : v = 0 := by
          by_cases z : v = 0
          · exact z
          · exact absurd ⟨e, z⟩ q
        simp [m_solved_l1, e', e, ixi, j1, v0]
theorem par_stp {n b : Nat} {W : Wk} (O : WOkk n b W) {k p : Nat} (hk : k < n) (hkp : k ≤ p) (hp : p < n) (hpv : (W p).getD k 0 ≠ 0) : Stp n k p (mxW W) (mxW (parW (swW W k p) k n)) := by
  have sk : swp k p k = p := by unfold swp; rw [if_pos rfl]
  have rk : parW (swW W k p) k n k = W p := by
    unfold parW fW swW
    rw [if_pos hk, if_neg (fun z => z.1 rfl), sk]
  have hpv' : ((W p).getD k 0 : Rat) ≠ 0 := by exact_mod_cast hpv
  refine ⟨hk, hkp, hp, hpv', ⟨1, by decide, fun c hc => ?_⟩, fun i hi hne => ?_⟩
  · unfold mxW
    rw [rk]
    grind
  · have hs := swp_lt hk hp hi
    have ri : parW (swW W k p) k n i = if (W (swp k p i)).getD k 0 ≠ 0 then clI (W (swp k p i)) (W p) k else W (swp k p i) := by
      unfold parW fW swW
      rw [if_pos hi, sk]
      by_cases z : (W (swp k p i)).getD k 0 ≠ 0
      · rw [if_pos ⟨hne, z⟩, if_pos z]
      · rw [if_neg (fun y => z y.2), if_neg z]
    have hlen : (W (swp k p i)).length = (W p).length := by rw [O.len _ hs, O.len p hp]
    unfold mxW
    rw [ri]
    by_cases z : (W (swp k p i)).getD k 0 ≠ 0
    · rw [if_pos z]
      refine ⟨by rw [cl_zero hlen (by rw [O.len _ hs]; omega)]; rfl, _, _, ?_, fun c hc => cl_at hlen c⟩
      have s1 := shf_pos (rawA (W (swp k p i)) (W p) k)
      have g1 := gcA_pos (r := W (swp k p i)) hpv
      obtain ⟨_, d2⟩ := gcA_dvd (W (swp k p i)) (W p) k
      intro zz
      rcases Rat.mul_eq_zero.mp zz with y | y
      · have hs0 : ((shf (rawA (W (swp k p i)) (W p) k) : Int) : Rat) ≠ 0 := by
          intro w
          have : shf (rawA (W (swp k p i)) (W p) k) = 0 := by exact_mod_cast w
          omega
        generalize ((shf (rawA (W (swp k p i)) (W p) k) : Int) : Rat) = s at *
        grind
      · have y' : ((W p).getD k 0).fdiv (gcA (W (swp k p i)) (W p) k) = 0 := by exact_mod_cast y
        rw [Int.fdiv_eq_ediv_of_dvd d2] at y'
        have := Int.ediv_mul_cancel d2
        rw [y', Int.zero_mul] at this
        exact hpv this.symm
    · rw [if_neg z]
      have z' : (W (swp k p i)).getD k 0 = 0 := by
        by_cases y : (W (swp k p i)).getD k 0 = 0
        · exact y
        · exact absurd y z
      refine ⟨by rw [z']; rfl, 1, 0, by decide, fun c hc => by grind⟩
theorem par_ok {n b : Nat} {W : Wk} (O : WOkk n b W) {k p : Nat} (hk : k < n) (hp : p < n) (hpv : (W p).getD k 0 ≠ 0) : WOkk n (2 * b + 1) (parW (swW W k p) k n) := by
  have sk : swp k p k = p := by unfold swp; rw [if_pos rfl]
  have up : 2 ^ b ≤ 2 ^ (2 * b + 1) := Nat.pow_le_pow_right (by decide) (by omega)
  refine ⟨fun i hi => ?_, fun i hi x hx => ?_⟩
  · have hs := swp_lt hk hp hi
    unfold parW fW swW
    rw [if_pos hi, sk]
    split
    · rw [cl_len (by rw [O.len _ hs, O.len p hp]), O.len _ hs]
    · exact O.len _ hs
  · have hs := swp_lt hk hp hi
    unfold parW fW swW at hx
    rw [if_pos hi, sk] at hx
    split at hx
    · refine low_bnd (raw_bnd (by rw [O.len _ hs, O.len p hp]) (by rw [O.len _ hs]; omega) hpv (O.bnd _ hs) (O.bnd p hp)) x hx
    · have := O.bnd _ hs x hx
      omega
theorem solve_loop {n : Nat} (hn : n ≤ 900) {m0 : Mx} (N : NSing n m0) {H : Hc} (x0 x6 : Option D) : ∀ (t k b : Nat) (W : Wk) (x3 x4 x5 : Option D), k + t = n → WOkk n b W → 1 ≤ b → (b + 1) * 2 ^ t ≤ 8000 → Clr n k m0 (mxW W) → ∃ (W' : Wk) (y3 y4 y5 : Option D),
    fl (fun _ => true) (.n 3) m_solved_l2 (upFrom (k : Int) t) [x0, some (.ref H.length), some (.int (n : Int)), x3, x4, x5, x6] (H ++ [.lst (lstN n W)]) =
      .nx [x0, some (.ref H.length), some (.int (n : Int)), y3, y4, y5, x6] (H ++ [.lst (lstN n W')]) ∧ (∃ B, B + 1 ≤ (b + 1) * 2 ^ t ∧ WOkk n B W') ∧ Clr n n m0 (mxW W')
  | 0, k, b, W, x3, x4, x5, hk, O, hb1, hb, I => by
    have : k = n := by omega
    subst this
    exact ⟨W, x3, x4, x5, fl_end rfl, ⟨b, by simp, O⟩, I⟩
  | t + 1, k, b, W, x3, x4, x5, hk, O, hb1, hb, I => by
    have hk' : k < n := by omega
    have e22 : (b + 1) * 2 ^ (t + 1) = (2 * b + 1 + 1) * 2 ^ t := by
      rw [Nat.pow_succ, ← Nat.mul_assoc, Nat.mul_right_comm]
      congr 1
      omega
    have hb2 : 2 * b + 1 + 1 ≤ 8000 ∧ (2 * b + 1 + 1) * 2 ^ t ≤ 8000 := by
      have e : (b + 1) * 2 ^ (t + 1) = (2 * b + 1 + 1) * 2 ^ t := by
        rw [Nat.pow_succ, ← Nat.mul_assoc, Nat.mul_right_comm]
        congr 1
        omega
      rw [e] at hb
      have := Nat.le_mul_of_pos_right (2 * b + 1 + 1) (Nat.two_pow_pos t)
      omega
    obtain ⟨p0, q1, q2, q3⟩ := I.pivot hk' N
    have q3' : (W p0).getD k 0 ≠ 0 := by
      intro z
      apply q3
      unfold mxW
      rw [z]; rfl
    have gq : (H ++ [C.lst (lstN n W)])[H.length]? = some (.lst (lstN n W)) := by simp
    obtain ⟨p, p1, p2, p3, e1⟩ := place_ok (show n ≤ 1000 by omega) O.len hk' ⟨p0, q1, q2, q3'⟩ gq
    have ixp := ixF_ref (n := H.length) (i := (p : Int)) (xs := lstN n W) (h := H ++ [C.lst (lstN n W)]) gq
    rw [lstN_at p2] at ixp
    have ixk := ixF_ref (n := H.length) (i := (k : Int)) (xs := lstN n W) (h := H ++ [C.lst (lstN n W)]) gq
    rw [lstN_at hk'] at ixk
    have st1 := setF_ok (n := H.length) (xs := lstN n W) (h := H ++ [C.lst (lstN n W)]) (i := (k : Int)) (x := rwI (W p)) gq (by omega) (by rw [lstN_len]; omega)
    rw [Int.toNat_natCast, lstN_set hk', List.set_append_right _ _ (Nat.le_refl _), Nat.sub_self] at st1
    have st1' : setF (.ref H.length) (.int (k : Int)) (rwI (W p)) (H ++ [C.lst (lstN n W)]) = some (H ++ [C.lst (lstN n (updW W k (W p)))]) := st1
    have gq2 : (H ++ [C.lst (lstN n (updW W k (W p)))])[H.length]? = some (.lst (lstN n (updW W k (W p)))) := by simp
    have st2 := setF_ok (n := H.length) (xs := lstN n (updW W k (W p))) (h := H ++ [C.lst (lstN n (updW W k (W p)))]) (i := (p : Int)) (x := rwI (W k)) gq2 (by omega) (by rw [lstN_len]; omega)
    rw [Int.toNat_natCast, lstN_set p2, List.set_append_right _ _ (Nat.le_refl _), Nat.sub_self] at st2
    have esw : updW (updW W k (W p)) p (W k) = swW W k p := by
      funext i
      unfold updW swW swp
      by_cases a : i = p
      · subst a
        rw [if_pos rfl]
        by_cases c : i = k
        · rw [if_pos c, c]
        · rw [if_neg c, if_pos rfl]
      · rw [if_neg a]
        show (if i = k then W p else W i) = _
        by_cases c : i = k
        · rw [if_pos c, if_pos c]
        · rw [if_neg c, if_neg c, if_neg a]
    rw [esw] at st2
    have st2' : setF (.ref H.length) (.int (p : Int)) (rwI (W k)) (H ++ [C.lst (lstN n (updW W k (W p)))]) = some (H ++ [C.lst (lstN n (swW W k p))]) := st2
    have sk : swp k p k = p := by unfold swp; rw [if_pos rfl]
    have Osw : WOkk n b (swW W k p) := ⟨fun i hi => O.len _ (swp_lt hk' p2 hi), fun i hi => O.bnd _ (swp_lt hk' p2 hi)⟩
    have hpv : (swW W k p k).getD k 0 ≠ 0 := by unfold swW; rw [sk]; exact p3
    obtain ⟨y5, e2⟩ := clear_loop Osw hk' hn hb1 (by omega) hpv (H := H) x0 (some (.int (p : Int))) x6 n 0 x5 (by omega)
    have ep0 : parW (swW W k p) k 0 = swW W k p := by
      funext i
      unfold parW
      rw [if_neg (by omega)]
    rw [ep0] at e2
    obtain ⟨W', y3, y4, z5, ih, r1, r2⟩ := solve_loop hn N (H := H) x0 x6 t (k + 1) (2 * b + 1) (parW (swW W k p) k n) (some (.int (k : Int))) (some (.int (p : Int))) y5 (by omega) (par_ok O hk' p2 p3) (by omega) hb2.2 (I.step (par_stp O hk' p1 p2 p3))
    refine ⟨W', y3, y4, z5, ?_, by rw [e22]; exact r1, r2⟩
    have ei : ((k + 1 : Nat) : Int) = (k : Int) + 1 := by push_cast; rfl
    rw [ei] at ih
    rw [upFrom_x]
    refine Eq.trans (fl_n (b := m_solved_l2) ?_) ih
    have er : ∀ h, rg1F [.int (n : Int)] h = .ok ⟨upFrom 0 n, fun _ => true⟩ h := fun h => by
      rw [rg1F_int, if_pos (rgOk_nat (by omega)), Int.toNat_natCast]
    have e0 : upFrom ((0 : Nat) : Int) n = upFrom 0 n := rfl
    rw [e0] at e2
    generalize H ++ [C.lst (lstN n (parW (swW W k p) k n))] = H4 at *
    generalize H ++ [C.lst (lstN n (swW W k p))] = H3 at *
    generalize H ++ [C.lst (lstN n (updW W k (W p)))] = H2 at *
    generalize H ++ [C.lst (lstN n W)] = H1 at *
    generalize rwI (W p) = RP at *
    generalize rwI (W k) = RK at *
    generalize upFrom 0 n = UF at *
    simp [m_solved_l2, sSw, e1, ixp, ixk, st1', st2', er, e2]
/-- the lines stand in a list or a cell -/
theorem solved_raw {n : Nat} (h1 : 1 ≤ n) (hn : n ≤ 12) {b : Nat} {W : Wk} (O : WOkk n b W) (hb1 : 1 ≤ b) (hb : (b + 1) * 2 ^ n ≤ 8000) (N : NSing n (mxW W)) {U : D} {h : Hc} (hs : seqD h U = some (lstN n W)) :
    ∃ (x : Nat → Rat) (h' : Hc), satM n 1 (mxW W) x ∧ m_solved [U] h = .ok (.tup ((List.range n).map fun i => qD (x i))) h' ∧ (∃ B, B + 1 ≤ (b + 1) * 2 ^ n ∧ ∀ i, i < n → qs B (x i)) ∧ ∃ c, h' = h ++ [c] := by
  let W0 : Wk := fun i => lowI (W i)
  have O0 : WOkk n b W0 := ⟨fun i hi => by show (lowI (W i)).length = _; rw [low_len, O.len i hi], fun i hi => low_bnd (O.bnd i hi)⟩
  have hb8 : b ≤ 8000 := by
    have := Nat.le_mul_of_pos_right (b + 1) (Nat.two_pow_pos n)
    omega
  have row_sat : ∀ t x i, satL n t (mxW W0 i) x ↔ satL n t (mxW W i) x := fun t x i => by
    have hp := shf_pos (W i)
    refine sat_scale (a := 1 / ((shf (W i) : Int) : Rat)) ?_ fun c _ => low_at (W i) c
    intro z
    have hs0 : ((shf (W i) : Int) : Rat) ≠ 0 := by
      intro w
      have : shf (W i) = 0 := by exact_mod_cast w
      omega
    generalize ((shf (W i) : Int) : Rat) = s at *
    grind
  have I : Clr n 0 (mxW W) (mxW W0) := ⟨fun t x => ⟨fun q i hi => (row_sat t x i).mp (q i hi), fun q i hi => (row_sat t x i).mpr (q i hi)⟩, fun c i hc => by omega, fun c hc => by omega⟩
  have hck : chkQ U (lstN n W) h = true := chkQ_of hs
  have c1 := lcR_mm (chk := chkQ U (lstN n W)) (p := .n 6) (own := [6]) (m := m_solved_c1) (ds := [some U, none, none, none, none, none, none]) (h := h) (fun i => rwI (W i)) (fun i => rwI (lowI (W i))) hck (List.range n) (by rw [List.length_range]; omega)
    (fun i hi => ⟨_, bindP_n .., by
      have hi' := List.mem_range.mp hi
      have e := fun h => lowered_ok (r := W i) (by rw [O.len i hi']; omega) hb1 hb8 (O.bnd i hi') h
      generalize rwI (lowI (W i)) = RL at *
      generalize rwI (W i) = RW at *
      simp [m_solved_c1, e]⟩)
  have c1' : lcR (chkQ U (lstN n W)) (.n 6) [6] (fun _ h => .ok true h) m_solved_c1 [some U, none, none, none, none, none, none] (lstN n W) [] h = .ok (lstN n W0) h := c1
  obtain ⟨W', y3, y4, y5, e2, ⟨B, hB, O'⟩, I'⟩ := solve_loop (by omega) N (H := h) (some U) none n 0 b W0 none none none (by omega) O0 hb1 hb I
  have gq : (h ++ [C.lst (lstN n W0)])[h.length]? = some (.lst (lstN n W0)) := by simp
  have hlen := lenF_ref (n := h.length) (h := h ++ [C.lst (lstN n W0)]) (xs := lstN n W0) gq
  rw [lstN_len] at hlen
  have gq2 : (h ++ [C.lst (lstN n W')])[h.length]? = some (.lst (lstN n W')) := by simp
  have c2 := lcR_mm (chk := fun _ => true) (p := .n 5) (own := [5]) (m := m_solved_c2) (ds := [some U, some (.ref h.length), some (.int (n : Int)), y3, y4, y5, none]) (h := h ++ [.lst (lstN n W')]) (fun (i : Nat) => D.int (i : Int)) (fun i => qD (mxW W' i n / mxW W' i i)) rfl (List.range n) (by rw [List.length_range]; omega)
    (fun i hi => ⟨_, bindP_n .., by
      have hi' := List.mem_range.mp hi
      have ix := ixF_ref (n := h.length) (i := (i : Int)) (xs := lstN n W') (h := h ++ [C.lst (lstN n W')]) gq2
      rw [lstN_at hi'] at ix
      have i1 := fun h => rwI_ix (r := W' i) (c := n) (by rw [O'.len i hi']; omega) h
      have i2 := fun h => rwI_ix (r := W' i) (c := i) (by rw [O'.len i hi']; omega) h
      have d0 := I'.dia i hi'
      have d0' : (W' i).getD i 0 ≠ 0 := by
        intro z
        apply d0
        unfold mxW
        rw [z]; rfl
      have hm := O'.bnd i hi' _ (mem_getD (r := W' i) (c := i) (by rw [O'.len i hi']; omega))
      have hm2 : ((W' i).getD i 0).natAbs < 2 ^ 8000 := Nat.lt_of_lt_of_le hm (Nat.pow_le_pow_right (by decide) (show B ≤ 8000 by omega))
      have e := fun h => reduced_ok (n := (W' i).getD n 0) d0' hm2 h
      rw [rdc_q _ d0'] at e
      unfold mxW
      generalize qD ((((W' i).getD n 0 : Int) : Rat) / (((W' i).getD i 0 : Int) : Rat)) = QR at *
      generalize rwI (W' i) = RW at *
      generalize (W' i).getD n 0 = vn at *
      generalize (W' i).getD i 0 = vi at *
      generalize h ++ [C.lst (lstN n W')] = H1 at *
      simp [m_solved_c2, ix, i1, i2, e]⟩)
  refine ⟨fun i => mxW W' i n / mxW W' i i, h ++ [.lst (lstN n W')], I'.done, ?_, ⟨B, hB, fun i hi => ?_⟩, _, rfl⟩
  rotate_left
  · have d0 := I'.dia i hi
    have d0' : (W' i).getD i 0 ≠ 0 := by
      intro z
      apply d0
      unfold mxW
      rw [z]; rfl
    exact qs_div d0' (O'.bnd i hi _ (mem_getD (r := W' i) (c := n) (by rw [O'.len i hi]; omega))) (O'.bnd i hi _ (mem_getD (r := W' i) (c := i) (by rw [O'.len i hi]; omega)))
  have er : ∀ h, rg1F [.int (n : Int)] h = .ok ⟨upFrom 0 n, fun _ => true⟩ h := fun h => by
    rw [rg1F_int, if_pos (rgOk_nat (by omega)), Int.toNat_natCast]
  have e0 : upFrom ((0 : Nat) : Int) n = upFrom 0 n := rfl
  rw [e0] at e2
  have eu : (List.range n).map (fun (i : Nat) => D.int (i : Int)) = upFrom 0 n := by
    unfold upFrom
    simp
  rw [eu] at c2
  unfold m_solved
  rw [runB_s]
  generalize ((List.range n).map fun i => qD (mxW W' i n / mxW W' i i)) = QL at *
  generalize h ++ [C.lst (lstN n W')] = H2 at *
  generalize hW0 : lstN n W0 = LW at *
  generalize lstN n W = LV at *
  generalize upFrom 0 n = UF at *
  simp [hs, c1', hlen, er, e2, c2, tupleF]
theorem flat_qs (n : Nat) (x : Nat → Rat) : flat (.tup ((List.range n).map fun i => qD (x i))) = true := by
  rw [flat_tup]
  exact flatL_map _ (fun i => rfl) _
theorem solved_lst {n : Nat} (h1 : 1 ≤ n) (hn : n ≤ 12) {b : Nat} {W : Wk} (O : WOkk n b W) (hb1 : 1 ≤ b) (hb : (b + 1) * 2 ^ n ≤ 8000) (N : NSing n (mxW W)) : ∃ x, satM n 1 (mxW W) x ∧ ∀ h, callL m_solved [.lst (lstN n W)] h = .ok (.tup ((List.range n).map fun i => qD (x i))) h := by
  obtain ⟨x, h', s, e, _, _⟩ := solved_raw h1 hn O hb1 hb N (U := .lst (lstN n W)) (h := []) rfl
  exact ⟨x, s, fun h => call_flat (by simp [flat_lstN]) e (flat_qs n x) h⟩
theorem solved_refb {n : Nat} (h1 : 1 ≤ n) (hn : n ≤ 12) {b : Nat} {W : Wk} (O : WOkk n b W) (hb1 : 1 ≤ b) (hb : (b + 1) * 2 ^ n ≤ 8000) (N : NSing n (mxW W)) : ∃ x, satM n 1 (mxW W) x ∧ (∃ B, B + 1 ≤ (b + 1) * 2 ^ n ∧ ∀ i, i < n → qs B (x i)) ∧ ∀ (j : Nat) (h : Hc), h[j]? = some (.lst (lstN n W)) → callL m_solved [.ref j] h = .ok (.tup ((List.range n).map fun i => qD (x i))) h := by
  obtain ⟨x, h', s, e, sz, c, eh⟩ := solved_raw h1 hn O hb1 hb N (U := .ref 0) (h := [.lst (lstN n W)]) (by simp [seqD])
  refine ⟨x, s, sz, fun j h hj => ?_⟩
  have cc := call_ref1 (m := m_solved) (as := [.ref j]) (as' := [.ref 0]) (i := j) (c := .lst (lstN n W)) (c' := .lst (lstN n W)) (h := h) (h' := h') (d0 := .tup ((List.range n).map fun i => qD (x i))) (d := .tup ((List.range n).map fun i => qD (x i))) (by simp [refsOf]) (by simp [renL, renD]) hj (flat_lstN n W) e (by rw [eh]; rfl) (flat_lstN n W) (frzD_flat (flat_qs n x))
  rw [cc]
  congr 1
  apply List.ext_getElem?
  intro i
  rw [List.getElem?_set]
  split
  · rename_i e
    subst e
    split
    · exact hj.symm
    · rename_i hn
      rw [List.getElem?_eq_none (by omega)] at hj
      cases hj
  · rfl
end Mp
/-! SolD: the law solves. -/
namespace Mp
open PySem PySem.Spec PyProof.Rows L2
section
variable {p q : Rat} {a b : Nat} (x : qs a p) (y : qs b q)
include x y
theorem law_sub_z (hab : a + b ≤ 8000) (h : Hc) : callL m_law_sub [qD p, qD q] h = .ok (qD (p - q)) h := by
  have pd := qpos p
  have qd := qpos q
  have x2 : sm a (p.den : Int) := by unfold sm; simpa using x.2
  have y2 : sm b (q.den : Int) := by unfold sm; simpa using y.2
  refine call_flat (h' := []) (by simp [qD]) ?_ (by simp [qD]) h
  have m1 := mulOk_sm (sm_le (show a ≤ 8000 by omega) x.1) (sm_le (show b ≤ 8000 by omega) y2)
  have m2 := mulOk_sm (sm_le (show b ≤ 8000 by omega) y.1) (sm_le (show a ≤ 8000 by omega) x2)
  have m3 := mulOk_sm (sm_le (show a ≤ 8000 by omega) x2) (sm_le (show b ≤ 8000 by omega) y2)
  have e := red_ok 22 (a := p.num * q.den - q.num * p.den) (d := p.den * q.den) (dden_ne p q) (sm_le hab (sm_mul x2 y2)) []
  rw [rdc_q _ (dden_ne p q), sub_val] at e
  unfold m_law_sub
  rw [runB_s]
  generalize qD (p - q) = R at *
  unfold qD
  simp at e
  simp [m1, m2, m3, e]
theorem law_mul_z (hab : a + b ≤ 8000) (h : Hc) : callL m_law_mul [qD p, qD q] h = .ok (qD (p * q)) h := by
  have x2 : sm a (p.den : Int) := by unfold sm; simpa using x.2
  have y2 : sm b (q.den : Int) := by unfold sm; simpa using y.2
  refine call_flat (h' := []) (by simp [qD]) ?_ (by simp [qD]) h
  have m1 := mulOk_sm (sm_le (show a ≤ 8000 by omega) x.1) (sm_le (show b ≤ 8000 by omega) y.1)
  have m3 := mulOk_sm (sm_le (show a ≤ 8000 by omega) x2) (sm_le (show b ≤ 8000 by omega) y2)
  have e := red_ok 22 (a := p.num * q.num) (d := p.den * q.den) (dden_ne p q) (sm_le hab (sm_mul x2 y2)) []
  rw [rdc_q _ (dden_ne p q), mul_val] at e
  unfold m_law_mul
  rw [runB_s]
  generalize qD (p * q) = R at *
  unfold qD
  simp at e
  simp [m1, m3, e]
theorem law_div_z (hq : q ≠ 0) (hab : a + b ≤ 8000) (h : Hc) : callL m_law_div [qD p, qD q] h = .ok (qD (p / q)) h := by
  have pd := qpos p
  have x2 : sm a (p.den : Int) := by unfold sm; simpa using x.2
  have y2 : sm b (q.den : Int) := by unfold sm; simpa using y.2
  refine call_flat (h' := []) (by simp [qD]) ?_ (by simp [qD]) h
  have m1 := mulOk_sm (sm_le (show a ≤ 8000 by omega) x.1) (sm_le (show b ≤ 8000 by omega) y2)
  have m3 := mulOk_sm (sm_le (show a ≤ 8000 by omega) x2) (sm_le (show b ≤ 8000 by omega) y.1)
  have d0 : (p.den : Int) * q.num ≠ 0 := Int.mul_ne_zero (by omega) (num_ne hq)
  have e := red_ok 22 (a := p.num * q.den) (d := p.den * q.num) d0 (sm_le hab (sm_mul x2 y.1)) []
  rw [rdc_q _ d0, div_val p q hq] at e
  unfold m_law_div
  rw [runB_s]
  generalize qD (p / q) = R at *
  unfold qD
  simp at e
  simp [m1, m3, e]
end
theorem flat_qLst (xs : List Nat) (f : Nat → Rat) : flatL (xs.map fun c => qD (f c)) = true := flatL_map _ (fun c => flat_qD _) xs
def rowQ (n : Nat) (r : Nat → Rat) : D := .lst ((List.range (n + 1)).map fun c => qD (r c))
@[simp] theorem flat_rowQ (n : Nat) (r : Nat → Rat) : flat (rowQ n r) = true := by
  unfold rowQ
  rw [flat_lst]
  exact flat_qLst _ _
def lstQ (n : Nat) (R : Mx) : List D := (List.range n).map fun i => rowQ n (R i)
def updQ (R : Mx) (i : Nat) (v : Nat → Rat) : Mx := fun j => if j = i then v else R j
theorem lstQ_len (n : Nat) (R : Mx) : (lstQ n R).length = n := by unfold lstQ; simp
theorem flat_lstQ (n : Nat) (R : Mx) : flatL (lstQ n R) = true := flatL_map _ (fun i => flat_rowQ n _) _
theorem lstQ_get (n : Nat) (R : Mx) (j : Nat) : (lstQ n R)[j]? = if j < n then some (rowQ n (R j)) else none := by
  unfold lstQ
  by_cases h : j < n
  · simp [h]
  · simp [h]
theorem lstQ_at {n : Nat} {R : Mx} {i : Nat} (hi : i < n) : atI (lstQ n R) (i : Int) = some (rowQ n (R i)) := by
  rw [atI_of (by omega) (by rw [lstQ_len]; omega), Int.toNat_natCast, lstQ_get, if_pos hi]
theorem lstQ_set {n : Nat} {R : Mx} {i : Nat} (hi : i < n) (v : Nat → Rat) : (lstQ n R).set i (rowQ n v) = lstQ n (updQ R i v) := by
  apply List.ext_getElem?
  intro j
  rw [List.getElem?_set, lstQ_get, lstQ_get, lstQ_len]
  by_cases e : i = j
  · subst e
    rw [if_pos rfl, if_pos hi, if_pos hi]
    have : updQ R i v i = v := if_pos rfl
    rw [this]
  · rw [if_neg e]
    have : updQ R i v j = R j := if_neg (fun z => e z.symm)
    rw [this]
theorem rowQ_ix {n : Nat} {r : Nat → Rat} {c : Nat} (hc : c ≤ n) (h : Hc) : ixF (rowQ n r) (.int (c : Int)) h = .ok (qD (r c)) h := by
  have hc' : c < n + 1 := by omega
  have q := ix_sqs true ((List.range (n + 1)).map fun c => qD (r c)) (c : Int) h
  rw [atI_of (by omega) (by simp; omega)] at q
  have e2 : ((List.range (n + 1)).map fun c => qD (r c))[(c : Int).toNat]? = some (qD (r c)) := by simp [hc']
  rw [e2] at q
  exact q
structure RQ (n b : Nat) (R : Mx) : Prop where
  sz : ∀ i c, i < n → c ≤ n → qs b (R i c)
theorem num_zero {q : Rat} : q.num = 0 ↔ q = 0 := Rat.num_eq_zero
/-- a line is found to clear with -/
theorem find_loop {n : Nat} {R : Mx} {k : Nat} (hk : k < n) (x0 x6 x7 x8 x9 x10 : Option D) {H : Hc} : ∀ (t p : Nat) (m : Nat) (x4 x5 : Option D), p + t < n → (∀ i, p ≤ i → i < p + t → R i k = 0) → R (p + t) k ≠ 0 → t < m → ∃ y5,
    fl (fun _ => true) (.n 5) m_law_solve_l1 (upFrom (p : Int) m) [x0, some (.int (n : Int)), some (.ref H.length), some (.int (k : Int)), x4, x5, x6, x7, x8, x9, x10] (H ++ [.lst (lstQ n R)]) =
      .nx [x0, some (.int (n : Int)), some (.ref H.length), some (.int (k : Int)), some (.int ((p + t : Nat) : Int)), y5, x6, x7, x8, x9, x10] (H ++ [.lst (lstQ n R)])
  | 0, p, m, x4, x5, hp, hz, hne, hm => by
    obtain ⟨m, rfl⟩ : ∃ m', m = m' + 1 := ⟨m - 1, by omega⟩
    have gq : (H ++ [C.lst (lstQ n R)])[H.length]? = some (.lst (lstQ n R)) := by simp
    have ix := ixF_ref (n := H.length) (i := (p : Int)) (xs := lstQ n R) (h := H ++ [C.lst (lstQ n R)]) gq
    rw [lstQ_at (by omega)] at ix
    have i1 := fun h => rowQ_ix (n := n) (r := R p) (c := k) (by omega) h
    have i2 := fun h => qD_ix0 (R p k) h
    have hn0 : ¬ (R p k).num = 0 := fun z => hne (num_zero.mp z)
    refine ⟨some (.int (p : Int)), ?_⟩
    rw [upFrom_x]
    refine fl_bk rfl (bindP_n ..) ?_
    generalize (R p k).num = v at *
    generalize qD (R p k) = Q at *
    generalize rowQ n (R p) = RW at *
    generalize H ++ [C.lst (lstQ n R)] = H1 at *
    simp [m_law_solve_l1, ix, i1, i2, hn0]
  | t + 1, p, m, x4, x5, hp, hz, hne, hm => by
    obtain ⟨m, rfl⟩ : ∃ m', m = m' + 1 := ⟨m - 1, by omega⟩
    obtain ⟨y5, ih⟩ := find_loop hk x0 x6 x7 x8 x9 x10 (H := H) t (p + 1) m x4 (some (.int (p : Int))) (by omega) (fun i h1 h2 => hz i (by omega) (by omega)) (by rw [show p + 1 + t = p + (t + 1) by omega]; exact hne) (by omega)
    have gq : (H ++ [C.lst (lstQ n R)])[H.length]? = some (.lst (lstQ n R)) := by simp
    have ix := ixF_ref (n := H.length) (i := (p : Int)) (xs := lstQ n R) (h := H ++ [C.lst (lstQ n R)]) gq
    rw [lstQ_at (by omega)] at ix
    have i1 := fun h => rowQ_ix (n := n) (r := R p) (c := k) (by omega) h
    have i2 := fun h => qD_ix0 (R p k) h
    have hz0 : (R p k).num = 0 := num_zero.mpr (hz p (Nat.le_refl _) (by omega))
    rw [hz0] at i2
    rw [show p + 1 + t = p + (t + 1) by omega] at ih
    have ep : ((p + 1 : Nat) : Int) = (p : Int) + 1 := by push_cast; rfl
    rw [ep] at ih
    refine ⟨y5, ?_⟩
    rw [upFrom_x]
    refine Eq.trans (fl_n (b := m_law_solve_l1) ?_) ih
    generalize qD (R p k) = Q at *
    generalize rowQ n (R p) = RW at *
    generalize H ++ [C.lst (lstQ n R)] = H1 at *
    simp [m_law_solve_l1, ix, i1, i2]
theorem first_nz {f : Nat → Rat} {k n : Nat} (ex : ∃ p, k ≤ p ∧ p < n ∧ f p ≠ 0) : ∃ t, k + t < n ∧ f (k + t) ≠ 0 ∧ ∀ i, k ≤ i → i < k + t → f i = 0 := by
  have go : ∀ d, (k + d < n ∧ f (k + d) ≠ 0) → ∃ t, k + t < n ∧ f (k + t) ≠ 0 ∧ ∀ i, k ≤ i → i < k + t → f i = 0 := by
    intro d
    induction d using Nat.strongRecOn with
    | ind d ih =>
      rintro ⟨a1, a2⟩
      by_cases z : ∃ i, k ≤ i ∧ i < k + d ∧ f i ≠ 0
      · obtain ⟨i, b1, b2, b3⟩ := z
        refine ih (i - k) (by omega) ?_
        rw [show k + (i - k) = i by omega]
        exact ⟨by omega, b3⟩
      · refine ⟨d, a1, a2, fun i b1 b2 => ?_⟩
        by_cases z2 : f i = 0
        · exact z2
        · exact absurd ⟨i, b1, b2, z2⟩ z
  obtain ⟨p, a1, a2, a3⟩ := ex
  exact go (p - k) (by rw [show k + (p - k) = p by omega]; exact ⟨a2, a3⟩)
/-- the column is cleared in the lines -/
def fQ (R : Mx) (k i : Nat) : Nat → Rat := if i ≠ k ∧ R i k ≠ 0 then fun c => R i c - R i k * R k c else R i
def parQ (R : Mx) (k c : Nat) : Mx := fun i => if i < c then fQ R k i else R i
theorem clearQ_loop {n b l : Nat} {R : Mx} {k : Nat} (hs : ∀ i c, i < n → i ≠ k → c ≤ n → qs b (R i c)) (hlead : ∀ c, c ≤ n → qs l (R k c)) (hk : k < n) (hn : n ≤ 900) (hb : b + (b + l) ≤ 8000) {H : Hc} (x0 x4 x6 x7 x9 x10 : Option D) : ∀ (t i : Nat) (x5 x8 : Option D), i + t = n → ∃ y5 y8,
    fl (fun _ => true) (.n 5) m_law_solve_l2 (upFrom (i : Int) t) [x0, some (.int (n : Int)), some (.ref H.length), some (.int (k : Int)), x4, x5, x6, x7, x8, x9, x10] (H ++ [.lst (lstQ n (parQ R k i))]) =
      .nx [x0, some (.int (n : Int)), some (.ref H.length), some (.int (k : Int)), x4, y5, x6, x7, y8, x9, x10] (H ++ [.lst (lstQ n (parQ R k n))])
  | 0, i, x5, x8, hi => by
    have : i = n := by omega
    subst this
    exact ⟨x5, x8, fl_end rfl⟩
  | t + 1, i, x5, x8, hi => by
    have hi' : i < n := by omega
    have ei : ((i + 1 : Nat) : Int) = (i : Int) + 1 := by push_cast; rfl
    have gq : (H ++ [C.lst (lstQ n (parQ R k i))])[H.length]? = some (.lst (lstQ n (parQ R k i))) := by simp
    have ixi := ixF_ref (n := H.length) (i := (i : Int)) (xs := lstQ n (parQ R k i)) (h := H ++ [C.lst (lstQ n (parQ R k i))]) gq
    rw [lstQ_at hi'] at ixi
    have ixk := ixF_ref (n := H.length) (i := (k : Int)) (xs := lstQ n (parQ R k i)) (h := H ++ [C.lst (lstQ n (parQ R k i))]) gq
    rw [lstQ_at hk] at ixk
    have ewi : parQ R k i i = R i := by unfold parQ; rw [if_neg (by omega)]
    have ewk : parQ R k i k = R k := by
      unfold parQ fQ
      split
      · rw [if_neg (fun z => z.1 rfl)]
      · rfl
    rw [ewi] at ixi
    rw [ewk] at ixk
    have j1 := fun h => rowQ_ix (n := n) (r := R i) (c := k) (by omega) h
    have j2 := fun h => qD_ix0 (R i k) h
    have ew : parQ R k (i + 1) = updQ (parQ R k i) i (fQ R k i) := by
      funext j
      unfold parQ updQ
      by_cases e : j = i
      · subst e
        rw [if_pos (by omega), if_pos rfl]
      · rw [if_neg e]
        show (if j < i + 1 then fQ R k j else R j) = if j < i then fQ R k j else R j
        by_cases c : j < i
        · rw [if_pos c, if_pos (by omega)]
        · rw [if_neg c, if_neg (by omega)]
    have eself : lstQ n (updQ (parQ R k i) i (R i)) = lstQ n (parQ R k i) := by
      congr 1
      funext j
      unfold updQ
      split
      · rename_i e; subst e; exact ewi.symm
      · rfl
    rw [upFrom_x]
    by_cases q : i ≠ k ∧ R i k ≠ 0
    · obtain ⟨q1, q2⟩ := q
      obtain ⟨y5, y8, ih⟩ := clearQ_loop hs hlead hk hn hb (H := H) x0 x4 x6 x7 x9 x10 t (i + 1) (some (.int (i : Int))) (some (qD (R i k))) (by omega)
      rw [ei] at ih
      refine ⟨y5, y8, Eq.trans (fl_n (b := m_law_solve_l2) ?_) ih⟩
      have efw : fQ R k i = fun c => R i c - R i k * R k c := by unfold fQ; rw [if_pos ⟨q1, q2⟩]
      have er : ∀ h, rg1F [.int ((n : Int) + 1)] h = .ok ⟨(List.range (n + 1)).map fun (c : Nat) => D.int (c : Int), fun _ => true⟩ h := fun h => by
        rw [rg1F_int, if_pos (rgOk_of (by omega) (by omega)), show ((n : Int) + 1).toNat = n + 1 by omega]
        unfold upFrom
        simp
      have c1 := lcR_mm (chk := fun _ => true) (p := .n 10) (own := [10]) (m := m_law_solve_c3) (ds := [x0, some (.int (n : Int)), some (.ref H.length), some (.int (k : Int)), x4, some (.int (i : Int)), x6, x7, some (qD (R i k)), x9, x10]) (h := H ++ [C.lst (lstQ n (parQ R k i))]) (fun (c : Nat) => D.int (c : Int)) (fun c => qD (R i c - R i k * R k c)) rfl (List.range (n + 1)) (by rw [List.length_range]; omega)
        (fun c hc => ⟨_, bindP_n .., by
          have hc' : c ≤ n := by have := List.mem_range.mp hc; omega
          have i1 := fun h => rowQ_ix (n := n) (r := R i) hc' h
          have i2 := fun h => rowQ_ix (n := n) (r := R k) hc' h
          have e1 := fun h => law_mul_z (hs i k hi' q1 (by omega)) (hlead c hc') (by omega) h
          have e2 := fun h => law_sub_z (hs i c hi' q1 hc') (qs_mul (hs i k hi' q1 (by omega)) (hlead c hc')) hb h
          generalize qD (R i c - R i k * R k c) = QR at *
          generalize qD (R i k * R k c) = QM at *
          generalize qD (R i c) = QI at *
          generalize qD (R k c) = QK at *
          generalize qD (R i k) = QB at *
          generalize rowQ n (R i) = RI at *
          generalize rowQ n (R k) = RK at *
          generalize H ++ [C.lst (lstQ n (parQ R k i))] = H1 at *
          simp [m_law_solve_c3, ixi, ixk, i1, i2, e1, e2]⟩)
      have erow : rowQ n (fun c => R i c - R i k * R k c) = .lst ((List.range (n + 1)).map fun c => qD (R i c - R i k * R k c)) := rfl
      have st := setF_ok (n := H.length) (xs := lstQ n (parQ R k i)) (h := H ++ [C.lst (lstQ n (parQ R k i))]) (i := (i : Int)) (x := rowQ n (fun c => R i c - R i k * R k c)) gq (by omega) (by rw [lstQ_len]; omega)
      rw [Int.toNat_natCast, lstQ_set hi', List.set_append_right _ _ (Nat.le_refl _), Nat.sub_self] at st
      have st2 : setF (.ref H.length) (.int (i : Int)) (rowQ n (fun c => R i c - R i k * R k c)) (H ++ [C.lst (lstQ n (parQ R k i))]) = some (H ++ [C.lst (lstQ n (updQ (parQ R k i) i (fun c => R i c - R i k * R k c)))]) := st
      rw [erow] at st2
      rw [ew, efw]
      have q1' : ¬ ((i : Int) = (k : Int)) := by omega
      have hn0 : ¬ (R i k).num = 0 := fun z => q2 (num_zero.mp z)
      clear st
      generalize ((List.range (n + 1)).map fun c => qD (R i c - R i k * R k c)) = RL at *
      generalize ((List.range (n + 1)).map fun (c : Nat) => D.int (c : Int)) = IL at *
      generalize (R i k).num = v at *
      generalize qD (R i k) = QB at *
      generalize rowQ n (R i) = RI at *
      generalize rowQ n (R k) = RK at *
      generalize H ++ [C.lst (lstQ n (updQ (parQ R k i) i (fun c => R i c - R i k * R k c)))] = H2 at *
      generalize H ++ [C.lst (lstQ n (parQ R k i))] = H1 at *
      simp [m_law_solve_l2, q1', q1, ixi, j1, j2, hn0, er, c1, st2]
    · obtain ⟨y5, y8, ih⟩ := clearQ_loop hs hlead hk hn hb (H := H) x0 x4 x6 x7 x9 x10 t (i + 1) (some (.int (i : Int))) x8 (by omega)
      rw [ei] at ih
      refine ⟨y5, y8, Eq.trans (fl_n (b := m_law_solve_l2) ?_) ih⟩
      have efw : fQ R k i = R i := by unfold fQ; rw [if_neg q]
      rw [ew, efw, eself]
      have v0 : i ≠ k → (R i k).num = 0 := fun e => by
        by_cases z : R i k = 0
        · exact num_zero.mpr z
        · exact absurd ⟨e, z⟩ q
      generalize (R i k).num = v at *
      generalize qD (R i k) = QB at *
      generalize rowQ n (R i) = RI at *
      generalize rowQ n (R k) = RK at *
      generalize H ++ [C.lst (lstQ n (parQ R k i))] = H1 at *
      by_cases e : i = k
      · subst e
        simp [m_law_solve_l2]
      · have e' : ¬ ((i : Int) = (k : Int)) := by omega
        simp [m_law_solve_l2, e', e, ixi, j1, j2, v0 e]
def swQ (R : Mx) (k p : Nat) : Mx := fun i => R (swp k p i)
/-- the step of the law -/
def nxQ (R : Mx) (k p n : Nat) : Mx := parQ (updQ (swQ R k p) k fun c => R p c / R p k) k n
theorem nxQ_at {n : Nat} {R : Mx} {k p : Nat} (hk : k < n) {i : Nat} (hi : i < n) : nxQ R k p n i = if i = k then (fun c => R p c / R p k) else if R (swp k p i) k ≠ 0 then (fun c => R (swp k p i) c - R (swp k p i) k * (R p c / R p k)) else R (swp k p i) := by
  unfold nxQ parQ
  rw [if_pos hi]
  unfold fQ
  have uk : updQ (swQ R k p) k (fun c => R p c / R p k) k = fun c => R p c / R p k := if_pos rfl
  rw [uk]
  by_cases e : i = k
  · subst e
    rw [if_neg (fun z => z.1 rfl), if_pos rfl, uk]
  · have ui : updQ (swQ R k p) k (fun c => R p c / R p k) i = R (swp k p i) := by
      unfold updQ swQ
      rw [if_neg e]
    rw [ui, if_neg e]
    by_cases z : R (swp k p i) k ≠ 0
    · rw [if_pos ⟨e, z⟩, if_pos z]
    · rw [if_neg (fun y => z y.2), if_neg z]
theorem nxQ_stp {n : Nat} {R : Mx} {k p : Nat} (hk : k < n) (hkp : k ≤ p) (hp : p < n) (hpv : R p k ≠ 0) : Stp n k p R (nxQ R k p n) := by
  refine ⟨hk, hkp, hp, hpv, ⟨1 / R p k, by intro z; grind, fun c hc => ?_⟩, fun i hi hne => ?_⟩
  · rw [nxQ_at hk hk, if_pos rfl]
    grind
  · have hs := swp_lt hk hp hi
    rw [nxQ_at hk hi, if_neg hne]
    by_cases z : R (swp k p i) k ≠ 0
    · rw [if_pos z]
      refine ⟨by grind, 1, -(R (swp k p i) k / R p k), by decide, fun c hc => by grind⟩
    · rw [if_neg z]
      have z' : R (swp k p i) k = 0 := by
        by_cases y : R (swp k p i) k = 0
        · exact y
        · exact absurd y z
      exact ⟨z', 1, 0, by decide, fun c hc => by grind⟩
theorem nxQ_sz {n b : Nat} {R : Mx} (hs : ∀ i c, i < n → c ≤ n → qs b (R i c)) {k p : Nat} (hk : k < n) (hp : p < n) (hpv : R p k ≠ 0) : ∀ i c, i < n → c ≤ n → qs (4 * b + 1) (nxQ R k p n i c) := fun i c hi hc => by
  have hsw := swp_lt hk hp hi
  have l : qs (b + b) (R p c / R p k) := qs_quo (hs p c hp hc) (hs p k hp (by omega)) hpv
  rw [nxQ_at hk hi]
  split
  · exact qs_le (by omega) l
  · split
    · exact qs_le (by omega) (qs_sub (hs _ c hsw hc) (qs_mul (hs _ k hsw (by omega)) l))
    · exact qs_le (by omega) (hs _ c hsw hc)
theorem nxQ_dia {n : Nat} {m0 R : Mx} {k p : Nat} (I : Clr n k m0 R) (hk : k < n) (hkp : k ≤ p) (hp : p < n) (hpv : R p k ≠ 0) (D1 : ∀ c, c < k → R c c = 1) : ∀ c, c < k + 1 → nxQ R k p n c c = 1 := fun c hc => by
  rw [nxQ_at hk (by omega)]
  by_cases e : c = k
  · subst e
    rw [if_pos rfl]
    grind
  · have hc' : c < k := by omega
    have es : swp k p c = c := by unfold swp; rw [if_neg e, if_neg (by omega)]
    have z := I.off c p hc' hp (by omega)
    rw [if_neg e, es]
    split
    · show R c c - R c k * (R p c / R p k) = 1
      rw [z, D1 c hc']
      grind
    · exact D1 c hc'
theorem lsolve_loop {n : Nat} (hn : n ≤ 900) {m0 : Mx} (N : NSing n m0) {H : Hc} (x0 x9 x10 : Option D) : ∀ (t k b : Nat) (R : Mx) (x3 x4 x5 x6 x7 x8 : Option D), k + t = n → (∀ i c, i < n → c ≤ n → qs b (R i c)) → (3 * b + 1) * 4 ^ t ≤ 24004 → Clr n k m0 R → (∀ c, c < k → R c c = 1) → ∃ (R' : Mx) (y3 y4 y5 y6 y7 y8 : Option D),
    fl (fun _ => true) (.n 3) m_law_solve_l3 (upFrom (k : Int) t) [x0, some (.int (n : Int)), some (.ref H.length), x3, x4, x5, x6, x7, x8, x9, x10] (H ++ [.lst (lstQ n R)]) =
      .nx [x0, some (.int (n : Int)), some (.ref H.length), y3, y4, y5, y6, y7, y8, x9, x10] (H ++ [.lst (lstQ n R')]) ∧ Clr n n m0 R' ∧ (∀ c, c < n → R' c c = 1) ∧ ∃ B, 3 * B + 1 ≤ (3 * b + 1) * 4 ^ t ∧ ∀ i c, i < n → c ≤ n → qs B (R' i c)
  | 0, k, b, R, x3, x4, x5, x6, x7, x8, hk, hs, hb, I, D1 => by
    have : k = n := by omega
    subst this
    exact ⟨R, x3, x4, x5, x6, x7, x8, fl_end rfl, I, D1, b, by simp, hs⟩
  | t + 1, k, b, R, x3, x4, x5, x6, x7, x8, hk, hs, hb, I, D1 => by
    have hk' : k < n := by omega
    have e44 : (3 * b + 1) * 4 ^ (t + 1) = (3 * (4 * b + 1) + 1) * 4 ^ t := by
      rw [Nat.pow_succ, ← Nat.mul_assoc, Nat.mul_right_comm]
      congr 1
      omega
    have hb2 : 3 * b + 1 ≤ 6001 ∧ (3 * (4 * b + 1) + 1) * 4 ^ t ≤ 24004 := by
      have e : (3 * b + 1) * 4 ^ (t + 1) = (3 * (4 * b + 1) + 1) * 4 ^ t := by
        rw [Nat.pow_succ, ← Nat.mul_assoc, Nat.mul_right_comm]
        congr 1
        omega
      rw [e] at hb
      have := Nat.le_mul_of_pos_right (3 * (4 * b + 1) + 1) (Nat.pow_pos (a := 4) (n := t) (by decide))
      omega
    obtain ⟨t1, q1, q2, q3⟩ := first_nz (f := fun i => R i k) (I.pivot hk' N)
    obtain ⟨p, hp⟩ : ∃ p, p = k + t1 := ⟨_, rfl⟩
    rw [← hp] at q1 q2
    have hkp : k ≤ p := by omega
    have q2' : R p k ≠ 0 := q2
    obtain ⟨y5, e1⟩ := find_loop (R := R) hk' x0 x6 x7 x8 x9 x10 (H := H) t1 k (n - k) (some (.int (k : Int))) x5 (by omega) (fun i h1 h2 => q3 i h1 h2) (by rw [← hp]; exact q2) (by omega)
    rw [← hp] at e1
    have gq : (H ++ [C.lst (lstQ n R)])[H.length]? = some (.lst (lstQ n R)) := by simp
    have ixp := ixF_ref (n := H.length) (i := (p : Int)) (xs := lstQ n R) (h := H ++ [C.lst (lstQ n R)]) gq
    rw [lstQ_at q1] at ixp
    have ixk := ixF_ref (n := H.length) (i := (k : Int)) (xs := lstQ n R) (h := H ++ [C.lst (lstQ n R)]) gq
    rw [lstQ_at hk'] at ixk
    have st1 := setF_ok (n := H.length) (xs := lstQ n R) (h := H ++ [C.lst (lstQ n R)]) (i := (k : Int)) (x := rowQ n (R p)) gq (by omega) (by rw [lstQ_len]; omega)
    rw [Int.toNat_natCast, lstQ_set hk', List.set_append_right _ _ (Nat.le_refl _), Nat.sub_self] at st1
    have st1' : setF (.ref H.length) (.int (k : Int)) (rowQ n (R p)) (H ++ [C.lst (lstQ n R)]) = some (H ++ [C.lst (lstQ n (updQ R k (R p)))]) := st1
    have gq2 : (H ++ [C.lst (lstQ n (updQ R k (R p)))])[H.length]? = some (.lst (lstQ n (updQ R k (R p)))) := by simp
    have st2 := setF_ok (n := H.length) (xs := lstQ n (updQ R k (R p))) (h := H ++ [C.lst (lstQ n (updQ R k (R p)))]) (i := (p : Int)) (x := rowQ n (R k)) gq2 (by omega) (by rw [lstQ_len]; omega)
    rw [Int.toNat_natCast, lstQ_set q1, List.set_append_right _ _ (Nat.le_refl _), Nat.sub_self] at st2
    have esw : updQ (updQ R k (R p)) p (R k) = swQ R k p := by
      funext i
      unfold updQ swQ swp
      by_cases a : i = p
      · subst a
        rw [if_pos rfl]
        by_cases c : i = k
        · rw [if_pos c, c]
        · rw [if_neg c, if_pos rfl]
      · rw [if_neg a]
        show (if i = k then R p else R i) = _
        by_cases c : i = k
        · rw [if_pos c, if_pos c]
        · rw [if_neg c, if_neg c, if_neg a]
    rw [esw] at st2
    have st2' : setF (.ref H.length) (.int (p : Int)) (rowQ n (R k)) (H ++ [C.lst (lstQ n (updQ R k (R p)))]) = some (H ++ [C.lst (lstQ n (swQ R k p))]) := st2
    have sk : swQ R k p k = R p := by unfold swQ swp; rw [if_pos rfl]
    have gq3 : (H ++ [C.lst (lstQ n (swQ R k p))])[H.length]? = some (.lst (lstQ n (swQ R k p))) := by simp
    have ix3 := ixF_ref (n := H.length) (i := (k : Int)) (xs := lstQ n (swQ R k p)) (h := H ++ [C.lst (lstQ n (swQ R k p))]) gq3
    rw [lstQ_at hk', sk] at ix3
    have i3 := fun h => rowQ_ix (n := n) (r := R p) (c := k) (by omega) h
    have e8 : ∀ h, seqD h (rowQ n (R p)) = some ((List.range (n + 1)).map fun c => qD (R p c)) := fun h => rfl
    have e9 : chkQ (rowQ n (R p)) ((List.range (n + 1)).map fun c => qD (R p c)) = fun _ => true := by unfold rowQ; simp
    have c1 := lcR_mm (chk := fun _ => true) (p := .n 9) (own := [9]) (m := m_law_solve_c2) (ds := [x0, some (.int (n : Int)), some (.ref H.length), some (.int (k : Int)), some (.int (p : Int)), y5, some (rowQ n (R k)), some (qD (R p k)), x8, x9, x10]) (h := H ++ [C.lst (lstQ n (swQ R k p))]) (fun c => qD (R p c)) (fun c => qD (R p c / R p k)) rfl (List.range (n + 1)) (by rw [List.length_range]; omega)
      (fun c hc => ⟨_, bindP_n .., by
        have hc' : c ≤ n := by have := List.mem_range.mp hc; omega
        have e := fun h => law_div_z (hs p c q1 hc') (hs p k q1 (by omega)) q2' (by omega) h
        generalize qD (R p c / R p k) = QR at *
        generalize qD (R p c) = QI at *
        generalize qD (R p k) = QB at *
        generalize H ++ [C.lst (lstQ n (swQ R k p))] = H1 at *
        simp [m_law_solve_c2, e]⟩)
    have erow : rowQ n (fun c => R p c / R p k) = .lst ((List.range (n + 1)).map fun c => qD (R p c / R p k)) := rfl
    have st3 := setF_ok (n := H.length) (xs := lstQ n (swQ R k p)) (h := H ++ [C.lst (lstQ n (swQ R k p))]) (i := (k : Int)) (x := rowQ n (fun c => R p c / R p k)) gq3 (by omega) (by rw [lstQ_len]; omega)
    rw [Int.toNat_natCast, lstQ_set hk', List.set_append_right _ _ (Nat.le_refl _), Nat.sub_self] at st3
    have st3' : setF (.ref H.length) (.int (k : Int)) (rowQ n (fun c => R p c / R p k)) (H ++ [C.lst (lstQ n (swQ R k p))]) = some (H ++ [C.lst (lstQ n (updQ (swQ R k p) k fun c => R p c / R p k))]) := st3
    rw [erow] at st3'
    have szU : ∀ i c, i < n → i ≠ k → c ≤ n → qs b (updQ (swQ R k p) k (fun c => R p c / R p k) i c) := fun i c hi hne hc => by
      unfold updQ swQ
      rw [if_neg hne]
      exact hs _ c (swp_lt hk' q1 hi) hc
    have szK : ∀ c, c ≤ n → qs (b + b) (updQ (swQ R k p) k (fun c => R p c / R p k) k c) := fun c hc => by
      have uk : updQ (swQ R k p) k (fun c => R p c / R p k) k = fun c => R p c / R p k := if_pos rfl
      rw [uk]
      exact qs_quo (hs p c q1 hc) (hs p k q1 (by omega)) q2'
    obtain ⟨z5, z8, e2⟩ := clearQ_loop (n := n) (b := b) (l := b + b) (R := updQ (swQ R k p) k fun c => R p c / R p k) szU szK hk' hn (by omega) (H := H) x0 (some (.int (p : Int))) (some (rowQ n (R k))) (some (qD (R p k))) x9 x10 n 0 y5 x8 (by omega)
    have ep0 : parQ (updQ (swQ R k p) k fun c => R p c / R p k) k 0 = updQ (swQ R k p) k fun c => R p c / R p k := by
      funext i
      unfold parQ
      rw [if_neg (by omega)]
    rw [ep0] at e2
    have epn : parQ (updQ (swQ R k p) k fun c => R p c / R p k) k n = nxQ R k p n := rfl
    rw [epn] at e2
    obtain ⟨R', y3, y4, w5, y6, y7, y8, ih, r1, r2, r3⟩ := lsolve_loop hn N (H := H) x0 x9 x10 t (k + 1) (4 * b + 1) (nxQ R k p n) (some (.int (k : Int))) (some (.int (p : Int))) z5 (some (rowQ n (R k))) (some (qD (R p k))) z8 (by omega) (nxQ_sz hs hk' q1 q2') hb2.2 (I.step (nxQ_stp hk' hkp q1 q2')) (nxQ_dia I hk' hkp q1 q2' D1)
    refine ⟨R', y3, y4, w5, y6, y7, y8, ?_, r1, r2, by rw [e44]; exact r3⟩
    have ei : ((k + 1 : Nat) : Int) = (k : Int) + 1 := by push_cast; rfl
    rw [ei] at ih
    rw [upFrom_x]
    refine Eq.trans (fl_n (b := m_law_solve_l3) ?_) ih
    have er : ∀ h, rg1F [.int (n : Int)] h = .ok ⟨upFrom 0 n, fun _ => true⟩ h := fun h => by
      rw [rg1F_int, if_pos (rgOk_nat (by omega)), Int.toNat_natCast]
    have er2 : ∀ h, rg2F [.int (k : Int), .int (n : Int)] h = .ok ⟨upFrom (k : Int) (n - k), fun _ => true⟩ h := fun h => by
      rw [rg2F_int, if_pos ⟨rgOk_nat (by omega), rgOk_nat (by omega)⟩]
      congr 3
      omega
    have e0 : upFrom ((0 : Nat) : Int) n = upFrom 0 n := rfl
    rw [e0] at e2
    clear st1 st2 st3 gq gq2 gq3 ep0 epn
    generalize H ++ [C.lst (lstQ n (nxQ R k p n))] = H5 at *
    generalize H ++ [C.lst (lstQ n (updQ (swQ R k p) k fun c => R p c / R p k))] = H4 at *
    generalize H ++ [C.lst (lstQ n (swQ R k p))] = H3 at *
    generalize H ++ [C.lst (lstQ n (updQ R k (R p)))] = H2 at *
    generalize H ++ [C.lst (lstQ n R)] = H1 at *
    generalize ((List.range (n + 1)).map fun c => qD (R p c / R p k)) = DL at *
    generalize ((List.range (n + 1)).map fun c => qD (R p c)) = PL at *
    generalize qD (R p k) = QT at *
    generalize rowQ n (R p) = RP at *
    generalize rowQ n (R k) = RK at *
    generalize upFrom 0 n = UF at *
    generalize upFrom (k : Int) (n - k) = UG at *
    simp [m_law_solve_l3, er2, e1, ixk, ixp, st1', st2', ix3, i3, e8, e9, c1, st3', er, e2]
/-- the lines stand in a list or a cell; each is a list -/
theorem lsolve_raw {n : Nat} (hn : n ≤ 12) {b : Nat} {R : Mx} (hs : ∀ i c, i < n → c ≤ n → qs b (R i c)) (hb : (3 * b + 1) * 4 ^ n ≤ 24004) (N : NSing n R) {U : D} {h : Hc} (hU : seqD h U = some (lstQ n R)) (hlen : lenF [U] h = .ok (.int (n : Int)) h) :
    ∃ (x : Nat → Rat) (h' : Hc), satM n 1 R x ∧ (∃ B, 3 * B + 1 ≤ (3 * b + 1) * 4 ^ n ∧ ∀ i, i < n → qs B (x i)) ∧ m_law_solve [U] h = .ok (.lst ((List.range n).map fun i => qD (x i))) h' ∧ ∃ c, h' = h ++ [c] := by
  have hck : chkQ U (lstQ n R) h = true := chkQ_of hU
  have c1 := lcR_mm (chk := chkQ U (lstQ n R)) (p := .n 9) (own := [9]) (m := m_law_solve_c1) (ds := [some U, some (.int (n : Int)), none, none, none, none, none, none, none, none, none]) (h := h) (fun i => rowQ n (R i)) (fun i => rowQ n (R i)) hck (List.range n) (by rw [List.length_range]; omega)
    (fun i hi => ⟨_, bindP_n .., by
      have e : rowQ n (R i) = .lst ((List.range (n + 1)).map fun c => qD (R i c)) := rfl
      rw [e]
      generalize ((List.range (n + 1)).map fun c => qD (R i c)) = RL at *
      simp [m_law_solve_c1]⟩)
  have c1' : lcR (chkQ U (lstQ n R)) (.n 9) [9] (fun _ h => .ok true h) m_law_solve_c1 [some U, some (.int (n : Int)), none, none, none, none, none, none, none, none, none] (lstQ n R) [] h = .ok (lstQ n R) h := c1
  obtain ⟨R', y3, y4, y5, y6, y7, y8, e2, I', D1, B, hB, sz⟩ := lsolve_loop (by omega) N (H := h) (some U) none none n 0 b R none none none none none none (by omega) hs hb (Clr.start n R) (fun c hc => by omega)
  have gq2 : (h ++ [C.lst (lstQ n R')])[h.length]? = some (.lst (lstQ n R')) := by simp
  have hs2 : seqD (h ++ [C.lst (lstQ n R')]) (.ref h.length) = some (lstQ n R') := by simp [seqD]
  have hck2 : chkQ (.ref h.length) (lstQ n R') (h ++ [C.lst (lstQ n R')]) = true := chkQ_of hs2
  have c2 := lcR_mm (chk := chkQ (.ref h.length) (lstQ n R')) (p := .n 9) (own := [9]) (m := m_law_solve_c4) (ds := [some U, some (.int (n : Int)), some (.ref h.length), y3, y4, y5, y6, y7, y8, none, none]) (h := h ++ [.lst (lstQ n R')]) (fun i => rowQ n (R' i)) (fun i => qD (R' i n)) hck2 (List.range n) (by rw [List.length_range]; omega)
    (fun i hi => ⟨_, bindP_n .., by
      have i1 := fun h => rowQ_ix (n := n) (r := R' i) (c := n) (Nat.le_refl _) h
      generalize rowQ n (R' i) = RW at *
      generalize qD (R' i n) = QR at *
      generalize h ++ [C.lst (lstQ n R')] = H1 at *
      simp [m_law_solve_c4, i1]⟩)
  have c2' : lcR (chkQ (.ref h.length) (lstQ n R')) (.n 9) [9] (fun _ h => .ok true h) m_law_solve_c4 [some U, some (.int (n : Int)), some (.ref h.length), y3, y4, y5, y6, y7, y8, none, none] (lstQ n R') [] (h ++ [.lst (lstQ n R')]) = .ok ((List.range n).map fun i => qD (R' i n)) (h ++ [.lst (lstQ n R')]) := c2
  refine ⟨fun i => R' i n, h ++ [.lst (lstQ n R')], ?_, ⟨B, hB, fun i hi => sz i n hi (Nat.le_refl _)⟩, ?_, _, rfl⟩
  · have := I'.done
    intro i hi
    have h2 := this i hi
    have eq : ∀ j, j < n → R' j n / R' j j = R' j n := fun j hj => by rw [D1 j hj]; grind
    unfold satL dotM at h2 ⊢
    rw [← h2]
    exact sumR_congr fun j hj => by
      show R i j * R' j n = R i j * (R' j n / R' j j)
      rw [eq j hj]
  · have er : ∀ h, rg1F [.int (n : Int)] h = .ok ⟨upFrom 0 n, fun _ => true⟩ h := fun h => by
      rw [rg1F_int, if_pos (rgOk_nat (by omega)), Int.toNat_natCast]
    have e0 : upFrom ((0 : Nat) : Int) n = upFrom 0 n := rfl
    rw [e0] at e2
    unfold m_law_solve
    rw [runB_s]
    clear gq2 hck2 hck
    generalize ((List.range n).map fun i => qD (R' i n)) = QL at *
    generalize h ++ [C.lst (lstQ n R')] = H2 at *
    generalize hLR : lstQ n R = LV at *
    generalize lstQ n R' = LW at *
    generalize upFrom 0 n = UF at *
    simp [hlen, hU, c1', er, e2, hs2, c2']
theorem flat_ql (n : Nat) (x : Nat → Rat) : flat (.lst ((List.range n).map fun i => qD (x i))) = true := by
  rw [flat_lst]
  exact flatL_map _ (fun i => flat_qD _) _
theorem lsolve_ref {n : Nat} (hn : n ≤ 12) {b : Nat} {R : Mx} (hs : ∀ i c, i < n → c ≤ n → qs b (R i c)) (hb : (3 * b + 1) * 4 ^ n ≤ 24004) (N : NSing n R) : ∃ x, satM n 1 R x ∧ (∃ B, 3 * B + 1 ≤ (3 * b + 1) * 4 ^ n ∧ ∀ i, i < n → qs B (x i)) ∧ ∀ (j : Nat) (h : Hc), h[j]? = some (.lst (lstQ n R)) → callL m_law_solve [.ref j] h = .ok (.lst ((List.range n).map fun i => qD (x i))) h := by
  obtain ⟨x, h', s, z, e, c, eh⟩ := lsolve_raw hn hs hb N (U := .ref 0) (h := [.lst (lstQ n R)]) (by simp [seqD]) (by
    have q := lenF_ref (n := 0) (h := [.lst (lstQ n R)]) (xs := lstQ n R) rfl
    rw [q, lstQ_len])
  refine ⟨x, s, z, fun j h hj => ?_⟩
  have cc := call_ref1 (m := m_law_solve) (as := [.ref j]) (as' := [.ref 0]) (i := j) (c := .lst (lstQ n R)) (c' := .lst (lstQ n R)) (h := h) (h' := h') (d0 := .lst ((List.range n).map fun i => qD (x i))) (d := .lst ((List.range n).map fun i => qD (x i))) (by simp [refsOf]) (by simp [renL, renD]) hj (flat_lstQ n R) e (by rw [eh]; rfl) (flat_lstQ n R) (frzD_flat (flat_ql n x))
  rw [cc]
  congr 1
  apply List.ext_getElem?
  intro i
  rw [List.getElem?_set]
  split
  · rename_i e
    subst e
    split
    · exact hj.symm
    · rename_i hn
      rw [List.getElem?_eq_none (by omega)] at hj
      cases hj
  · rfl
end Mp
/-! ReaA: which states are reached. -/
namespace Mp
open PySem PySem.Spec PyProof.Rows L2
def wt (M : List (List Int)) (s t : Nat) : Int := (M.getD s []).getD t 0
def iN (F : List Nat) : List Int := F.map fun (k : Nat) => (k : Int)
theorem iN_len (F : List Nat) : (iN F).length = F.length := by unfold iN; rw [List.length_map]
/-- what is found anew from u -/
def nw (M : List (List Int)) (F : List Nat) (u j : Nat) : List Nat := (List.range j).filter fun c => decide (0 < wt M u c) && decide (c ∉ F)
def reaF (M : List (List Int)) (wall : Nat → Bool) : Nat → List Nat → List Nat → List Nat
  | 0, F, _ => F
  | d + 1, F, W => match W.getLast? with
    | none => F
    | some u => if wall u = true then reaF M wall d F W.dropLast else reaF M wall d (F ++ nw M F u M.length) (W.dropLast ++ nw M F u M.length)
/-- the states that are reached from s -/
def reach (M : List (List Int)) (wall : Nat → Bool) (s : Nat) : List Nat := reaF M wall (M.length + 1) [s] [s]
inductive Rc (M : List (List Int)) (wall : Nat → Bool) (s : Nat) : Nat → Prop
  | base : Rc M wall s s
  | step {u v : Nat} : Rc M wall s u → wall u = false → 0 < wt M u v → v < M.length → Rc M wall s v
structure RI (M : List (List Int)) (wall : Nat → Bool) (s : Nat) (F W : List Nat) : Prop where
  nd : F.Nodup
  lt : ∀ f ∈ F, f < M.length
  rc : ∀ f ∈ F, Rc M wall s f
  st : s ∈ F
  wf : ∀ w ∈ W, w ∈ F
  cl : ∀ u ∈ F, u ∉ W → wall u = false → ∀ v, v < M.length → 0 < wt M u v → v ∈ F
/-! ### dicts of ints -/
theorem Chn.rowlen {M : List (List Int)} (C : Chn M) {s : Nat} (hs : s < M.length) : (M.getD s []).length = M.length := by
  have : M.getD s [] ∈ M := by simp [List.getD, hs]
  exact (C.row _ this).1
/-! ### the program -/
def fdC (F : List Nat) : C := .dct ((iN F).map Sum.inl) ((iN F).map fun _ => .bl true)
def stC (W : List Nat) : C := .lst ((iN W).map D.int)
end Mp
/-! ReaB: which states are reached, by the program and by the law. -/
namespace Mp
open PySem PySem.Spec PyProof.Rows L2
def srN (F : List Nat) : List Nat := isort (fun a b => decide (a ≤ b)) F
/-! ### the law -/
end Mp
/-! SysA: the lines of a chain with known states. -/
namespace Mp
open PySem PySem.Spec PyProof.Rows L2
def sm1 (M : List (List Int)) (s : Nat) : Int := (M.getD s []).sum
def shQ (M : List (List Int)) (s j : Nat) : Rat := ((wt M s j : Int) : Rat) / ((sm1 M s : Int) : Rat)
def dl (j s : Nat) : Rat := if j = s then 1 else 0
def sysR (M : List (List Int)) (kn : Nat → Option Rat) (base : Rat) : Mx := fun s => match kn s with
  | some q => fun j => if j = M.length then q else dl j s
  | none => fun j => if j = M.length then base else dl j s - shQ M s j
theorem Chn.at1 {M : List (List Int)} (C : Chn M) {s : Nat} (hs : s < M.length) : 0 < sm1 M s ∧ sm1 M s ≤ 45 ∧ ∀ j, 0 ≤ wt M s j ∧ wt M s j ≤ 9 := by
  have hm : M.getD s [] ∈ M := by simp [List.getD, hs]
  obtain ⟨h1, h2, h3⟩ := C.row _ hm
  have h4 := (sum_le9 _ h3).2
  have h5 := C.hi
  refine ⟨h2, by unfold sm1; omega, fun j => ?_⟩
  unfold wt
  by_cases hj : j < (M.getD s []).length
  · have : (M.getD s []).getD j 0 ∈ M.getD s [] := by
      generalize M.getD s [] = r at *
      simp [List.getD, hj]
    exact h3 _ this
  · rw [List.getD, List.getElem?_eq_none (by omega)]
    simp
theorem sum_sumR : ∀ (r : List Int), ((r.sum : Int) : Rat) = sumR (fun j => ((r.getD j 0 : Int) : Rat)) r.length := by
  intro r
  have key : ∀ (r : List Int) (n : Nat), r.length = n → ((r.sum : Int) : Rat) = sumR (fun j => ((r.getD j 0 : Int) : Rat)) n := by
    intro r n
    induction n generalizing r with
    | zero =>
      intro h
      have : r = [] := List.length_eq_zero_iff.mp h
      subst this
      rfl
    | succ n ih =>
      intro h
      rcases List.eq_nil_or_concat r with rfl | ⟨r', x, rfl⟩
      · simp at h
      · rw [List.concat_eq_append] at h ⊢
        rw [List.length_append, List.length_singleton] at h
        have hr : r'.length = n := by omega
        rw [List.sum_append, Rat.intCast_add, ih r' hr, sumR]
        have e1 : sumR (fun j => (((r' ++ [x]).getD j 0 : Int) : Rat)) n = sumR (fun j => ((r'.getD j 0 : Int) : Rat)) n := sumR_congr fun i hi => by
          have : (r' ++ [x]).getD i 0 = r'.getD i 0 := by
            simp only [List.getD]
            rw [List.getElem?_append_left (by omega)]
          rw [this]
        have e2 : (r' ++ [x]).getD n 0 = x := by
          simp only [List.getD]
          rw [List.getElem?_append_right (by omega), hr, Nat.sub_self]
          rfl
        rw [e1, e2]
        simp
  exact key r _ rfl
theorem Chn.sumR1 {M : List (List Int)} (C : Chn M) {s : Nat} (hs : s < M.length) : ((sm1 M s : Int) : Rat) = sumR (fun j => ((wt M s j : Int) : Rat)) M.length := by
  unfold sm1
  rw [sum_sumR, C.rowlen hs]
  rfl
theorem sm1_ne {M : List (List Int)} (C : Chn M) {s : Nat} (hs : s < M.length) : ((sm1 M s : Int) : Rat) ≠ 0 := by
  have := (C.at1 hs).1
  intro z
  have : sm1 M s = 0 := by exact_mod_cast z
  omega
theorem sumR_sub (f g : Nat → Rat) (n : Nat) : sumR (fun i => f i - g i) n = sumR f n - sumR g n := by
  have : sumR (fun i => f i - g i) n = sumR (fun i => f i + (-1) * g i) n := sumR_congr fun i _ => by grind
  rw [this, sumR_add, sumR_mul]
  grind
theorem sumR_dl (x : Nat → Rat) {n s : Nat} (hs : s < n) : sumR (fun j => dl j s * x j) n = x s := by
  rw [sumR_one (k := s) hs fun i _ hne => by unfold dl; rw [if_neg hne]; grind]
  unfold dl
  rw [if_pos rfl]
  grind
/-! ### the greatest is found at a known state -/
theorem sumR_nn {f : Nat → Rat} : ∀ {n : Nat}, (∀ i, i < n → 0 ≤ f i) → 0 ≤ sumR f n
  | 0, _ => by simp only [sumR]; exact Rat.le_refl
  | n + 1, h => by
    have h1 := sumR_nn (f := f) (n := n) fun i hi => h i (by omega)
    have h2 := h n (by omega)
    rw [sumR]
    grind
theorem sumR_nz {f : Nat → Rat} : ∀ {n : Nat}, (∀ i, i < n → 0 ≤ f i) → sumR f n = 0 → ∀ i, i < n → f i = 0
  | 0, _, _, i, hi => by omega
  | n + 1, h, e, i, hi => by
    have h1 := sumR_nn (f := f) (n := n) fun i hi => h i (by omega)
    have h2 := h n (by omega)
    rw [sumR] at e
    by_cases q : i = n
    · subst q
      grind
    · exact sumR_nz (f := f) (n := n) (fun i hi => h i (by omega)) (by grind) i (by omega)
theorem max_ex (f : Nat → Rat) : ∀ {n : Nat}, 1 ≤ n → ∃ i, i < n ∧ ∀ j, j < n → f j ≤ f i
  | 0, h => by omega
  | n + 1, _ => by
    by_cases h0 : n = 0
    · subst h0
      exact ⟨0, by omega, fun j hj => by have : j = 0 := by omega
                                         subst this; exact Rat.le_refl⟩
    · obtain ⟨i, hi, hm⟩ := max_ex f (n := n) (by omega)
      by_cases c : f i ≤ f n
      · refine ⟨n, by omega, fun j hj => ?_⟩
        by_cases q : j = n
        · subst q; exact Rat.le_refl
        · have := hm j (by omega)
          grind
      · refine ⟨i, by omega, fun j hj => ?_⟩
        by_cases q : j = n
        · subst q; grind
        · exact hm j (by omega)
/-- a mean that is not below its greatest item is made of it alone -/
theorem mean_all {M : List (List Int)} (C : Chn M) {s : Nat} (hs : s < M.length) {x : Nat → Rat} {X : Rat} (hX : ∀ j, j < M.length → x j ≤ X) (h : ((sm1 M s : Int) : Rat) * X ≤ sumR (fun j => ((wt M s j : Int) : Rat) * x j) M.length) : ∀ j, j < M.length → 0 < wt M s j → x j = X := by
  have w0 : ∀ j, (0 : Rat) ≤ ((wt M s j : Int) : Rat) := fun j => by exact_mod_cast ((C.at1 hs).2.2 j).1
  have e : sumR (fun j => ((wt M s j : Int) : Rat) * (X - x j)) M.length = ((sm1 M s : Int) : Rat) * X - sumR (fun j => ((wt M s j : Int) : Rat) * x j) M.length := by
    rw [C.sumR1 hs]
    have : X * sumR (fun j => ((wt M s j : Int) : Rat)) M.length = sumR (fun j => X * ((wt M s j : Int) : Rat)) M.length := (sumR_mul X _ _).symm
    rw [Rat.mul_comm _ X, this, ← sumR_sub]
    exact sumR_congr fun j _ => by grind
  have nn : ∀ j, j < M.length → 0 ≤ ((wt M s j : Int) : Rat) * (X - x j) := fun j hj => Rat.mul_nonneg (w0 j) (by have := hX j hj; grind)
  have hz : sumR (fun j => ((wt M s j : Int) : Rat) * (X - x j)) M.length = 0 := by
    have := sumR_nn nn
    grind
  intro j hj hp
  have := sumR_nz nn hz j hj
  rcases Rat.mul_eq_zero.mp this with z | z
  · have : wt M s j = 0 := by exact_mod_cast z
    omega
  · grind
/-- from s some known state can be reached -/
def Goes (M : List (List Int)) (kn : Nat → Option Rat) : Prop := ∀ s, s < M.length → kn s = none → ∃ t, Rc M (fun _ => false) s t ∧ kn t ≠ none
end Mp
/-! EqFit: == of values with themselves. -/
namespace Mp
open PySem PySem.Spec PyProof.Rows L2
def eqFit : Nat → D → Bool
  | _, .int _ => true
  | _, .bl _ => true
  | _, .non => true
  | _, .str z => PyData.strOk z
  | n + 1, .tup xs => xs.all (eqFit n)
  | n + 1, .lst xs => xs.all (eqFit n)
  | n + 1, .scr xs => xs.all (eqFit n)
  | _, _ => false
end Mp
namespace Mp
open PySem PySem.Spec PyProof.Rows L2
/-! ### mirrors: Pol -/
def m_law_policy_c1 : SE :=
  (eCall m_law_take (aCons (eVar 0) (aCons (eVar 1) (aCons (eCB lenF (aCons (eVar 3) aNil)) aNil))))
/-- _law_policy: row 0, spot 1, model 2, choices 3 -/
def m_law_policy : Fn := runB 4
  (sRet (eCB tupleF (aCons (eLc (iSeq (eVar 2)) (.n 3) [3] (fun _ h => .ok true h) m_law_policy_c1) aNil)))
def m_law_gain_l1 : SS :=
  (sSeq (sSet 9 (eCall (m_law_red 24) (aCons (eOp ixF (eVar 6) (eVar 8)) (aCons (eCB sumA (aCons (eVar 6) aNil)) aNil))))
      (sDrop (eBM "list" appF (eVar 7) (aCons (eCall m_law_sub (aCons (eIf (bEx (eOp eqF (eVar 8) (eVar 4))) (eTup (aCons (eC (.int 1)) (aCons (eC (.int 1)) aNil))) (eTup (aCons (eC (.int 0)) (aCons (eC (.int 1)) aNil)))) (aCons (eVar 9) aNil))) aNil))))
def m_law_gain_l2 : SS :=
  (sSeq (sSet 5 (eOp ixF (eOp ixF (eOp ixF (eVar 0) (eVar 4)) (eOp ixF (eVar 1) (eVar 4))) (eC (.int 0))))
    (sSeq (sSet 6 (eOp ixF (eOp ixF (eOp ixF (eVar 0) (eVar 4)) (eOp ixF (eVar 1) (eVar 4))) (eC (.int 1))))
    (sSeq (sSet 7 (eCell (aCons (eTup (aCons (eC (.int 1)) (aCons (eC (.int 1)) aNil))) aNil)))
    (sSeq (sFor (iRg2 (aCons (eC (.int 1)) (aCons (eVar 3) aNil))) (.n 8)
      m_law_gain_l1)
    (sDrop (eBM "list" appF (eVar 2) (aCons (eOp addF (eVar 7) (eLst (aCons (eTup (aCons (eVar 5) (aCons (eC (.int 1)) aNil))) aNil))) aNil)))))))
/-- _law_gain: model 0, policy 1, rows 2, many 3, s 4, cost 5, weights 6, one 7, j 8, share 9, found 10 -/
def m_law_gain : Fn := runB 11
  (sSeq (sSet 2 (eCell aNil))
  (sSeq (sSet 3 (eCB lenF (aCons (eVar 0) aNil)))
  (sSeq (sFor (iRg1 (aCons (eVar 3) aNil)) (.n 4)
    m_law_gain_l2)
  (sSeq (sSet 10 (eCall m_law_solve (aCons (eVar 2) aNil)))
  (sRet (eTup (aCons (eOp ixF (eVar 10) (eC (.int 0))) (aCons (eCB tupleF (aCons (eOp addF (eLst (aCons (eTup (aCons (eC (.int 0)) (aCons (eC (.int 1)) aNil))) aNil)) (eSl slF (eVar 10) (some (eC (.int 1))) none)) aNil)) aNil))))))))
def m_is_policy_c1 : SE :=
  (eAnd (eCall m_is_integer (aCons (eVar 1) aNil)) (eOp geF (eVar 1) (eC (.int 0))))
/-- is_policy: policy 0, at 1 -/
def m_is_policy : Fn := runB 2
  (sRet (eAnd (eCall m_is_sequence (aCons (eVar 0) aNil)) (eCB allF (aCons (eLc (iSeq (eVar 0)) (.n 1) [1] (fun _ h => .ok true h) m_is_policy_c1) aNil))))
def m_fits_c1 : SE :=
  (eOp ltF (eVar 3) (eCB lenF (aCons (eVar 2) aNil)))
/-- fits: model 0, policy 1, choices 2, at 3 -/
def m_fits : Fn := runB 4
  (sSeq (sIf (bEx (eOp neF (eCB lenF (aCons (eVar 1) aNil)) (eCB lenF (aCons (eVar 0) aNil))))
    (sRet (eC (.bl false)))
    sNext)
  (sRet (eCB allF (aCons (eLc (iZip (aCons (eVar 0) (aCons (eVar 1) aNil))) (.t ((.n 2) :: ((.n 3) :: []))) [2, 3] (fun _ h => .ok true h) m_fits_c1) aNil))))
/-- check_policy: model 0, policy 1 -/
def m_check_policy : Fn := runB 2
  (sSeq (sIf (bNot (bTru (eCall m_is_model (aCons (eVar 0) aNil))))
    (sRaise "BadValue" ["at"] (aCons (eC (.int 0)) aNil))
    sNext)
  (sIf (bOr (bNot (bTru (eCall m_is_policy (aCons (eVar 1) aNil)))) (bNot (bTru (eCall m_fits (aCons (eVar 0) (aCons (eVar 1) aNil))))))
    (sRaise "BadValue" ["at"] (aCons (eC (.int 1)) aNil))
    sNext))
def m_equation_c1 : SE :=
  (eUn negF (eVar 6))
/-- equation: choice 0, state 1, cost 2, weights 3, whole 4, row 5, weight 6 -/
def m_equation : Fn := runB 7
  (sSeq (sAsg (.t ((.n 2) :: ((.n 3) :: []))) (eVar 0))
  (sSeq (sSet 4 (eCB sumA (aCons (eVar 3) aNil)))
  (sSeq (sSet 5 (eOp addC (eLst (aCons (eVar 4) aNil)) (eLc (iSeq (eSl slF (eVar 3) (some (eC (.int 1))) none)) (.n 6) [6] (fun _ h => .ok true h) m_equation_c1)))
  (sSeq (sIf (bEx (eOp gtF (eVar 1) (eC (.int 0))))
    (sAugS ixlF addI setF (eVar 5) (eVar 1) (eVar 4))
    sNext)
  (sRet (eOp addF (eVar 5) (eLst (aCons (eOp mulF (eVar 4) (eVar 2)) aNil))))))))
def m_settled_c1 : SE :=
  (eOp ixF (eVar 4) (eVar 5))
def m_settled_c2 : SE :=
  (eCall m_equation (aCons (eVar 7) (aCons (eVar 6) aNil)))
/-- settled: model 0, policy 1, chosen 2, found 3, choices 4, at 5, state 6, choice 7 -/
def m_settled : Fn := runB 8
  (sSeq (sSet 2 (eLc (iZip (aCons (eVar 0) (aCons (eVar 1) aNil))) (.t ((.n 4) :: ((.n 5) :: []))) [4, 5] (fun _ h => .ok true h) m_settled_c1))
  (sSeq (sSet 3 (eCall m_solved (aCons (eLc (iEnu (aCons (eVar 2) aNil)) (.t ((.n 6) :: ((.n 7) :: []))) [6, 7] (fun _ h => .ok true h) m_settled_c2) aNil)))
  (sRet (eTup (aCons (eOp ixF (eVar 3) (eC (.int 0))) (aCons (eOp addF (eTup (aCons (eTup (aCons (eC (.int 0)) (aCons (eC (.int 1)) aNil))) aNil)) (eSl slF (eVar 3) (some (eC (.int 1))) none)) aNil))))))
/-- gain: model 0, policy 1 -/
def m_gain : Fn := runB 2
  (sSeq (sDrop (eCall m_check_policy (aCons (eVar 0) (aCons (eVar 1) aNil))))
  (sRet (eOp ixF (eCall m_settled (aCons (eVar 0) (aCons (eVar 1) aNil))) (eC (.int 0)))))
/-- numbers: model 0, policy 1 -/
def m_numbers : Fn := runB 2
  (sSeq (sDrop (eCall m_check_policy (aCons (eVar 0) (aCons (eVar 1) aNil))))
  (sRet (eOp ixF (eCall m_settled (aCons (eVar 0) (aCons (eVar 1) aNil))) (eC (.int 1)))))
end Mp
/-! PolA: the gain and the numbers of a policy, and the days spent in each state. -/
namespace Mp
open PySem PySem.Spec PyProof.Rows L2
def PM (CH : List Chc) : List (List Int) := CH.map Prod.snd
def cst (CH : List Chc) (s : Nat) : Int := (CH.getD s (0, [])).1
structure ChsOk (CH : List Chc) : Prop where
  lo : 1 ≤ CH.length
  hi : CH.length ≤ 5
  ok : ∀ x ∈ CH, ChcOk CH.length x
theorem PM_len (CH : List Chc) : (PM CH).length = CH.length := by unfold PM; rw [List.length_map]
theorem ChsOk.chn {CH : List Chc} (C : ChsOk CH) : Chn (PM CH) := by
  refine ⟨by rw [PM_len]; exact C.lo, by rw [PM_len]; exact C.hi, fun r hr => ?_⟩
  obtain ⟨x, hx, rfl⟩ := List.mem_map.mp hr
  have k := C.ok x hx
  exact ⟨by rw [PM_len]; exact k.len, (k.sum C.hi).1, k.w⟩
theorem ChsOk.at {CH : List Chc} (C : ChsOk CH) {s : Nat} (hs : s < CH.length) : 0 ≤ cst CH s ∧ cst CH s ≤ 1000 ∧ 1 ≤ wt (PM CH) s 0 := by
  have e : CH.getD s (0, []) = CH[s] := by simp [List.getD, hs]
  have k := C.ok _ (List.getElem_mem hs)
  have e2 : (PM CH).getD s [] = (CH[s]).2 := by unfold PM; simp [List.getD, hs]
  unfold cst wt
  rw [e, e2]
  exact ⟨k.c.1, k.c.2, k.one⟩
/-- the law's lines: the gain, and behind it the numbers of the states from 1 on -/
def gR (CH : List Chc) : Mx := fun s c => if c = CH.length then ((cst CH s : Int) : Rat) else if c = 0 then 1 else dl c s - shQ (PM CH) s c
def hh (x : Nat → Rat) (j : Nat) : Rat := if j = 0 then 0 else x j
theorem g_sat {CH : List Chc} (C : ChsOk CH) {t : Rat} {s : Nat} (hs : s < CH.length) (x : Nat → Rat) : satL CH.length t (gR CH s) x ↔ ((sm1 (PM CH) s : Int) : Rat) * (x 0 + hh x s) = sumR (fun j => ((wt (PM CH) s j : Int) : Rat) * hh x j) CH.length + t * ((cst CH s : Int) : Rat) * ((sm1 (PM CH) s : Int) : Rat) := by
  have h0 := sm1_ne C.chn (s := s) (by rw [PM_len]; exact hs)
  have lo := C.lo
  unfold satL dotM
  have e : sumR (fun j => gR CH s j * x j) CH.length = x 0 + hh x s - 1 / ((sm1 (PM CH) s : Int) : Rat) * sumR (fun j => ((wt (PM CH) s j : Int) : Rat) * hh x j) CH.length := by
    have e1 : sumR (fun j => if j = 0 then x 0 else 0) CH.length = x 0 := by
      rw [sumR_one (k := 0) (by omega) fun i _ hne => by rw [if_neg hne]]
      simp
    rw [← sumR_dl (hh x) hs, ← sumR_mul]
    have e2 : x 0 + sumR (fun j => dl j s * hh x j) CH.length = sumR (fun j => (if j = 0 then x 0 else 0) + dl j s * hh x j) CH.length := by rw [sumR_add, e1]
    rw [e2, ← sumR_sub]
    exact sumR_congr fun j hj => by
      unfold gR shQ hh
      rw [if_neg (by omega)]
      by_cases z : j = 0
      · subst z
        simp only [if_true]
        grind
      · simp only [z, if_false]
        grind
  rw [e]
  have e3 : gR CH s CH.length = ((cst CH s : Int) : Rat) := by unfold gR; rw [if_pos rfl]
  rw [e3]
  generalize ((sm1 (PM CH) s : Int) : Rat) = S at *
  generalize sumR (fun j => ((wt (PM CH) s j : Int) : Rat) * hh x j) CH.length = Z
  generalize x 0 + hh x s = Y
  generalize ((cst CH s : Int) : Rat) = K
  constructor
  · intro h
    have : Y = t * K + 1 / S * Z := by grind
    rw [this]
    grind
  · intro h
    have : Y = (Z + t * K * S) / S := by grind
    rw [this]
    grind
/-- a mean is not above what nothing is above -/
theorem mean_le {M : List (List Int)} (C : Chn M) {s : Nat} (hs : s < M.length) {x : Nat → Rat} {X : Rat} (hX : ∀ j, j < M.length → x j ≤ X) : sumR (fun j => ((wt M s j : Int) : Rat) * x j) M.length ≤ ((sm1 M s : Int) : Rat) * X := by
  have w0 : ∀ j, (0 : Rat) ≤ ((wt M s j : Int) : Rat) := fun j => by exact_mod_cast ((C.at1 hs).2.2 j).1
  have e : sumR (fun j => ((wt M s j : Int) : Rat) * (X - x j)) M.length = ((sm1 M s : Int) : Rat) * X - sumR (fun j => ((wt M s j : Int) : Rat) * x j) M.length := by
    rw [C.sumR1 hs]
    have : X * sumR (fun j => ((wt M s j : Int) : Rat)) M.length = sumR (fun j => X * ((wt M s j : Int) : Rat)) M.length := (sumR_mul X _ _).symm
    rw [Rat.mul_comm _ X, this, ← sumR_sub]
    exact sumR_congr fun j _ => by grind
  have nn : ∀ j, j < M.length → 0 ≤ ((wt M s j : Int) : Rat) * (X - x j) := fun j hj => Rat.mul_nonneg (w0 j) (by have := hX j hj; grind)
  have := sumR_nn nn
  grind
/-- what is nowhere above its mean plus a number g not above 0 .. -/
theorem g_top {CH : List Chc} (C : ChsOk CH) {h : Nat → Rat} (h0 : h 0 = 0) {g : Rat} (e : ∀ s, s < CH.length → ((sm1 (PM CH) s : Int) : Rat) * (g + h s) = sumR (fun j => ((wt (PM CH) s j : Int) : Rat) * h j) CH.length) : g ≤ 0 ∧ (g = 0 → ∀ j, j < CH.length → h j ≤ 0) := by
  obtain ⟨s, hs, hm⟩ := max_ex h C.lo
  have hs' : s < (PM CH).length := by rw [PM_len]; exact hs
  have hm' : ∀ j, j < (PM CH).length → h j ≤ h s := fun j hj => hm j (by rw [PM_len] at hj; exact hj)
  have a1 := mean_le C.chn hs' hm'
  rw [PM_len, ← e s hs] at a1
  have p : (0 : Rat) < ((sm1 (PM CH) s : Int) : Rat) := by exact_mod_cast (C.chn.at1 hs').1
  refine ⟨?_, fun hg j hj => ?_⟩
  · have a2 : ((sm1 (PM CH) s : Int) : Rat) * g ≤ 0 := by
      have : ((sm1 (PM CH) s : Int) : Rat) * (g + h s) = ((sm1 (PM CH) s : Int) : Rat) * g + ((sm1 (PM CH) s : Int) : Rat) * h s := by grind
      grind
    by_cases c : g ≤ 0
    · exact c
    · exfalso
      have := Rat.mul_pos p (Rat.not_le.mp c)
      grind
  · have a3 := mean_all C.chn hs' (x := h) (X := h s) hm' (by
      rw [PM_len, ← e s hs, hg]
      have : (0 : Rat) + h s = h s := by grind
      rw [this]
      exact Rat.le_refl) 0 (by rw [PM_len]; exact C.lo) (by have := (C.at hs).2.2; omega)
    have := hm j hj
    grind
theorem g_ns {CH : List Chc} (C : ChsOk CH) : NSing CH.length (gR CH) := by
  intro x hx
  have e : ∀ s, s < CH.length → ((sm1 (PM CH) s : Int) : Rat) * (x 0 + hh x s) = sumR (fun j => ((wt (PM CH) s j : Int) : Rat) * hh x j) CH.length := fun s hs => by
    have := (g_sat C hs x).mp (hx s hs)
    rw [this]
    grind
  have e' : ∀ s, s < CH.length → ((sm1 (PM CH) s : Int) : Rat) * (-(x 0) + -(hh x s)) = sumR (fun j => ((wt (PM CH) s j : Int) : Rat) * -(hh x j)) CH.length := fun s hs => by
    have e1 : sumR (fun j => ((wt (PM CH) s j : Int) : Rat) * -(hh x j)) CH.length = (-1) * sumR (fun j => ((wt (PM CH) s j : Int) : Rat) * hh x j) CH.length := by
      rw [← sumR_mul]
      exact sumR_congr fun j _ => by grind
    rw [e1, ← e s hs]
    grind
  obtain ⟨a1, a2⟩ := g_top C (h := hh x) rfl e
  obtain ⟨b1, b2⟩ := g_top C (h := fun j => -(hh x j)) (by show -(hh x 0) = 0; unfold hh; simp) e'
  have z : x 0 = 0 := by grind
  have z' : -(x 0) = 0 := by grind
  intro j hj
  by_cases q : j = 0
  · subst q; exact z
  · have c1 := a2 z j hj
    have c2 : -(hh x j) ≤ 0 := b2 z' j hj
    unfold hh at c1 c2
    rw [if_neg q] at c1 c2
    grind
/-- the law's other lines: the days in each state -/
def dR (CH : List Chc) : Mx := fun j s => if j = 0 then 1 else if s = CH.length then 0 else shQ (PM CH) s j - dl s j
/-! ### sizes -/
theorem g_qs {CH : List Chc} (C : ChsOk CH) : ∀ s c, s < CH.length → c ≤ CH.length → qs 10 (gR CH s c) := by
  intro s c hs hc
  have hs' : s < (PM CH).length := by rw [PM_len]; exact hs
  obtain ⟨p1, p2, p3⟩ := C.chn.at1 hs'
  obtain ⟨c0, c1, _⟩ := C.at hs
  unfold gR
  split
  · exact qs_int (by omega) (by decide)
  · split
    · exact ⟨by decide, by decide⟩
    · obtain ⟨w0, w9⟩ := p3 c
      have h0 := sm1_ne C.chn hs'
      have e : dl c s - shQ (PM CH) s c = (((if c = s then sm1 (PM CH) s else 0) - wt (PM CH) s c : Int) : Rat) / ((sm1 (PM CH) s : Int) : Rat) := by
        unfold dl shQ
        rw [Rat.intCast_sub]
        split
        · generalize ((sm1 (PM CH) s : Int) : Rat) = S at *
          grind
        · have : ((0 : Int) : Rat) = 0 := rfl
          rw [this]
          grind
      rw [e]
      refine qs_div (by omega) ?_ (by omega)
      split <;> omega
/-! ### the program's lines -/
def eqW (CH : List Chc) : Wk := fun s => sm1 (PM CH) s :: ((List.range' 1 (CH.length - 1)).map fun c => (if c = s then sm1 (PM CH) s else 0) - wt (PM CH) s c) ++ [sm1 (PM CH) s * cst CH s]
theorem eqW_len {CH : List Chc} (lo : 1 ≤ CH.length) (s : Nat) : (eqW CH s).length = CH.length + 1 := by
  unfold eqW
  simp
  omega
theorem eqW_at {CH : List Chc} (C : ChsOk CH) {s c : Nat} (hs : s < CH.length) (hc : c ≤ CH.length) : mxW (eqW CH) s c = ((sm1 (PM CH) s : Int) : Rat) * gR CH s c := by
  have lo := C.lo
  have h0 := sm1_ne C.chn (s := s) (by rw [PM_len]; exact hs)
  unfold mxW eqW gR
  by_cases q : c = CH.length
  · subst q
    rw [if_pos rfl]
    have : (sm1 (PM CH) s :: ((List.range' 1 (CH.length - 1)).map fun c => (if c = s then sm1 (PM CH) s else 0) - wt (PM CH) s c) ++ [sm1 (PM CH) s * cst CH s]).getD CH.length 0 = sm1 (PM CH) s * cst CH s := by
      simp only [List.getD]
      rw [List.getElem?_append_right (by simp; omega)]
      simp
      have : CH.length - (CH.length - 1 + 1) = 0 := by omega
      rw [this]
      rfl
    rw [this, Rat.intCast_mul]
  · rw [if_neg q]
    by_cases z : c = 0
    · subst z
      rw [if_pos rfl]
      simp [List.getD]
    · rw [if_neg z]
      obtain ⟨d, rfl⟩ : ∃ d, c = d + 1 := ⟨c - 1, by omega⟩
      have : (sm1 (PM CH) s :: ((List.range' 1 (CH.length - 1)).map fun c => (if c = s then sm1 (PM CH) s else 0) - wt (PM CH) s c) ++ [sm1 (PM CH) s * cst CH s]).getD (d + 1) 0 = (if d + 1 = s then sm1 (PM CH) s else 0) - wt (PM CH) s (d + 1) := by
        simp only [List.getD]
        rw [List.getElem?_append_left (by simp; omega), List.getElem?_cons_succ, List.getElem?_map, List.getElem?_range' (by omega)]
        have : 1 + 1 * d = d + 1 := by omega
        rw [this]
        rfl
      rw [this, Rat.intCast_sub]
      unfold dl shQ
      generalize ((wt (PM CH) s (d + 1) : Int) : Rat) = w
      split
      · generalize ((sm1 (PM CH) s : Int) : Rat) = S at *
        grind
      · have : ((0 : Int) : Rat) = 0 := rfl
        rw [this]
        generalize ((sm1 (PM CH) s : Int) : Rat) = S at *
        grind
theorem eqW_sat {CH : List Chc} (C : ChsOk CH) {t : Rat} {x : Nat → Rat} : satM CH.length t (mxW (eqW CH)) x ↔ satM CH.length t (gR CH) x := by
  have key : ∀ s, s < CH.length → (satL CH.length t (mxW (eqW CH) s) x ↔ satL CH.length t (gR CH s) x) := fun s hs => sat_scale (sm1_ne C.chn (s := s) (by rw [PM_len]; exact hs)) fun c hc => eqW_at C hs hc
  exact ⟨fun h s hs => (key s hs).mp (h s hs), fun h s hs => (key s hs).mpr (h s hs)⟩
theorem eqW_ns {CH : List Chc} (C : ChsOk CH) : NSing CH.length (mxW (eqW CH)) := fun x hx => g_ns C x ((eqW_sat C).mp hx)
theorem eqW_ok {CH : List Chc} (C : ChsOk CH) : WOkk CH.length 16 (eqW CH) := by
  have lo := C.lo
  refine ⟨fun i _ => eqW_len lo i, fun s hs x hx => ?_⟩
  obtain ⟨p1, p2, p3⟩ := C.chn.at1 (s := s) (by rw [PM_len]; exact hs)
  obtain ⟨c0, c1, _⟩ := C.at hs
  unfold eqW at hx
  rcases List.mem_append.mp hx with hx | hx
  · rcases List.mem_cons.mp hx with rfl | hx
    · omega
    · obtain ⟨c, _, rfl⟩ := List.mem_map.mp hx
      obtain ⟨w0, w9⟩ := p3 c
      split <;> omega
  · have e : x = sm1 (PM CH) s * cst CH s := by simpa using hx
    rw [e, Int.natAbs_mul]
    have a1 : (sm1 (PM CH) s).natAbs ≤ 45 := by omega
    have a2 : (cst CH s).natAbs ≤ 1000 := by omega
    have := Nat.mul_le_mul a1 a2
    omega
end Mp
/-! PolB: the program's side of a policy. -/
namespace Mp
open PySem PySem.Spec PyProof.Rows L2
theorem slF_tl (x : D) (xs : List D) (h : Hc) : slF (.lst (x :: xs)) (some 1) none h = .ok (.lst xs) h := by
  have z : cutD (x :: xs) (some 1) none = (x :: xs).drop 1 := cutD_drop (x :: xs) 1
  have e : slF (.lst (x :: xs)) (some 1) none h = .ok (.lst (cutD (x :: xs) (some 1) none)) h := by rfl
  rw [e, z]
  rfl
theorem slF_tlt (x : D) (xs : List D) (h : Hc) : slF (.tup (x :: xs)) (some 1) none h = .ok (.tup xs) h := by
  have z : cutD (x :: xs) (some 1) none = (x :: xs).drop 1 := cutD_drop (x :: xs) 1
  have e : slF (.tup (x :: xs)) (some 1) none h = .ok (.tup (cutD (x :: xs) (some 1) none)) h := by rfl
  rw [e, z]
  rfl
theorem slF_tls (b : Bool) (x : D) (xs : List D) (h : Hc) : slF (sqs b (x :: xs)) (some 1) none h = .ok (sqs b xs) h := by
  cases b
  · exact slF_tlt x xs h
  · exact slF_tl x xs h
/-- a policy's choices -/
def chs (Md : List (List Chc)) (P : List Nat) : List Chc := (Md.zip P).map fun z => z.1.getD z.2 (0, [])
structure PoOk (Md : List (List Chc)) (P : List Nat) : Prop where
  len : P.length = Md.length
  fit : ∀ z ∈ Md.zip P, z.2 < z.1.length
theorem chs_len {Md : List (List Chc)} {P : List Nat} (O : PoOk Md P) : (chs Md P).length = Md.length := by
  unfold chs
  rw [List.length_map, List.length_zip, O.len, Nat.min_self]
theorem chs_ok {Md : List (List Chc)} (C : MdOk Md) {P : List Nat} (O : PoOk Md P) : ChsOk (chs Md P) := by
  have hl := chs_len O
  refine ⟨by rw [hl]; exact C.lo, by rw [hl]; exact C.hi, fun x hx => ?_⟩
  rw [hl]
  obtain ⟨z, hz, rfl⟩ := List.mem_map.mp hx
  have h1 : z.1 ∈ Md := (List.of_mem_zip hz).1
  have h2 := O.fit z hz
  have : z.1.getD z.2 (0, []) = z.1[z.2] := by simp [List.getD, h2]
  rw [this]
  exact (C.st _ h1).2.2 _ (List.getElem_mem h2)
theorem is_policy_ok (c : Bool) {P : List Nat} (hl : P.length ≤ 1000) (h : Hc) : callL m_is_policy [sq c (iN P)] h = .ok (.bl true) h := by
  have e1 := fun h => is_seq_sqs c (xs := (iN P).map D.int) (by simp) h
  have eq : sqs c ((iN P).map D.int) = sq c (iN P) := by cases c <;> rfl
  rw [eq] at e1
  have e2 := lcR_two (chk := fun _ => true) (p := .n 1) (own := [1]) (m := m_is_policy_c1) (ds := [some (sq c (iN P)), none]) (h := []) rfl ((iN P).map D.int) ((P.map fun _ => true).map D.bl) [] (by simp [iN]; omega) (by
    unfold iN
    rw [List.map_map, List.map_map]
    refine All2.map fun x hx => ⟨_, bindP_n .., ?_⟩
    have h0 : (0 : Int) ≤ (x : Int) := by omega
    show m_is_policy_c1 _ _ = R.ok (D.bl true) _
    simp [m_is_policy_c1, is_integer_int, h0])
  have e3 := fun h => all_true P h
  refine call_flat (h' := []) (by simp) ?_ (by simp) h
  unfold m_is_policy
  rw [runB_s]
  simp only [List.nil_append] at e2
  generalize (P.map fun _ => true).map D.bl = BL at *
  simp [e1, e2, e3]
theorem fits_ok (b c : Bool) {Md : List (List Chc)} (C : MdOk Md) {P : List Nat} (O : PoOk Md P) (h : Hc) : callL m_fits [mdD b Md, sq c (iN P)] h = .ok (.bl true) h := by
  have l5 := C.hi
  have hl := O.len
  have lm : ∀ h, lenF [mdD b Md] h = .ok (.int (Md.length : Int)) h := fun h => by simp [mdD]
  have lp : ∀ h, lenF [sq c (iN P)] h = .ok (.int (Md.length : Int)) h := fun h => by rw [len_sq, iN_len, hl]
  have ez : ∀ h, zpF [mdD b Md, sq c (iN P)] h = .ok ⟨(Md.zip P).map fun z => D.tup [stD b z.1, .int (z.2 : Int)], fun _ => true⟩ h := fun h => by
    have eq : sq c (iN P) = sqs c (P.map fun (k : Nat) => D.int (k : Int)) := by cases c <;> simp [sqs, sq, iN] <;> rfl
    rw [eq]
    have := zpF_sqs b c (Md.map (stD b)) (P.map fun (k : Nat) => D.int (k : Int)) h
    have e2 : zipD (Md.map (stD b)) (P.map fun (k : Nat) => D.int (k : Int)) = (Md.zip P).map fun z => D.tup [stD b z.1, .int (z.2 : Int)] := by
      have q := zipD_map (fun z : List Chc × Nat => stD b z.1) (fun z => D.int (z.2 : Int)) (Md.zip P)
      have a1 : (Md.zip P).map (fun z => stD b z.1) = Md.map (stD b) := by
        rw [show (fun z : List Chc × Nat => stD b z.1) = stD b ∘ Prod.fst from rfl, ← List.map_map, List.map_fst_zip (by omega)]
      have a2 : (Md.zip P).map (fun z => D.int (z.2 : Int)) = P.map fun (k : Nat) => D.int (k : Int) := by
        rw [show (fun z : List Chc × Nat => D.int (z.2 : Int)) = (fun (k : Nat) => D.int (k : Int)) ∘ Prod.snd from rfl, ← List.map_map, List.map_snd_zip (by omega)]
      rw [a1, a2] at q
      exact q
    rw [e2] at this
    exact this
  have e1 := lcR_two (chk := fun _ => true) (p := .t ((.n 2) :: ((.n 3) :: []))) (own := [2, 3]) (m := m_fits_c1) (ds := [some (mdD b Md), some (sq c (iN P)), none, none]) (h := []) rfl ((Md.zip P).map fun z => D.tup [stD b z.1, .int (z.2 : Int)]) (((Md.zip P).map fun _ => true).map D.bl) [] (by simp; omega) (by
    rw [List.map_map]
    refine All2.map fun z hz => ⟨_, by simp [wipeD]; rfl, ?_⟩
    have hf : (z.2 : Int) < (z.1.length : Int) := by have := O.fit z hz; omega
    have ls : ∀ h, lenF [stD b z.1] h = .ok (.int (z.1.length : Int)) h := fun h => by simp [stD]
    generalize stD b z.1 = SD at *
    simp [m_fits_c1, ls, hf])
  have e3 := fun h => all_true (Md.zip P) h
  refine call_flat (h' := []) (by simp) ?_ (by simp) h
  unfold m_fits
  rw [runB_s]
  simp only [List.nil_append] at e1
  generalize ((Md.zip P).map fun _ => true).map D.bl = BL at *
  generalize ((Md.zip P).map fun z => D.tup [stD b z.1, .int (z.2 : Int)]) = ZZ at *
  generalize mdD b Md = MD at *
  generalize sq c (iN P) = PD at *
  simp [lm, lp, iZip, ez, e1, e3]
/-! ### the equation of a state -/
def nW (CH : List Chc) (s : Nat) : List Int := sm1 (PM CH) s :: (List.range' 1 (CH.length - 1)).map fun c => (if c = s then sm1 (PM CH) s else 0) - wt (PM CH) s c
def xW (CH : List Chc) (s : Nat) : List Int := sm1 (PM CH) s :: ((PM CH).getD s []).tail.map fun x => -x
theorem eqW_nW (CH : List Chc) (s : Nat) : eqW CH s = nW CH s ++ [sm1 (PM CH) s * cst CH s] := rfl
theorem xW_get {CH : List Chc} (C : ChsOk CH) {s : Nat} (hs : s < CH.length) (d : Nat) : (xW CH s)[d + 1]? = if d + 1 < CH.length then some (-(wt (PM CH) s (d + 1))) else none := by
  have hl : ((PM CH).getD s []).length = CH.length := by rw [C.chn.rowlen (s := s) (by rw [PM_len]; exact hs), PM_len]
  unfold xW wt
  rw [List.getElem?_cons_succ, List.getElem?_map, List.getElem?_tail]
  generalize (PM CH).getD s [] = w at *
  split
  · rename_i hd
    rw [List.getElem?_eq_getElem (by omega)]
    simp only [Option.map_some, List.getD]
    rw [List.getElem?_eq_getElem (by omega)]
    rfl
  · rw [List.getElem?_eq_none (by omega)]
    rfl
theorem nW_get {CH : List Chc} {s : Nat} (d : Nat) : (nW CH s)[d + 1]? = if d + 1 < CH.length then some ((if d + 1 = s then sm1 (PM CH) s else 0) - wt (PM CH) s (d + 1)) else none := by
  unfold nW
  rw [List.getElem?_cons_succ, List.getElem?_map]
  split
  · rw [List.getElem?_range' (by omega)]
    have : 1 + 1 * d = d + 1 := by omega
    rw [this]
    rfl
  · rw [List.getElem?_eq_none (by simp; omega)]
    rfl
theorem xW_len {CH : List Chc} (C : ChsOk CH) {s : Nat} (hs : s < CH.length) : (xW CH s).length = CH.length := by
  have hl : ((PM CH).getD s []).length = CH.length := by rw [C.chn.rowlen (s := s) (by rw [PM_len]; exact hs), PM_len]
  unfold xW
  have := C.lo
  rw [List.length_cons, List.length_map, List.length_tail, hl]
  omega
theorem nW_0 {CH : List Chc} (C : ChsOk CH) : xW CH 0 = nW CH 0 := by
  apply List.ext_getElem?
  intro i
  cases i with
  | zero => rfl
  | succ d =>
    rw [xW_get C C.lo, nW_get]
    split
    · rw [if_neg (by omega)]
      congr 1
      omega
    · rfl
theorem nW_set {CH : List Chc} (C : ChsOk CH) {s : Nat} (hs : s + 1 < CH.length) : (xW CH (s + 1)).set (s + 1) (-(wt (PM CH) (s + 1) (s + 1)) + sm1 (PM CH) (s + 1)) = nW CH (s + 1) := by
  apply List.ext_getElem?
  intro i
  rw [List.getElem?_set, xW_len C hs]
  cases i with
  | zero => rw [if_neg (by omega)]; rfl
  | succ d =>
    rw [xW_get C hs, nW_get]
    by_cases q : s + 1 = d + 1
    · have : s = d := by omega
      subst this
      rw [if_pos rfl, if_pos hs, if_pos hs, if_pos rfl]
      congr 1
      omega
    · rw [if_neg q]
      split
      · rw [if_neg (fun z => q z.symm)]
        congr 1
        omega
      · rfl
theorem equation_ok (b : Bool) {CH : List Chc} (C : ChsOk CH) {s : Nat} (hs : s < CH.length) (h : Hc) : callL m_equation [chcD b (CH.getD s (0, [])), .int (s : Int)] h = .ok (rwI (eqW CH s)) h := by
  have lo := C.lo
  have hi := C.hi
  obtain ⟨p1, p2, p3⟩ := C.chn.at1 (s := s) (by rw [PM_len]; exact hs)
  obtain ⟨c0, c1, _⟩ := C.at hs
  have hl : ((PM CH).getD s []).length = CH.length := by rw [C.chn.rowlen (s := s) (by rw [PM_len]; exact hs), PM_len]
  have e2 : (CH.getD s (0, [])).2 = (PM CH).getD s [] := by unfold PM; simp [List.getD, hs]
  have eD : chcD b (CH.getD s (0, [])) = sqs b [.int (cst CH s), sq b ((PM CH).getD s [])] := by rw [← e2]; rfl
  rw [eD]
  obtain ⟨w0, wr, ew⟩ : ∃ w0 wr, (PM CH).getD s [] = w0 :: wr := by
    cases q : (PM CH).getD s [] with
    | nil => rw [q] at hl; simp at hl; omega
    | cons w0 wr => exact ⟨w0, wr, rfl⟩
  have es : ∀ h, sumA [sq b ((PM CH).getD s [])] h = .ok (.int (sm1 (PM CH) s)) h := fun h => sumA_sq b _ h
  have esl : ∀ h, slF (sq b ((PM CH).getD s [])) (some 1) none h = .ok (sq b wr) h := fun h => by
    rw [ew]
    have := slF_tls b (.int w0) (wr.map D.int) h
    cases b <;> exact this
  have lwr : wr.length ≤ 5 := by rw [ew] at hl; simp at hl; omega
  have e1 := fun (h : Hc) (ds : Sl) (hds : ds.length = 7) => lcR_two (chk := fun _ => true) (p := .n 6) (own := [6]) (m := m_equation_c1) (ds := ds) (h := h) rfl (wr.map D.int) ((wr.map fun x => -x).map D.int) [] (by simp; omega) (by
    rw [List.map_map]
    obtain ⟨d0, d1, d2, d3, d4, d5, d6, rfl⟩ : ∃ d0 d1 d2 d3 d4 d5 d6, ds = [d0, d1, d2, d3, d4, d5, d6] := by
      match ds, hds with
      | [d0, d1, d2, d3, d4, d5, d6], _ => exact ⟨d0, d1, d2, d3, d4, d5, d6, rfl⟩
    exact All2.map fun x _ => ⟨_, bindP_n .., by simp [m_equation_c1]⟩)
  simp only [List.nil_append] at e1
  have ex : D.int (sm1 (PM CH) s) :: (wr.map fun x => -x).map D.int = (xW CH s).map D.int := by
    unfold xW
    rw [ew]
    rfl
  have xl := xW_len C hs
  have ad0 : ∀ h : Hc, addC (.lst [.int (sm1 (PM CH) s)]) (.lst ((wr.map fun x => -x).map D.int)) h = .ok (.ref h.length) (h ++ [.lst ((xW CH s).map D.int)]) := fun h => by
    have hlim := lim_eq
    unfold addC
    simp only [lstD]
    rw [if_pos (by simp; omega), ← ex]
    rfl
  have mk : mulOk (sm1 (PM CH) s) (cst CH s) = true := mulOk_l _ _ (by omega) (by omega)
  have ad1 : addF (.ref 0) (.lst [.int (sm1 (PM CH) s * cst CH s)]) [.lst ((nW CH s).map D.int)] = .ok (rwI (eqW CH s)) [.lst ((nW CH s).map D.int)] := by
    have hlim := lim_eq
    unfold addF
    simp only [lstD]
    have hlN : (nW CH s).length ≤ 10 := by unfold nW; simp; omega
    have : ([Mp.C.lst ((nW CH s).map D.int)] : Hc)[0]? = some (.lst ((nW CH s).map D.int)) := rfl
    rw [this]
    simp only
    rw [if_pos (by rw [List.length_map]; simp; omega)]
    unfold rwI
    rw [eqW_nW, List.map_append]
    rfl
  refine call_flat (h' := [.lst ((nW CH s).map D.int)]) (by cases b <;> simp [sqs]) ?_ (by unfold rwI; simp) h
  unfold m_equation
  rw [runB_s]
  have sd : ∀ h, seqD h (sqs b [.int (cst CH s), sq b ((PM CH).getD s [])]) = some [.int (cst CH s), sq b ((PM CH).getD s [])] := fun h => seqD_sqs b _ h
  have swr : ∀ h, seqD h (sq b wr) = some (wr.map D.int) := fun h => seqD_sq b _ h
  have cwr : chkQ (sq b wr) (wr.map D.int) = fun _ => true := chkQ_sq b _
  clear eD
  cases s with
  | zero =>
    rw [← nW_0 C] at ad1 ⊢
    generalize rwI (eqW CH 0) = RI at *
    generalize (xW CH 0).map D.int = XD at *
    generalize (wr.map fun x => -x).map D.int = NW at *
    generalize sq b wr = WR at *
    generalize sqs b [.int (cst CH 0), sq b ((PM CH).getD 0 [])] = X0 at *
    generalize sq b ((PM CH).getD 0 []) = WD at *
    generalize sm1 (PM CH) 0 = S at *
    generalize cst CH 0 = K at *
    simp [sd, es, esl, swr, cwr, e1, ad0, mk, ad1]
  | succ s =>
    have g1 : ixlF (.ref 0) (.int ((s + 1 : Nat) : Int)) [.lst ((xW CH (s + 1)).map D.int)] = .ok (.int (-(wt (PM CH) (s + 1) (s + 1)))) [.lst ((xW CH (s + 1)).map D.int)] := by
      unfold ixlF
      have q : ([Mp.C.lst ((xW CH (s + 1)).map D.int)] : Hc)[0]? = some (.lst ((xW CH (s + 1)).map D.int)) := rfl
      simp only [rdlD, lstD, q]
      rw [atI_nat' (by rw [List.length_map, xl]; exact hs), List.getElem?_map, xW_get C hs, if_pos hs]
      rfl
    have st := setF_ok (n := 0) (xs := (xW CH (s + 1)).map D.int) (h := [.lst ((xW CH (s + 1)).map D.int)]) (i := ((s + 1 : Nat) : Int)) (x := .int (-(wt (PM CH) (s + 1) (s + 1)) + sm1 (PM CH) (s + 1))) rfl (by omega) (by rw [List.length_map, xl]; omega)
    rw [Int.toNat_natCast, ← List.map_set, nW_set C hs] at st
    simp only [List.set_cons_zero] at st
    have s0 : (0 : Int) < ((s + 1 : Nat) : Int) := by omega
    generalize rwI (eqW CH (s + 1)) = RI at *
    generalize (xW CH (s + 1)).map D.int = XD at *
    generalize (nW CH (s + 1)).map D.int = ND at *
    generalize (wr.map fun x => -x).map D.int = NW at *
    generalize sq b wr = WR at *
    generalize sqs b [.int (cst CH (s + 1)), sq b ((PM CH).getD (s + 1) [])] = X0 at *
    generalize sq b ((PM CH).getD (s + 1) []) = WD at *
    generalize sm1 (PM CH) (s + 1) = S at *
    generalize cst CH (s + 1) = K at *
    generalize wt (PM CH) (s + 1) (s + 1) = W at *
    generalize ((s + 1 : Nat) : Int) = SI at *
    simp [sd, es, esl, swr, cwr, e1, ad0, s0, sAugS, g1, addI, st, mk, ad1]
end Mp
/-! PolC: settled, gain, numbers. -/
namespace Mp
open PySem PySem.Spec PyProof.Rows L2
theorem ixQ (b : Bool) {α : Type} (f : α → D) (X : List α) {i : Nat} (hi : i < X.length) (h : Hc) : ixF (sqs b (X.map f)) (.int (i : Int)) h = .ok (f X[i]) h := by
  rw [ix_sqs, atI_nat' (by simpa using hi), List.getElem?_map, List.getElem?_eq_getElem hi]
  rfl
theorem pol_ix {Md : List (List Chc)} {P : List Nat} (O : PoOk Md P) {s : Nat} (hs : s < Md.length) : ∃ (X : List Chc) (p : Nat), p < X.length ∧ X ∈ Md ∧ (∀ b h, ixF (mdD b Md) (.int (s : Int)) h = .ok (stD b X) h) ∧ (∀ c h, ixF (sq c (iN P)) (.int (s : Int)) h = .ok (.int (p : Int)) h) ∧ ∀ b h, ixF (stD b X) (.int (p : Int)) h = .ok (chcD b ((chs Md P).getD s (0, []))) h := by
  have hl := O.len
  have hp : P[s] < (Md[s]).length := by
    have hz : (Md[s], P[s]) ∈ Md.zip P := by
      rw [List.mem_iff_getElem]
      exact ⟨s, by rw [List.length_zip]; omega, by rw [List.getElem_zip]⟩
    exact O.fit _ hz
  have ec : (chs Md P).getD s (0, []) = (Md[s])[P[s]] := by
    unfold chs
    simp only [List.getD]
    rw [List.getElem?_map, List.getElem?_eq_getElem (by rw [List.length_zip]; omega), List.getElem_zip]
    simp [List.getElem?_eq_getElem hp]
  refine ⟨Md[s], P[s], hp, List.getElem_mem hs, fun b h => ixQ b (stD b) Md hs h, fun c h => ?_, fun b h => ?_⟩
  · have := ixQ c D.int (iN P) (i := s) (by rw [iN_len]; omega) h
    have e : (iN P)[s]'(by rw [iN_len]; omega) = (P[s] : Int) := by simp [iN]
    rw [e] at this
    have eq : sqs c ((iN P).map D.int) = sq c (iN P) := by cases c <;> rfl
    rw [eq] at this
    exact this
  · rw [ec]
    exact ixQ b (chcD b) (Md[s]) hp h
theorem zip_pol (b c : Bool) {Md : List (List Chc)} {P : List Nat} (hl : P.length = Md.length) (h : Hc) : zpF [mdD b Md, sq c (iN P)] h = .ok ⟨(Md.zip P).map fun z => D.tup [stD b z.1, .int (z.2 : Int)], fun _ => true⟩ h := by
  have eq : sq c (iN P) = sqs c (P.map fun (k : Nat) => D.int (k : Int)) := by cases c <;> simp [sqs, sq, iN] <;> rfl
  rw [eq]
  have := zpF_sqs b c (Md.map (stD b)) (P.map fun (k : Nat) => D.int (k : Int)) h
  have e2 : zipD (Md.map (stD b)) (P.map fun (k : Nat) => D.int (k : Int)) = (Md.zip P).map fun z => D.tup [stD b z.1, .int (z.2 : Int)] := by
    have q := zipD_map (fun z : List Chc × Nat => stD b z.1) (fun z => D.int (z.2 : Int)) (Md.zip P)
    have a1 : (Md.zip P).map (fun z => stD b z.1) = Md.map (stD b) := by
      rw [show (fun z : List Chc × Nat => stD b z.1) = stD b ∘ Prod.fst from rfl, ← List.map_map, List.map_fst_zip (by omega)]
    have a2 : (Md.zip P).map (fun z => D.int (z.2 : Int)) = P.map fun (k : Nat) => D.int (k : Int) := by
      rw [show (fun z : List Chc × Nat => D.int (z.2 : Int)) = (fun (k : Nat) => D.int (k : Int)) ∘ Prod.snd from rfl, ← List.map_map, List.map_snd_zip (by omega)]
    rw [a1, a2] at q
    exact q
  rw [e2] at this
  exact this
/-- the gain and the numbers as values -/
def nmD (n : Nat) (x : Nat → Rat) : D := .tup ((List.range n).map fun j => qD (hh x j))
def gnD (n : Nat) (x : Nat → Rat) : D := .tup [qD (x 0), nmD n x]
theorem flat_nmD (n : Nat) (x : Nat → Rat) : flat (nmD n x) = true := by
  unfold nmD
  rw [flat_tup]
  exact flatL_map _ (fun j => flat_qD _) _
theorem flat_gnD (n : Nat) (x : Nat → Rat) : flat (gnD n x) = true := by
  unfold gnD
  simp [flat_nmD]
theorem nm_tail {n : Nat} (h1 : 1 ≤ n) (x : Nat → Rat) : ∃ T, ((List.range n).map fun i => qD (x i)) = qD (x 0) :: T ∧ nmD n x = .tup (D.tup [.int 0, .int 1] :: T) := by
  obtain ⟨m, rfl⟩ : ∃ m, n = m + 1 := ⟨n - 1, by omega⟩
  refine ⟨(List.range m).map fun i => qD (x (i + 1)), ?_, ?_⟩
  · rw [List.range_succ_eq_map, List.map_cons, List.map_map]
    rfl
  · unfold nmD
    rw [List.range_succ_eq_map, List.map_cons, List.map_map]
    congr 2
theorem gn_congr {n : Nat} (h1 : 1 ≤ n) {x y : Nat → Rat} (h : ∀ j, j < n → x j = y j) : gnD n x = gnD n y := by
  have e : nmD n x = nmD n y := by
    unfold nmD
    congr 1
    refine List.map_congr_left fun j hj => ?_
    have := h j (List.mem_range.mp hj)
    unfold hh
    rw [this]
  unfold gnD
  rw [e, h 0 (by omega)]
theorem settled_ok {Md : List (List Chc)} (C : MdOk Md) {P : List Nat} (O : PoOk Md P) : ∃ x, satM Md.length 1 (gR (chs Md P)) x ∧ ∀ b c h, callL m_settled [mdD b Md, sq c (iN P)] h = .ok (gnD Md.length x) h := by
  have K := chs_ok C O
  have hl := chs_len O
  have lo := C.lo
  have hi := C.hi
  have lo' := K.lo
  have hi' := K.hi
  have pw : 2 ^ (chs Md P).length ≤ 2 ^ 5 := Nat.pow_le_pow_right (by decide) hi'
  obtain ⟨x, sx, e4⟩ := solved_lst lo' (by omega) (eqW_ok K) (by decide) (by omega) (eqW_ns K)
  rw [eqW_sat K] at sx
  refine ⟨x, by rw [← hl]; exact sx, fun b c h => ?_⟩
  rw [← hl]
  have ez := fun h => zip_pol b c O.len h
  have e1 := fun h => lcR_mm (chk := fun _ => true) (p := .t ((.n 4) :: ((.n 5) :: []))) (own := [4, 5]) (m := m_settled_c1) (ds := [some (mdD b Md), some (sq c (iN P)), none, none, none, none, none, none]) (h := h) (fun z : List Chc × Nat => D.tup [stD b z.1, .int (z.2 : Int)]) (fun z => chcD b (z.1.getD z.2 (0, []))) rfl (Md.zip P) (by rw [List.length_zip]; omega) (fun z hz => ⟨_, by simp [wipeD]; rfl, by
    have hf := O.fit z hz
    have i1 : ∀ h, ixF (stD b z.1) (.int (z.2 : Int)) h = .ok (chcD b (z.1.getD z.2 (0, []))) h := fun h => by
      have e : z.1.getD z.2 (0, []) = z.1[z.2] := by simp [List.getD, hf]
      rw [e]
      exact ixQ b (chcD b) z.1 hf h
    generalize stD b z.1 = SD at *
    generalize chcD b (z.1.getD z.2 (0, [])) = CD at *
    simp [m_settled_c1, i1]⟩)
  have ec : ((Md.zip P).map fun z => chcD b (z.1.getD z.2 (0, []))) = (chs Md P).map (chcD b) := by
    unfold chs
    rw [List.map_map]
    rfl
  simp only [ec] at e1
  have een : enumD 0 ((chs Md P).map (chcD b)) = (List.range (chs Md P).length).map fun (s : Nat) => D.tup [.int (s : Int), chcD b ((chs Md P).getD s (0, []))] := by
    apply List.ext_getElem?
    intro i
    rw [enumD_get, List.getElem?_map, List.getElem?_map]
    by_cases hi : i < (chs Md P).length
    · rw [List.getElem?_eq_getElem hi, List.getElem?_range hi]
      simp [List.getD, hi]
    · rw [List.getElem?_eq_none (by omega), List.getElem?_eq_none (by rw [List.length_range]; omega)]
      rfl
  have een2 : ∀ h, enF [.lst ((chs Md P).map (chcD b))] h = .ok ⟨(List.range (chs Md P).length).map fun (s : Nat) => D.tup [.int (s : Int), chcD b ((chs Md P).getD s (0, []))], fun _ => true⟩ h := fun h => by
    have := enF_lst (h := h) (xs := (chs Md P).map (chcD b))
    rw [een] at this
    rw [this]
    have := chkQ_sqs true ((chs Md P).map (chcD b))
    have e : chkQ (.lst ((chs Md P).map (chcD b))) ((chs Md P).map (chcD b)) = fun _ => true := this
    rw [e]
  have e2 := fun h => lcR_mm (chk := fun _ => true) (p := .t ((.n 6) :: ((.n 7) :: []))) (own := [6, 7]) (m := m_settled_c2) (ds := [some (mdD b Md), some (sq c (iN P)), some (.lst ((chs Md P).map (chcD b))), none, none, none, none, none]) (h := h) (fun s : Nat => D.tup [.int (s : Int), chcD b ((chs Md P).getD s (0, []))]) (fun s => rwI (eqW (chs Md P) s)) rfl (List.range (chs Md P).length) (by rw [List.length_range]; omega) (fun s hs => ⟨_, by simp [wipeD]; rfl, by
    have e := fun h => equation_ok b K (List.mem_range.mp hs) h
    simp only [List.getD_eq_getElem?_getD] at e ⊢
    generalize chcD b ((chs Md P)[s]?.getD (0, [])) = SD at *
    generalize rwI (eqW (chs Md P) s) = RD at *
    simp [m_settled_c2, e]⟩)
  have eL : ((List.range (chs Md P).length).map fun s => rwI (eqW (chs Md P) s)) = lstN (chs Md P).length (eqW (chs Md P)) := rfl
  simp only [eL] at e2
  obtain ⟨T, t1, t2⟩ := nm_tail lo' x
  have hT : T.length ≤ 10 := by
    have := congrArg List.length t1
    simp at this
    omega
  rw [t1] at e4
  have es := fun h => slF_tlt (qD (x 0)) T h
  have ad : ∀ h, addF (.tup [.tup [.int 0, .int 1]]) (.tup T) h = .ok (.tup (.tup [.int 0, .int 1] :: T)) h := fun h => by
    have hlim := lim_eq
    unfold addF
    simp
    omega
  have fl := flat_gnD (chs Md P).length x
  unfold gnD at fl ⊢
  rw [t2] at fl ⊢
  refine call_flat (h' := []) (by simp) ?_ fl h
  unfold m_settled
  rw [runB_s]
  generalize qD (x 0) = X0 at *
  generalize lstN (chs Md P).length (eqW (chs Md P)) = LN at *
  generalize (chs Md P).map (chcD b) = CL at *
  generalize ((List.range (chs Md P).length).map fun (s : Nat) => D.tup [.int (s : Int), chcD b ((chs Md P).getD s (0, []))]) = EL at *
  generalize mdD b Md = MD at *
  generalize sq c (iN P) = PD at *
  simp [iZip, ez, e1, iEnu, een2, e2, e4, es, ad]
end Mp
/-! PolD: the law's side of a policy. -/
namespace Mp
open PySem PySem.Spec PyProof.Rows L2
theorem lcR_sxp {α : Type} {chk : Hc → Bool} {p : Pt} {own : List Nat} {m : SE} {ds : Sl} (g : α → D) (I : Hc → Prop) (P : α → D → Prop) (hc : ∀ h, I h → chk h = true) : ∀ (items : List α) (acc : List D) (h : Hc), acc.length + items.length ≤ 1000000 → I h →
    (∀ d ∈ items, ∀ h, I h → ∃ ds1 y h', bindP h p (g d) (wipeD ds own) = some ds1 ∧ m ds1 h = .ok y h' ∧ I h' ∧ P d y) →
    ∃ (f : Nat → D) (h' : Hc), lcR chk p own (fun _ h => .ok true h) m ds (items.map g) acc h = .ok (acc ++ (List.range items.length).map f) h' ∧ (∀ (k : Nat) (hk : k < items.length), P items[k] (f k)) ∧ I h'
  | [], acc, h, _, i, _ => ⟨fun _ => .non, h, by simp [hc h i], fun k hk => by simp at hk, i⟩
  | d :: r, acc, h, hl, i, st => by
    obtain ⟨ds1, y, h1, e1, e2, i1, py⟩ := st d (by simp) h i
    obtain ⟨f, h2, e3, p3, i3⟩ := lcR_sxp g I P hc r (acc ++ [y]) h1 (by simp at hl ⊢; omega) i1 fun d hd => st d (by simp [hd])
    have ha : acc.length < 1000000 := by simp at hl; omega
    refine ⟨fun k => match k with | 0 => y | k + 1 => f k, h2, ?_, ?_, i3⟩
    · rw [List.map_cons, lcR_cons]
      simp [hc h i, e1, e2, ha, e3, List.range_succ_eq_map, Function.comp_def]
    · intro k hk
      cases k with
      | zero => exact py
      | succ k => exact p3 k (by simpa using hk)
section
variable {row : List Int} (hr : row ≠ [])
include hr
theorem model_exm {most : Int} (m1 : 1 ≤ most) (m2 : most ≤ 5) {k : Int} {i : Nat} {h : Hc} (hi : h[i]? = some (.lst [.int k])) (hk : 0 ≤ k) : ∃ Md k', MdOk Md ∧ (Md.length : Int) ≤ most ∧ 0 ≤ k' ∧ callL m_law_model [.lst (row.map D.int), .ref i, .int most] h = .ok (mdD false Md) (h.set i (.lst [.int k'])) := by
  obtain ⟨v, k1, v0, v2, hk1, e1⟩ := take_ex hr (h := [.lst [.int k]]) (i := 0) (k := k) (l := most) rfl hk (by omega)
  simp only [List.set_cons_zero] at e1
  obtain ⟨N, hN⟩ : ∃ N : Nat, 1 + v = (N : Int) := ⟨(1 + v).toNat, by omega⟩
  obtain ⟨Md, y5, y6, y7, y8, y9, k2, T, lM, qM, hk2, f1, e2⟩ := md_l2s hr (n := N) (by omega) (by omega) (some (.int most)) none (upFrom 0 N) [] none none none none none k1 [C.lst []] (by rw [upFrom_len]; simp; omega) hk1 rfl (by simp)
  rw [upFrom_len] at lM
  simp at lM
  have g1 : rgOk (N : Int) = true := rgOk_nat (by omega)
  refine ⟨Md, k2, ⟨by omega, by omega, fun X hX => by rw [lM]; exact qM X hX⟩, by omega, hk2, ?_⟩
  refine call_spot (rest := [.int most]) (d0 := mdD false Md) (h' := C.lst [.int k2] :: T) (by simp) (by simp) hi ?_ rfl fun j => frzD_flat (by simp)
  have et : tupleF [.ref 1] (C.lst [.int k2] :: T) = .ok (mdD false Md) (C.lst [.int k2] :: T) := by
    have : mdD false Md = .tup (Md.map (stD false)) := rfl
    rw [this]
    simp [tupleF, f1]
  unfold m_law_model
  rw [runB_s]
  generalize mdD false Md = MM at *
  simp [e1, hN, g1, e2, et]
theorem law_policy_ex {Md : List (List Chc)} (C : MdOk Md) {k : Int} {i : Nat} {h : Hc} (hi : h[i]? = some (.lst [.int k])) (hk : 0 ≤ k) : ∃ P k', PoOk Md P ∧ 0 ≤ k' ∧ callL m_law_policy [.lst (row.map D.int), .ref i, mdD false Md] h = .ok (sq false (iN P)) (h.set i (.lst [.int k'])) := by
  have h5 := C.hi
  obtain ⟨f, h', e1, pf, k', eh, hk'⟩ := lcR_sxp (chk := fun _ => true) (p := .n 3) (own := [3]) (m := m_law_policy_c1) (ds := [some (.lst (row.map D.int)), some (.ref 0), some (mdD false Md), none]) (stD false) (fun h => ∃ q, h = [.lst [.int q]] ∧ 0 ≤ q) (fun X y => ∃ p : Nat, y = .int (p : Int) ∧ p < X.length) (fun _ _ => rfl) Md [] [.lst [.int k]] (by simp; omega) ⟨k, rfl, hk⟩
    (fun X hX h ⟨q, eh, hq⟩ => by
      subst eh
      have hx := (C.st X hX).1
      obtain ⟨v, q', v0, v1, hq', e⟩ := take_ex hr (h := [.lst [.int q]]) (i := 0) (k := q) (l := (X.length : Int)) rfl hq (by omega)
      simp only [List.set_cons_zero] at e
      have ls : ∀ h, lenF [stD false X] h = .ok (.int (X.length : Int)) h := fun h => by simp [stD]
      refine ⟨_, .int v, [.lst [.int q']], bindP_n .., ?_, ⟨q', rfl, hq'⟩, v.toNat, by rw [Int.toNat_of_nonneg v0], by omega⟩
      generalize stD false X = SD at *
      simp [m_law_policy_c1, ls, e])
  subst eh
  simp only [List.nil_append] at e1 pf
  let gi : Nat → Nat := fun k => match f k with | .int i => i.toNat | _ => 0
  have gf : ∀ k (hk : k < Md.length), f k = .int (gi k : Int) ∧ gi k < (Md[k]).length := fun k hk => by
    obtain ⟨p, e, a⟩ := pf k hk
    have : gi k = p := by simp only [gi, e]; exact Int.toNat_natCast p
    rw [this]
    exact ⟨e, a⟩
  have eP : (List.range Md.length).map f = (iN ((List.range Md.length).map gi)).map D.int := by
    unfold iN
    rw [List.map_map, List.map_map]
    exact List.map_congr_left fun k hk => (gf k (List.mem_range.mp hk)).1
  rw [eP] at e1
  refine ⟨(List.range Md.length).map gi, k', ⟨by simp, fun z hz => ?_⟩, hk', ?_⟩
  · obtain ⟨j, hj, rfl⟩ := List.mem_iff_getElem.mp hz
    rw [List.length_zip, List.length_map, List.length_range, Nat.min_self] at hj
    rw [List.getElem_zip, List.getElem_map, List.getElem_range]
    exact (gf j hj).2
  · refine call_spot (rest := [mdD false Md]) (d0 := sq false (iN ((List.range Md.length).map gi))) (h' := [.lst [.int k']]) (by simp) (by simp) hi ?_ rfl fun j => frzD_flat (by simp)
    have e0 : ∀ h, seqD h (mdD false Md) = some (Md.map (stD false)) := fun h => seqD_sqs false _ h
    have e00 : chkQ (mdD false Md) (Md.map (stD false)) = fun _ => true := chkQ_sqs false _
    have et : ∀ h, tupleF [.lst ((iN ((List.range Md.length).map gi)).map D.int)] h = .ok (sq false (iN ((List.range Md.length).map gi))) h := fun h => rfl
    unfold m_law_policy
    rw [runB_s]
    generalize iN ((List.range Md.length).map gi) = PP at *
    generalize Md.map (stD false) = MS at *
    generalize mdD false Md = MM at *
    simp [e0, e00, e1, et]
end
/-! ### the law's gain -/
section
variable {CH : List Chc} (K : ChsOk CH)
include K
theorem lg_l1 {s : Nat} (hs : s < CH.length) (x0 x1 x2 x3 x5 x10 : Option D) (HJ : Hc) : ∀ (m k : Nat) (x8 x9 : Option D), k + m = CH.length → 1 ≤ k → ∃ y8 y9, fl (fun _ => true) (.n 8) m_law_gain_l1 ((List.range' k m).map fun (j : Nat) => D.int (j : Int)) [x0, x1, x2, x3, some (.int (s : Int)), x5, some (sq false ((PM CH).getD s [])), some (.ref HJ.length), x8, x9, x10] (HJ ++ [C.lst ((List.range k).map fun c => qD (gR CH s c))]) =
    .nx [x0, x1, x2, x3, some (.int (s : Int)), x5, some (sq false ((PM CH).getD s [])), some (.ref HJ.length), y8, y9, x10] (HJ ++ [C.lst ((List.range CH.length).map fun c => qD (gR CH s c))])
  | 0, k, x8, x9, hk, h1 => by
    have : k = CH.length := by omega
    subst this
    exact ⟨x8, x9, fl_end rfl⟩
  | m + 1, k, x8, x9, hk, h1 => by
    have hk' : k < CH.length := by omega
    have hi := K.hi
    have hs' : s < (PM CH).length := by rw [PM_len]; exact hs
    obtain ⟨p1, p2, p3⟩ := K.chn.at1 hs'
    obtain ⟨w0, w9⟩ := p3 k
    have hl : ((PM CH).getD s []).length = CH.length := by rw [K.chn.rowlen hs', PM_len]
    obtain ⟨y8, y9, ih⟩ := lg_l1 hs x0 x1 x2 x3 x5 x10 HJ m (k + 1) (some (.int (k : Int))) (some (qD (shQ (PM CH) s k))) (by omega) (by omega)
    refine ⟨y8, y9, ?_⟩
    rw [List.range'_succ, List.map_cons]
    refine Eq.trans (fl_n (b := m_law_gain_l1) ?_) ih
    have ix : ∀ h, ixF (sq false ((PM CH).getD s [])) (.int (k : Int)) h = .ok (.int (wt (PM CH) s k)) h := fun h => by
      have : ((PM CH).getD s [])[k]? = some (wt (PM CH) s k) := by
        unfold wt
        rw [List.getD_eq_getElem?_getD (l := (PM CH).getD s []), List.getElem?_eq_getElem (by omega)]
        rfl
      rw [ixF_sq, atI_nat' (by rw [List.length_map]; omega), List.getElem?_map, this]
      rfl
    have es : ∀ h, sumA [sq false ((PM CH).getD s [])] h = .ok (.int (sm1 (PM CH) s)) h := fun h => sumA_sq false _ h
    have rd : ∀ h, callL (m_law_red 24) [.int (wt (PM CH) s k), .int (sm1 (PM CH) s)] h = .ok (qD (shQ (PM CH) s k)) h := fun h => by
      have e := red_ok 22 (a := wt (PM CH) s k) (d := sm1 (PM CH) s) (by omega) (Nat.lt_of_lt_of_le (show (sm1 (PM CH) s).natAbs < 2 ^ 6 by omega) (Nat.pow_le_pow_right (by decide) (by decide))) h
      rw [rdc_q _ (by omega)] at e
      exact e
    have q1 : qs 6 (dl k s) := by unfold dl; split <;> exact ⟨by decide, by decide⟩
    have q2 : qs 6 (shQ (PM CH) s k) := qs_div (by omega) (by omega) (by omega)
    have sb := fun h => law_sub_z q1 q2 (by decide) h
    have eg : gR CH s k = dl k s - shQ (PM CH) s k := by unfold gR; rw [if_neg (by omega), if_neg (by omega)]
    rw [← eg] at sb
    have hq : (HJ ++ [C.lst ((List.range k).map fun c => qD (gR CH s c))])[HJ.length]? = some (.lst ((List.range k).map fun c => qD (gR CH s c))) := by
      rw [List.getElem?_append_right (Nat.le_refl _), Nat.sub_self]
      rfl
    have kk := kindOk_list hq
    have ap := appF_ref (d := qD (gR CH s k)) hq (by rw [List.length_map, List.length_range]; omega)
    have est : (HJ ++ [C.lst ((List.range k).map fun c => qD (gR CH s c))]).set HJ.length (.lst (((List.range k).map fun c => qD (gR CH s c)) ++ [qD (gR CH s k)])) = HJ ++ [C.lst ((List.range (k + 1)).map fun c => qD (gR CH s c))] := by
      rw [List.set_append_right _ _ (Nat.le_refl _), Nat.sub_self, List.range_succ, List.map_append]
      rfl
    rw [est] at ap
    clear est hq ih
    generalize HJ ++ [C.lst ((List.range (k + 1)).map fun c => qD (gR CH s c))] = H2 at *
    generalize HJ ++ [C.lst ((List.range k).map fun c => qD (gR CH s c))] = H1 at *
    generalize sq false ((PM CH).getD s []) = WD at *
    generalize qD (gR CH s k) = G at *
    generalize qD (shQ (PM CH) s k) = SH at *
    by_cases c : k = s
    · subst c
      have : qD (dl k k) = .tup [.int 1, .int 1] := by unfold dl; rw [if_pos rfl]; rfl
      rw [this] at sb
      simp [m_law_gain_l1, ix, es, rd, sb, kk, ap]
    · have c' : ¬ (k : Int) = (s : Int) := by omega
      have : qD (dl k s) = .tup [.int 0, .int 1] := by unfold dl; rw [if_neg c]; rfl
      rw [this] at sb
      simp [m_law_gain_l1, ix, es, rd, c, c', sb, kk, ap]
end
theorem lg_l2 {Md : List (List Chc)} (C : MdOk Md) {P : List Nat} (O : PoOk Md P) (x10 : Option D) : ∀ (m s : Nat) (J : Hc) (x4 x5 x6 x7 x8 x9 : Option D), s + m = Md.length → ∃ J' y4 y5 y6 y7 y8 y9,
    fl (fun _ => true) (.n 4) m_law_gain_l2 ((List.range' s m).map fun (j : Nat) => D.int (j : Int)) [some (mdD false Md), some (sq false (iN P)), some (.ref 0), some (.int (Md.length : Int)), x4, x5, x6, x7, x8, x9, x10] (Mp.C.lst ((List.range s).map fun i => rowQ Md.length (gR (chs Md P) i)) :: J) =
      .nx [some (mdD false Md), some (sq false (iN P)), some (.ref 0), some (.int (Md.length : Int)), y4, y5, y6, y7, y8, y9, x10] (Mp.C.lst (lstQ Md.length (gR (chs Md P))) :: J')
  | 0, s, J, x4, x5, x6, x7, x8, x9, hs => by
    have : s = Md.length := by omega
    subst this
    exact ⟨J, x4, x5, x6, x7, x8, x9, fl_end rfl⟩
  | m + 1, s, J, x4, x5, x6, x7, x8, x9, hs => by
    have K := chs_ok C O
    have hl := chs_len O
    have lo := C.lo
    have hi := C.hi
    have hs' : s < Md.length := by omega
    have hsc : s < (chs Md P).length := by omega
    obtain ⟨X, p, _, _, i1, i2, i3⟩ := pol_ix O hs'
    have e2 : ((chs Md P).getD s (0, [])).2 = (PM (chs Md P)).getD s [] := by unfold PM; simp [List.getD, hsc]
    have eD : chcD false ((chs Md P).getD s (0, [])) = .tup [.int (cst (chs Md P) s), sq false ((PM (chs Md P)).getD s [])] := by rw [← e2]; rfl
    have i1 := i1 false
    have i2 := i2 false
    have i3 := i3 false
    rw [eD] at i3
    obtain ⟨y8, y9, e1⟩ := lg_l1 K hsc (some (mdD false Md)) (some (sq false (iN P))) (some (.ref 0)) (some (.int (Md.length : Int))) (some (.int (cst (chs Md P) s))) x10 (Mp.C.lst ((List.range s).map fun i => rowQ Md.length (gR (chs Md P) i)) :: J) (Md.length - 1) 1 x8 x9 (by omega) (by decide)
    have er : ∀ h, rg2F [.int 1, .int (Md.length : Int)] h = .ok ⟨(List.range' 1 (Md.length - 1)).map fun (k : Nat) => D.int (k : Int), fun _ => true⟩ h := fun h => by
      rw [rg2F_int, if_pos ⟨rgOk_nat (n := 1) (by decide), rgOk_nat (by omega)⟩]
      have : ((Md.length : Int) - 1).toNat = Md.length - 1 := by omega
      rw [this]
      congr 2
      unfold upFrom
      rw [List.range'_eq_map_range, List.map_map]
      refine List.map_congr_left fun a _ => ?_
      simp
    have eone : ((List.range 1).map fun c => qD (gR (chs Md P) s c)) = [D.tup [.int 1, .int 1]] := by
      have : gR (chs Md P) s 0 = 1 := by unfold gR; rw [if_neg (by omega), if_pos rfl]
      show [qD (gR (chs Md P) s 0)] = _
      rw [this]
      rfl
    rw [eone] at e1
    have eqc : qD (gR (chs Md P) s Md.length) = .tup [.int (cst (chs Md P) s), .int 1] := by
      have : gR (chs Md P) s Md.length = ((cst (chs Md P) s : Int) : Rat) := by unfold gR; rw [if_pos hl.symm]
      rw [this, qD_int]
    have erow : rowQ Md.length (gR (chs Md P) s) = .lst (((List.range Md.length).map fun c => qD (gR (chs Md P) s c)) ++ [.tup [.int (cst (chs Md P) s), .int 1]]) := by
      unfold rowQ
      rw [List.range_succ, List.map_append, ← eqc]
      rfl
    rw [hl] at e1
    let HJ : Hc := Mp.C.lst ((List.range s).map fun i => rowQ Md.length (gR (chs Md P) i)) :: J
    let H3 : Hc := HJ ++ [Mp.C.lst ((List.range Md.length).map fun c => qD (gR (chs Md P) s c))]
    have hq3 : H3[HJ.length]? = some (.lst ((List.range Md.length).map fun c => qD (gR (chs Md P) s c))) := by
      show (HJ ++ [Mp.C.lst _])[HJ.length]? = _
      rw [List.getElem?_append_right (Nat.le_refl _), Nat.sub_self]
      rfl
    have ad : addF (.ref HJ.length) (.lst [.tup [.int (cst (chs Md P) s), .int 1]]) H3 = .ok (rowQ Md.length (gR (chs Md P) s)) H3 := by
      have hlim := lim_eq
      unfold addF
      simp only [lstD, hq3]
      rw [if_pos (by simp; omega), erow]
    have h30 : H3[0]? = some (.lst ((List.range s).map fun i => rowQ Md.length (gR (chs Md P) i))) := rfl
    have kk := kindOk_list h30
    have kk2 := fun x (H : Hc) => kindOk_list (n := H.length) (xs := [x]) (h := H ++ [Mp.C.lst [x]]) (by rw [List.getElem?_append_right (Nat.le_refl _), Nat.sub_self]; rfl)
    have ap := appF_ref (d := rowQ Md.length (gR (chs Md P) s)) h30 (by rw [List.length_map, List.length_range]; omega)
    have es2 : H3.set 0 (.lst (((List.range s).map fun i => rowQ Md.length (gR (chs Md P) i)) ++ [rowQ Md.length (gR (chs Md P) s)])) = Mp.C.lst ((List.range (s + 1)).map fun i => rowQ Md.length (gR (chs Md P) i)) :: (J ++ [Mp.C.lst ((List.range Md.length).map fun c => qD (gR (chs Md P) s c))]) := by
      rw [List.range_succ, List.map_append]
      rfl
    rw [es2] at ap
    obtain ⟨J', z4, z5, z6, z7, z8, z9, ih⟩ := lg_l2 C O x10 m (s + 1) (J ++ [Mp.C.lst ((List.range Md.length).map fun c => qD (gR (chs Md P) s c))]) (some (.int (s : Int))) (some (.int (cst (chs Md P) s))) (some (sq false ((PM (chs Md P)).getD s []))) (some (.ref HJ.length)) y8 y9 (by omega)
    refine ⟨J', z4, z5, z6, z7, z8, z9, ?_⟩
    rw [List.range'_succ, List.map_cons]
    refine Eq.trans (fl_n (b := m_law_gain_l2) ?_) ih
    have eHJ : Mp.C.lst ((List.range s).map fun i => rowQ Md.length (gR (chs Md P) i)) :: J = HJ := rfl
    have eH3 : HJ ++ [Mp.C.lst ((List.range Md.length).map fun c => qD (gR (chs Md P) s c))] = H3 := rfl
    have eHL : J.length + 1 = HJ.length := rfl
    have hcat : ∀ x, Mp.C.lst ((List.range s).map fun i => rowQ Md.length (gR (chs Md P) i)) :: (J ++ [x]) = HJ ++ [x] := fun x => rfl
    rw [eHJ, eH3] at e1
    rw [eHJ]
    clear es2 ih hq3 h30 eone erow eqc eH3 eHJ
    generalize (Mp.C.lst ((List.range (s + 1)).map fun i => rowQ Md.length (gR (chs Md P) i)) :: (J ++ [Mp.C.lst ((List.range Md.length).map fun c => qD (gR (chs Md P) s c))])) = H4 at *
    generalize H3 = H3' at *
    generalize HJ = HJ' at *
    generalize rowQ Md.length (gR (chs Md P) s) = RQ at *
    generalize (List.range' 1 (Md.length - 1)).map (fun (k : Nat) => D.int (k : Int)) = RG at *
    generalize stD false X = SD at *
    generalize mdD false Md = MD at *
    generalize sq false (iN P) = PD at *
    generalize sq false ((PM (chs Md P)).getD s []) = WD at *
    generalize cst (chs Md P) s = KC at *
    simp [m_law_gain_l2, i1, i2, i3, er, e1, ad, kk, ap]
theorem law_gain_ok {Md : List (List Chc)} (C : MdOk Md) (h4 : Md.length ≤ 4) {P : List Nat} (O : PoOk Md P) : ∃ x, satM Md.length 1 (gR (chs Md P)) x ∧ (∀ i, i < Md.length → qs 2700 (x i)) ∧ ∀ h, callL m_law_gain [mdD false Md, sq false (iN P)] h = .ok (gnD Md.length x) h := by
  have K := chs_ok C O
  have hl := chs_len O
  have lo := C.lo
  obtain ⟨J', y4, y5, y6, y7, y8, y9, e1⟩ := lg_l2 C O none Md.length 0 [] none none none none none none (by omega)
  have pw : 4 ^ Md.length ≤ 4 ^ 4 := Nat.pow_le_pow_right (by decide) h4
  obtain ⟨x, sx, ⟨B, hB, qB⟩, e4⟩ := lsolve_ref (n := Md.length) (by omega) (R := gR (chs Md P)) (b := 10) (by rw [← hl]; exact g_qs K) (by omega) (by rw [← hl]; exact g_ns K)
  refine ⟨x, sx, fun i hi => qs_le (by omega) (qB i hi), fun h => ?_⟩
  have lm : ∀ h, lenF [mdD false Md] h = .ok (.int (Md.length : Int)) h := fun h => by simp [mdD]
  have er : ∀ h, rg1F [.int (Md.length : Int)] h = .ok ⟨(List.range' 0 Md.length).map fun (k : Nat) => D.int (k : Int), fun _ => true⟩ h := fun h => by
    rw [rg1F_int, if_pos (rgOk_nat (by omega)), Int.toNat_natCast, ← List.range_eq_range']
    unfold upFrom
    simp
  have e00 : ((List.range 0).map fun i => rowQ Md.length (gR (chs Md P) i)) = [] := rfl
  rw [e00] at e1
  have e5 := e4 0 (Mp.C.lst (lstQ Md.length (gR (chs Md P))) :: J') rfl
  obtain ⟨T, t1, t2⟩ := nm_tail lo x
  have hT : T.length ≤ 10 := by
    have := congrArg List.length t1
    simp at this
    omega
  rw [t1] at e5
  have es := fun h => slF_tl (qD (x 0)) T h
  have ad : ∀ h, addF (.lst [.tup [.int 0, .int 1]]) (.lst T) h = .ok (.lst (.tup [.int 0, .int 1] :: T)) h := fun h => by
    have hlim := lim_eq
    unfold addF
    simp [lstD]
    omega
  have fl := flat_gnD Md.length x
  unfold gnD at fl ⊢
  rw [t2] at fl ⊢
  refine call_flat (h' := Mp.C.lst (lstQ Md.length (gR (chs Md P))) :: J') (by simp) ?_ fl h
  unfold m_law_gain
  rw [runB_s]
  generalize (Mp.C.lst (lstQ Md.length (gR (chs Md P))) :: J') = H2 at *
  generalize qD (x 0) = X0 at *
  generalize (List.range' 0 Md.length).map (fun (k : Nat) => D.int (k : Int)) = RG at *
  generalize mdD false Md = MD at *
  generalize sq false (iN P) = PD at *
  simp [lm, er, e1, e5, es, ad]
end Mp
namespace Mp
open PySem PySem.Spec PyProof.Rows L2
/-! ### mirrors: Bst -/
def m_improved_l1 : SS :=
  (sSeq (sSet 6 (eCall m_sums_ahead (aCons (eVar 4) (aCons (eVar 2) aNil))))
    (sSeq (sSet 7 (eCall m_first_least (aCons (eVar 6) aNil)))
    (sIf (bTru (eCall m_less (aCons (eOp ixF (eVar 6) (eVar 7)) (aCons (eOp ixF (eVar 6) (eVar 5)) aNil))))
      (sDrop (eBM "list" appF (eVar 3) (aCons (eVar 7) aNil)))
      (sDrop (eBM "list" appF (eVar 3) (aCons (eVar 5) aNil))))))
/-- improved: model 0, policy 1, numbers 2, found 3, choices 4, kept 5, sums 6, first 7 -/
def m_improved : Fn := runB 8
  (sSeq (sSet 3 (eCell aNil))
  (sSeq (sFor (iZip (aCons (eVar 0) (aCons (eVar 1) aNil))) (.t ((.n 4) :: ((.n 5) :: [])))
    m_improved_l1)
  (sRet (eVar 3))))
def m_best_numbers_l1 : SS :=
  (sSeq (sSet 1 (eVar 4))
    (sSeq (sAsg (.t ((.n 2) :: ((.n 3) :: []))) (eCall m_settled (aCons (eVar 0) (aCons (eVar 1) aNil))))
    (sSet 4 (eCall m_improved (aCons (eVar 0) (aCons (eVar 1) (aCons (eVar 3) aNil)))))))
/-- best_numbers: model 0, policy 1, gain 2, numbers 3, better 4 -/
def m_best_numbers : Fn := runB 5
  (sSeq (sSet 1 (eOp mulF (eLst (aCons (eC (.int 0)) aNil)) (eCB lenF (aCons (eVar 0) aNil))))
  (sSeq (sAsg (.t ((.n 2) :: ((.n 3) :: []))) (eCall m_settled (aCons (eVar 0) (aCons (eVar 1) aNil))))
  (sSeq (sSet 4 (eCall m_improved (aCons (eVar 0) (aCons (eVar 1) (aCons (eVar 3) aNil)))))
  (sSeq (wl (bEx (eOp neF (eVar 4) (eVar 1)))
    m_best_numbers_l1 100000)
  (sRet (eTup (aCons (eVar 2) (aCons (eVar 3) aNil))))))))
def m_greedy_c1 : SE :=
  (eCall m_first_least (aCons (eCall m_sums_ahead (aCons (eVar 2) (aCons (eVar 1) aNil))) aNil))
/-- greedy: model 0, numbers 1, choices 2 -/
def m_greedy : Fn := runB 3
  (sRet (eLc (iSeq (eVar 0)) (.n 2) [2] (fun _ h => .ok true h) m_greedy_c1))
/-- best: model 0, least_gain 1, least_numbers 2 -/
def m_best : Fn := runB 3
  (sSeq (sIf (bNot (bTru (eCall m_is_model (aCons (eVar 0) aNil))))
    (sRaise "BadValue" ["at"] (aCons (eC (.int 0)) aNil))
    sNext)
  (sSeq (sAsg (.t ((.n 1) :: ((.n 2) :: []))) (eCall m_best_numbers (aCons (eVar 0) aNil)))
  (sRet (eTup (aCons (eCB tupleF (aCons (eCall m_greedy (aCons (eVar 0) (aCons (eVar 2) aNil))) aNil)) (aCons (eVar 1) (aCons (eVar 2) aNil)))))))
def m_law_policies_c1 : SE :=
  (eOp addF (eVar 4) (eLst (aCons (eVar 5) aNil)))
def m_law_policies_l1 : SS :=
  (sSet 3 (eOp addF (eVar 3) (eLc (iRg1 (aCons (eCB lenF (aCons (eVar 2) aNil)) aNil)) (.n 5) [5] (fun _ h => .ok true h) m_law_policies_c1)))
def m_law_policies_l2 : SS :=
  (sSeq (sSet 3 (eCell aNil))
    (sSeq (sFor (iSeq (eVar 1)) (.n 4)
      m_law_policies_l1)
    (sSet 1 (eVar 3))))
def m_law_policies_c2 : SE :=
  (eCB tupleF (aCons (eVar 4) aNil))
/-- _law_policies: model 0, made 1, choices 2, longer 3, one 4, k 5 -/
def m_law_policies : Fn := runB 6
  (sSeq (sSet 1 (eCell (aCons (eLst aNil) aNil)))
  (sSeq (sFor (iSeq (eVar 0)) (.n 2)
    m_law_policies_l2)
  (sRet (eLc (iSeq (eVar 1)) (.n 4) [4] (fun _ h => .ok true h) m_law_policies_c2))))
def m_law_proves_l1 : SS :=
  (sSeq (sSet 6 (eCall m_law_value (aCons (eOp ixF (eOp ixF (eVar 0) (eVar 5)) (eOp ixF (eVar 4) (eVar 5))) (aCons (eVar 3) aNil))))
    (sIf (bOr (bEx (eOp neF (eCall m_law_add (aCons (eOp ixF (eVar 3) (eVar 5)) (aCons (eVar 2) aNil))) (eVar 6))) (bEx (eOp neF (eCall m_law_value (aCons (eOp ixF (eOp ixF (eVar 0) (eVar 5)) (eOp ixF (eVar 1) (eVar 5))) (aCons (eVar 3) aNil))) (eVar 6))))
      (sRet (eC (.bl false)))
      sNext))
/-- _law_proves: model 0, policy 1, rate 2, nums 3, firsts 4, s 5, least 6 -/
def m_law_proves : Fn := runB 7
  (sSeq (sSet 4 (eCall m_law_firsts (aCons (eVar 0) (aCons (eVar 3) aNil))))
  (sSeq (sFor (iRg1 (aCons (eCB lenF (aCons (eVar 0) aNil)) aNil)) (.n 5)
    m_law_proves_l1)
  (sRet (eC (.bl true)))))
def m_law_best_l1 : SS :=
  (sSeq (sSet 2 (eCall m_law_gain (aCons (eVar 0) (aCons (eVar 1) aNil))))
    (sIf (bTru (eCall m_law_proves (aCons (eVar 0) (aCons (eVar 1) (aCons (eOp ixF (eVar 2) (eC (.int 0))) (aCons (eOp ixF (eVar 2) (eC (.int 1))) aNil))))))
      (sRet (eTup (aCons (eCall m_law_firsts (aCons (eVar 0) (aCons (eOp ixF (eVar 2) (eC (.int 1))) aNil))) (aCons (eOp ixF (eVar 2) (eC (.int 0))) (aCons (eOp ixF (eVar 2) (eC (.int 1))) aNil)))))
      sNext))
/-- _law_best: model 0, policy 1, found 2 -/
def m_law_best : Fn := runB 3
  (sSeq (sFor (iSeq (eCall m_law_policies (aCons (eVar 0) aNil))) (.n 1)
    m_law_best_l1)
  (sRet (eC .non)))
end Mp
/-! PolE: means, sums ahead and first least ones by value. -/
namespace Mp
open PySem PySem.Spec PyProof.Rows L2
def dnP (h : Nat → Rat) : Nat → Int
  | 0 => 1
  | n + 1 => dnP h n * ((h n).den : Int)
theorem dnP_pos (h : Nat → Rat) : ∀ n, 0 < dnP h n
  | 0 => by unfold dnP; decide
  | n + 1 => by
    unfold dnP
    have := (h n).den_pos
    exact Int.mul_pos (dnP_pos h n) (by omega)
theorem dnP_dvd (h : Nat → Rat) : ∀ (n j : Nat), j < n → ((h j).den : Int) ∣ dnP h n
  | 0, j, hj => by omega
  | n + 1, j, hj => by
    unfold dnP
    by_cases e : j = n
    · subst e
      exact Int.dvd_mul_left _ _
    · exact Int.dvd_trans (dnP_dvd h n j (by omega)) (Int.dvd_mul_right _ _)
theorem dnP_sm {h : Nat → Rat} {b : Nat} : ∀ (n : Nat), (∀ j, j < n → qs b (h j)) → sm (b * n + 1) (dnP h n)
  | 0, _ => by
    unfold sm dnP
    rw [Nat.mul_zero]
    decide
  | n + 1, hq => by
    have h1 := dnP_sm (h := h) (b := b) n fun j hj => hq j (by omega)
    have h2 : sm b ((h n).den : Int) := by unfold sm; simpa using (hq n (by omega)).2
    unfold dnP
    exact sm_le (by rw [Nat.mul_succ]; omega) (sm_mul h1 h2)
def vnI (h : Nat → Rat) (n j : Nat) : Int := (h j).num * (dnP h n / ((h j).den : Int))
theorem vn_val {h : Nat → Rat} {n j : Nat} (hj : j < n) : ((vnI h n j : Int) : Rat) / ((dnP h n : Int) : Rat) = h j := by
  obtain ⟨k, hk⟩ := dnP_dvd h n j hj
  have hp := dnP_pos h n
  have hd := (h j).den_pos
  have ek : dnP h n / ((h j).den : Int) = k := by rw [hk, Int.mul_ediv_cancel_left _ (by omega)]
  have k0 : k ≠ 0 := by
    intro z
    rw [z, Int.mul_zero] at hk
    omega
  unfold vnI
  rw [ek, hk, Rat.intCast_mul, Rat.intCast_mul]
  have e : h j = (((h j).num : Int) : Rat) / (((h j).den : Int) : Rat) := by
    have := Rat.num_divInt_den (h j)
    rw [Rat.divInt_eq_div] at this
    exact this.symm
  have d0 : ((((h j).den : Int)) : Rat) ≠ 0 := by
    intro z
    have : (((h j).den : Int)) = 0 := by exact_mod_cast z
    omega
  have kq : ((k : Int) : Rat) ≠ 0 := by
    intro z
    have : k = 0 := by exact_mod_cast z
    exact k0 this
  generalize (((h j).num : Int) : Rat) = a at *
  generalize ((((h j).den : Int)) : Rat) = d at *
  generalize ((k : Int) : Rat) = q at *
  rw [e]
  grind
theorem vn_sm {h : Nat → Rat} {n j b : Nat} (hj : j < n) (hq : ∀ j, j < n → qs b (h j)) : sm (b + (b * n + 1)) (vnI h n j) := by
  have h1 := dnP_sm n hq
  have h2 := (hq j hj).1
  unfold vnI
  refine sm_mul h2 (Nat.lt_of_le_of_lt ?_ h1)
  exact Int.natAbs_ediv_le_natAbs _ _
theorem shD_q (e : Bool) {v N : Int} (hN : N ≠ 0) {q : Rat} (h : (v : Rat) / (N : Rat) = q) : shD e v N = qE e q := by
  have h1 := rdc_q v hN
  rw [h] at h1
  unfold rdc at h1
  unfold qD at h1
  injection h1 with h1
  injection h1 with a1 a2
  injection a1 with a1
  injection a2 with a2
  injection a2 with a2
  unfold shD qE nm dn
  rw [a1, a2]
/-- numbers, by value -/
def nL (c e : Bool) (n : Nat) (h : Nat → Rat) : D := sqs c ((List.range n).map fun j => qE e (h j))
theorem flat_nL (c e : Bool) (n : Nat) (h : Nat → Rat) : flat (nL c e n h) = true := flat_sqs c (flatL_map _ (fun j => flat_qE e _) _)
theorem nmD_nL (n : Nat) (x : Nat → Rat) : nmD n x = nL false false n (hh x) := rfl
def mnQ (n : Nat) (h : Nat → Rat) (w : List Int) : Rat := sumR (fun j => ((w.getD j 0 : Int) : Rat) * h j) n / ((w.sum : Int) : Rat)
def valQ (n : Nat) (h : Nat → Rat) (x : Chc) : Rat := ((x.1 : Int) : Rat) + mnQ n h x.2
theorem wsum_q {h : Nat → Rat} {n : Nat} {w : List Int} (hl : w.length = n) : ((wsum (w.zip ((List.range n).map (vnI h n))) : Int) : Rat) / ((dnP h n : Int) : Rat) = sumR (fun j => ((w.getD j 0 : Int) : Rat) * h j) n := by
  have hp := dnP_pos h n
  have d0 : ((dnP h n : Int) : Rat) ≠ 0 := by
    intro z
    have : dnP h n = 0 := by exact_mod_cast z
    omega
  have e1 : ((wsum (w.zip ((List.range n).map (vnI h n))) : Int) : Rat) = sumR (fun j => ((w.getD j 0 : Int) : Rat) * ((vnI h n j : Int) : Rat)) n := by
    unfold wsum
    rw [sum_sumR, List.length_map, List.length_zip, List.length_map, List.length_range, hl, Nat.min_self]
    refine sumR_congr fun j hj => ?_
    have e : ((w.zip ((List.range n).map (vnI h n))).map fun z => z.1 * z.2).getD j 0 = w.getD j 0 * vnI h n j := by
      simp only [List.getD]
      rw [List.getElem?_map, List.getElem?_eq_getElem (by rw [List.length_zip, List.length_map, List.length_range]; omega), List.getElem_zip, List.getElem_map, List.getElem_range]
      rw [List.getElem?_eq_getElem (by omega)]
      rfl
    rw [e, Rat.intCast_mul]
  rw [e1]
  have e2 : sumR (fun j => ((w.getD j 0 : Int) : Rat) * h j) n = (1 / ((dnP h n : Int) : Rat)) * sumR (fun j => ((w.getD j 0 : Int) : Rat) * ((vnI h n j : Int) : Rat)) n := by
    rw [← sumR_mul]
    refine sumR_congr fun j hj => ?_
    have := vn_val (h := h) hj
    rw [← this]
    grind
  rw [e2]
  grind
section
variable {n : Nat} (hn : n ≤ 5) {h : Nat → Rat} (hq : ∀ j, j < n → qs 600 (h j))
include hn hq
theorem mean_q (b c e : Bool) {w : List Int} (hl : w.length = n) (hw : ∀ y ∈ w, 0 ≤ y ∧ y ≤ 9) (hs : 0 < w.sum) (H : Hc) : callL m_mean [sq b w, nL c e n h] H = .ok (qD (mnQ n h w)) H := by
  have hp := dnP_pos h n
  have hbn : 600 * n ≤ 3000 := by omega
  have sN : sm 4000 (dnP h n) := sm_le (by omega) (dnP_sm n hq)
  have hz1 : ((w.zip ((List.range n).map (vnI h n))).map fun z => z.1) = w := by
    have := List.map_fst_zip (l₁ := w) (l₂ := (List.range n).map (vnI h n)) (by simp; omega)
    exact this
  have hz2 : ((w.zip ((List.range n).map (vnI h n))).map fun z => shD e z.2 (dnP h n)) = (List.range n).map fun j => qE e (h j) := by
    rw [show (fun z : Int × Int => shD e z.2 (dnP h n)) = (fun v => shD e v (dnP h n)) ∘ Prod.snd from rfl, ← List.map_map, List.map_snd_zip (by simp; omega), List.map_map]
    exact List.map_congr_left fun j hj => shD_q e (by omega) (vn_val (List.mem_range.mp hj))
  have m := mean_ok (N := dnP h n) (Z := w.zip ((List.range n).map (vnI h n))) hp sN (fun z hz => by
    obtain ⟨a, d⟩ := List.of_mem_zip (a := z.1) (b := z.2) hz
    obtain ⟨j, hj, ej⟩ := List.mem_map.mp d
    refine ⟨(hw _ a).1, (hw _ a).2, ?_⟩
    rw [← ej]
    exact sm_le (by omega) (vn_sm (List.mem_range.mp hj) hq)) (by rw [List.length_zip]; omega) (by rw [hz1]; exact hs) b c e H
  rw [hz1, hz2, rdc_q _ (by have := Int.mul_pos hs hp; omega)] at m
  have e2 : (((wsum (w.zip ((List.range n).map (vnI h n)))) : Int) : Rat) / ((w.sum * dnP h n : Int) : Rat) = mnQ n h w := by
    unfold mnQ
    rw [← wsum_q hl, Rat.intCast_mul]
    have d0 : ((dnP h n : Int) : Rat) ≠ 0 := by
      intro z
      have : dnP h n = 0 := by exact_mod_cast z
      omega
    have s0 : ((w.sum : Int) : Rat) ≠ 0 := by
      intro z
      have : w.sum = 0 := by exact_mod_cast z
      omega
    generalize ((dnP h n : Int) : Rat) = a at *
    generalize ((w.sum : Int) : Rat) = s at *
    grind
  rw [e2] at m
  exact m
theorem mn_qs {w : List Int} (hw : ∀ y ∈ w, 0 ≤ y ∧ y ≤ 9) (hs : 0 < w.sum) (hs9 : w.sum ≤ 45) : qs 3100 (mnQ n h w) := by
  have hg : ∀ j, qs 5 ((w.getD j 0 : Int) : Rat) := fun j => by
    refine qs_int ?_ (by decide)
    by_cases hj : j < w.length
    · have : w.getD j 0 ∈ w := by simp [List.getD, hj]
      have := hw _ this
      omega
    · rw [List.getD, List.getElem?_eq_none (by omega)]
      decide
  have h1 : ∀ t, t ≤ n → qs (1 + t * 606) (sumR (fun j => ((w.getD j 0 : Int) : Rat) * h j) t) := by
    intro t
    induction t with
    | zero =>
      intro _
      have z : qs 1 (0 : Rat) := ⟨by decide, by decide⟩
      exact qs_le (by omega) z
    | succ t ih =>
      intro ht
      rw [sumR]
      exact qs_le (by omega) (qs_add (ih (by omega)) (qs_mul (hg t) (hq t (by omega))))
  have s0 : ((w.sum : Int) : Rat) ≠ 0 := by
    intro z
    have : w.sum = 0 := by exact_mod_cast z
    omega
  unfold mnQ
  exact qs_le (by omega) (qs_quo (h1 n (Nat.le_refl _)) (qs_int (k := 6) (by omega) (by decide)) s0)
theorem val_qs {x : Chc} (C : ChcOk n x) : qs 3200 (valQ n h x) := by
  obtain ⟨s0, s1⟩ := C.sum hn
  have hc := C.c
  unfold valQ
  exact qs_le (by omega) (qs_add (qs_int (k := 10) (by omega) (by decide)) (mn_qs hn hq C.w s0 s1))
theorem sums_q (b c e : Bool) {X : List Chc} (hX : X.length ≤ 100) (CX : ∀ x ∈ X, ChcOk n x) (H : Hc) : callL m_sums_ahead [stD b X, nL c e n h] H = .ok (.lst (X.map fun x => qD (valQ n h x))) H := by
  have e0 : ∀ h, seqD h (stD b X) = some (X.map (chcD b)) := fun h => seqD_sqs b _ h
  have e00 : chkQ (stD b X) (X.map (chcD b)) = fun _ => true := chkQ_sqs b _
  have ec : ∀ (x : Chc) (h : Hc), seqD h (chcD b x) = some [.int x.1, sq b x.2] := fun x h => seqD_sqs b _ h
  have e1 := lcR_two (chk := fun _ => true) (p := .t ((.n 2) :: ((.n 3) :: []))) (own := [2, 3]) (m := m_sums_ahead_c1) (ds := [some (stD b X), some (nL c e n h), none, none]) (h := []) rfl (X.map (chcD b)) (X.map fun x => qD (valQ n h x)) [] (by simp; omega) (by
    refine All2.map fun x hx => ⟨_, by simp [wipeD, ec]; rfl, ?_⟩
    have C := CX x hx
    obtain ⟨s0, s1⟩ := C.sum hn
    have hc := C.c
    have z := fun H => mean_q hn hq b c e C.len C.w s0 H
    have y := fun H => plus_q (p := ((x.1 : Int) : Rat)) (q := mnQ n h x.2) (qs_int (k := 4000) (Nat.lt_of_lt_of_le (show x.1.natAbs < 2 ^ 11 by omega) (Nat.pow_le_pow_right (by decide) (by decide))) (by decide)) (qs_le (by decide) (mn_qs hn hq C.w s0 s1)) false false H
    rw [qE_ff, qE_ff, qD_int] at y
    have y' : ∀ H, callL m_plus [.tup [.int x.1, .int 1], qD (mnQ n h x.2)] H = .ok (qD (valQ n h x)) H := y
    generalize qD (mnQ n h x.2) = MM at *
    generalize qD (valQ n h x) = RR at *
    generalize nL c e n h = VV at *
    simp [m_sums_ahead_c1, z, y'])
  refine call_flat (h' := []) (by simp [flat_nL]) ?_ (by rw [flat_lst]; exact flatL_map _ (fun x => flat_qD _) _) H
  unfold m_sums_ahead
  rw [runB_s]
  simp only [List.nil_append] at e1
  simp [e0, e00, e1]
end
/-! ### the first least -/
def fq (f : Nat → Rat) : Nat → Nat → Nat → Nat
  | _, 0, a => a
  | k, m + 1, a => fq f (k + 1) m (if f k < f a then k else a)
/-- a is the first least of those below k -/
def Fst (f : Nat → Rat) (k a : Nat) : Prop := (∀ i, i < k → f a ≤ f i) ∧ ∀ i, i < a → f a < f i
theorem fq_spec (f : Nat → Rat) : ∀ (m k a : Nat), a < k + 1 → Fst f k a → a < k + m → Fst f (k + m) (fq f k m a) ∧ fq f k m a < k + m
  | 0, k, a, _, F, ha => ⟨F, ha⟩
  | m + 1, k, a, h1, F, ha => by
    unfold fq
    rw [show k + (m + 1) = k + 1 + m by omega]
    by_cases c : f k < f a
    · rw [if_pos c]
      refine fq_spec f m (k + 1) k (by omega) ⟨fun i hi => ?_, fun i hi => ?_⟩ (by omega)
      · by_cases e : i = k
        · rw [e]; exact Rat.le_refl
        · have := F.1 i (by omega)
          grind
      · have := F.1 i hi
        grind
    · rw [if_neg c]
      have hak : a < k ∨ k = 0 ∧ a = 0 ∨ a = k := by omega
      refine fq_spec f m (k + 1) a (by omega) ⟨fun i hi => ?_, F.2⟩ (by omega)
      by_cases e : i = k
      · rw [e]; grind
      · exact F.1 i (by omega)
def fst1 (f : Nat → Rat) (n : Nat) : Nat := fq f 1 (n - 1) 0
theorem fst1_spec (f : Nat → Rat) {n : Nat} (h : 1 ≤ n) : fst1 f n < n ∧ (∀ i, i < n → f (fst1 f n) ≤ f i) ∧ ∀ i, i < fst1 f n → f (fst1 f n) < f i := by
  have := fq_spec f (n - 1) 1 0 (by omega) ⟨fun i hi => by
    have : i = 0 := by omega
    rw [this]
    exact Rat.le_refl, fun i hi => by omega⟩ (by omega)
  rw [show 1 + (n - 1) = n by omega] at this
  exact ⟨this.2, this.1.1, this.1.2⟩
theorem fq_0 (f : Nat → Rat) {n : Nat} (h : 1 ≤ n) : fq f 0 n 0 = fst1 f n := by
  obtain ⟨m, rfl⟩ : ∃ m, n = m + 1 := ⟨n - 1, by omega⟩
  conv => lhs; unfold fq
  have : ¬ f 0 < f 0 := by grind
  rw [if_neg this]
  rfl
theorem fq_congr {f g : Nat → Rat} {n : Nat} (e : ∀ i, i < n → f i = g i) : ∀ (m k a : Nat), k + m ≤ n → a < n → fq f k m a = fq g k m a
  | 0, k, a, _, _ => rfl
  | m + 1, k, a, h1, h2 => by
    unfold fq
    rw [e k (by omega), e a h2]
    exact fq_congr e m (k + 1) _ (by omega) (by split <;> omega)
section
variable {ys : List Rat} (hy : ∀ y ∈ ys, qs 4000 y) (hl : ys.length ≤ 1000)
include hy hl
theorem flq_loop (s0 : Option D) (hs0 : s0 = some (.lst (ys.map qD))) : ∀ (m k f : Nat) (x2 : Option D), k + m = ys.length → f < ys.length → ∃ y2, fl (fun _ => true) (.n 2) m_first_least_l1 ((List.range' k m).map fun (j : Nat) => D.int (j : Int)) [s0, some (.int (f : Int)), x2] [] = .nx [s0, some (.int (fq (fun i => ys.getD i 0) k m f : Nat)), y2] []
  | 0, k, f, x2, _, _ => ⟨x2, fl_end rfl⟩
  | m + 1, k, f, x2, hk, hf => by
    have hkl : k < ys.length := by omega
    have ix : ∀ (i : Nat) (hi : i < ys.length) (h : Hc), ixF (.lst (ys.map qD)) (.int (i : Int)) h = .ok (qD (ys.getD i 0)) h := fun i hi h => by
      rw [ixF_lst, atI_nat' (by simpa using hi)]
      simp [hi]
    have sy : ∀ i, i < ys.length → qs 4000 (ys.getD i 0) := fun i hi => by
      have := hy ys[i] (List.getElem_mem hi)
      simpa [hi] using this
    have e := fun h => less_q (p := ys.getD k 0) (q := ys.getD f 0) (sy k hkl) (sy f hf) false false h
    simp only [qE_ff] at e
    obtain ⟨y2, ih⟩ := flq_loop s0 hs0 m (k + 1) (if ys.getD k 0 < ys.getD f 0 then k else f) (some (.int (k : Int))) (by omega) (by split <;> omega)
    refine ⟨y2, ?_⟩
    have i1 := ix k hkl
    have i2 := ix f hf
    rw [List.range'_succ, List.map_cons]
    rw [fl_n (ds' := [s0, some (.int ((if ys.getD k 0 < ys.getD f 0 then k else f : Nat) : Int)), some (.int (k : Int))]) (h' := [])]
    · rw [ih]
      rfl
    · subst hs0
      generalize ys.map qD = YY at *
      generalize qD (ys.getD k 0) = RK at *
      generalize qD (ys.getD f 0) = RF at *
      generalize ys.getD k 0 = a at *
      generalize ys.getD f 0 = c at *
      by_cases hc : a < c <;> simp [m_first_least_l1, i1, i2, e, hc]
theorem first_q (hne : 1 ≤ ys.length) (h : Hc) : callL m_first_least [.lst (ys.map qD)] h = .ok (.int (fst1 (fun i => ys.getD i 0) ys.length : Nat)) h := by
  obtain ⟨y2, e⟩ := flq_loop hy hl (some (.lst (ys.map qD))) rfl (ys.length - 1) 1 0 none (by omega) (by omega)
  have eu : upFrom 1 (ys.length - 1) = (List.range' 1 (ys.length - 1)).map fun (j : Nat) => D.int (j : Int) := by
    unfold upFrom
    rw [List.range_eq_range']
    refine List.ext_getElem (by simp) fun i h1 h2 => ?_
    simp
  rw [← eu] at e
  have f := flatL_map qD (fun y => flat_qD y) ys
  have l : ∀ h : Hc, lenF [.lst (ys.map qD)] h = .ok (.int (ys.length : Int)) h := fun h => by simp
  have g1 : rgOk (ys.length : Int) = true := rgOk_nat (by omega)
  refine call_flat (h' := []) (by simp [f]) ?_ (by simp) h
  unfold m_first_least
  rw [runB_s]
  generalize ys.map qD = YY at *
  have e' : fl (fun _ => true) (.n 2) m_first_least_l1 (upFrom 1 (ys.length - 1)) [some (.lst YY), some (.int 0), none] [] = .nx [some (.lst YY), some (.int (fst1 (fun i => ys.getD i 0) ys.length : Nat)), y2] [] := e
  simp [l, g1, e']
end
end Mp
/-! PolF: the law's values and first least choices, by value. -/
namespace Mp
open PySem PySem.Spec PyProof.Rows L2
def vX (n : Nat) (h : Nat → Rat) (X : List Chc) (i : Nat) : Rat := valQ n h (X.getD i (0, []))
def fsX (n : Nat) (h : Nat → Rat) (X : List Chc) : Nat := fst1 (vX n h X) X.length
def fsP (n : Nat) (h : Nat → Rat) (Md : List (List Chc)) : List Nat := Md.map (fsX n h)
section
variable {n : Nat} (hn : n ≤ 5) {h : Nat → Rat} (hq : ∀ j, j < n → qs 600 (h j)) (c : Bool)
include hn hq
theorem nL_ix {t : Nat} (ht : t < n) (H : Hc) : ixF (nL c false n h) (.int (t : Int)) H = .ok (qD (h t)) H := by
  have := ixQ c (fun j => qE false (h j)) (List.range n) (i := t) (by rw [List.length_range]; exact ht) H
  rw [List.getElem_range] at this
  exact this
theorem lmq_loop {w : List Int} (hl : w.length = n) (hw : ∀ y ∈ w, 0 ≤ y ∧ y ≤ 9) : ∀ (k t : Nat) (x3 : Option D), t + k = n → ∃ y3, fl (fun _ => true) (.n 3) m_law_mean_l1 ((List.range' t k).map fun (j : Nat) => D.int (j : Int)) [some (sq false w), some (nL c false n h), some (qD (sumR (fun j => ((w.getD j 0 : Int) : Rat) * h j) t)), x3] [] = .nx [some (sq false w), some (nL c false n h), some (qD (sumR (fun j => ((w.getD j 0 : Int) : Rat) * h j) n)), y3] []
  | 0, t, x3, hk => by
    have : t = n := by omega
    subst this
    exact ⟨x3, fl_end rfl⟩
  | k + 1, t, x3, hk => by
    obtain ⟨y3, ih⟩ := lmq_loop hl hw k (t + 1) (some (.int (t : Int))) (by omega)
    have ht : t < n := by omega
    have e2 := fun H => nL_ix hn hq c ht H
    have wb : 0 ≤ w.getD t 0 ∧ w.getD t 0 ≤ 9 := by
      have : w.getD t 0 ∈ w := by simp [List.getD, hl, ht]
      exact hw _ this
    have e1 : ∀ H, ixF (sq false w) (.int (t : Int)) H = .ok (.int (w.getD t 0)) H := fun H => by
      have q : w[t]? = some (w.getD t 0) := by
        rw [List.getD_eq_getElem?_getD, List.getElem?_eq_getElem (by omega)]
        rfl
      rw [ixF_sq, atI_nat' (by rw [List.length_map]; omega), List.getElem?_map, q]
      rfl
    have qw : qs 5 ((w.getD t 0 : Int) : Rat) := qs_int (by omega) (by decide)
    have e3 := fun H => law_mul_z qw (hq t ht) (by omega) H
    rw [qD_int] at e3
    have qt : ∀ s, s ≤ t → qs (1 + s * 606) (sumR (fun j => ((w.getD j 0 : Int) : Rat) * h j) s) := by
      intro s
      induction s with
      | zero =>
        intro _
        have z : qs 1 (0 : Rat) := ⟨by decide, by decide⟩
        exact qs_le (by omega) z
      | succ s ih =>
        intro hs
        have wb : 0 ≤ w.getD s 0 ∧ w.getD s 0 ≤ 9 := by
          have hsn : s < n := by omega
          have : w.getD s 0 ∈ w := by simp [List.getD, hl, hsn]
          exact hw _ this
        rw [sumR]
        exact qs_le (by omega) (qs_add (ih (by omega)) (qs_mul (qs_int (k := 5) (by omega) (by decide)) (hq s (by omega))))
    have e4 := fun H => law_add_q (qs_le (show 1 + t * 606 ≤ 4000 by omega) (qt t (Nat.le_refl _))) (qs_le (show 5 + 600 ≤ 4000 by decide) (qs_mul qw (hq t ht))) H
    have es : sumR (fun j => ((w.getD j 0 : Int) : Rat) * h j) (t + 1) = sumR (fun j => ((w.getD j 0 : Int) : Rat) * h j) t + ((w.getD t 0 : Int) : Rat) * h t := rfl
    refine ⟨y3, ?_⟩
    rw [List.range'_succ, List.map_cons]
    refine Eq.trans (fl_n (b := m_law_mean_l1) ?_) ih
    rw [es]
    generalize qD (sumR (fun j => ((w.getD j 0 : Int) : Rat) * h j) t + ((w.getD t 0 : Int) : Rat) * h t) = X1 at *
    generalize qD (sumR (fun j => ((w.getD j 0 : Int) : Rat) * h j) t) = X0 at *
    generalize qD (((w.getD t 0 : Int) : Rat) * h t) = X2 at *
    generalize qD (h t) = X3 at *
    generalize w.getD t 0 = W at *
    generalize nL c false n h = VV at *
    generalize sq false w = WD at *
    simp [m_law_mean_l1, e1, e2, e3, e4]
theorem law_mean_q {w : List Int} (hl : w.length = n) (hw : ∀ y ∈ w, 0 ≤ y ∧ y ≤ 9) (hs : 0 < w.sum) (hs9 : w.sum ≤ 45) (H : Hc) : callL m_law_mean [sq false w, nL c false n h] H = .ok (qD (mnQ n h w)) H := by
  obtain ⟨y3, e⟩ := lmq_loop hn hq c hl hw n 0 none (by omega)
  rw [← upFrom_range] at e
  have e0 : qD (sumR (fun j => ((w.getD j 0 : Int) : Rat) * h j) 0) = .tup [.int 0, .int 1] := rfl
  rw [e0] at e
  have s0 : ((w.sum : Int) : Rat) ≠ 0 := by
    intro z
    have : w.sum = 0 := by exact_mod_cast z
    omega
  have q0 : qs 3100 (sumR (fun j => ((w.getD j 0 : Int) : Rat) * h j) n) := by
    have m := mn_qs hn hq hw hs hs9
    have : sumR (fun j => ((w.getD j 0 : Int) : Rat) * h j) n = mnQ n h w * ((w.sum : Int) : Rat) := by
      unfold mnQ
      grind
    have qt : ∀ s, s ≤ n → qs (1 + s * 606) (sumR (fun j => ((w.getD j 0 : Int) : Rat) * h j) s) := by
      intro s
      induction s with
      | zero =>
        intro _
        have z : qs 1 (0 : Rat) := ⟨by decide, by decide⟩
        exact qs_le (by omega) z
      | succ s ih =>
        intro hs
        have wb : 0 ≤ w.getD s 0 ∧ w.getD s 0 ≤ 9 := by
          have hsn : s < n := by omega
          have : w.getD s 0 ∈ w := by simp [List.getD, hl, hsn]
          exact hw _ this
        rw [sumR]
        exact qs_le (by omega) (qs_add (ih (by omega)) (qs_mul (qs_int (k := 5) (by omega) (by decide)) (hq s (by omega))))
    exact qs_le (by omega) (qt n (Nat.le_refl _))
  have qS : qs 6 ((w.sum : Int) : Rat) := qs_int (by omega) (by decide)
  have z := fun H => law_div_z q0 qS s0 (by decide) H
  rw [qD_int] at z
  have z' : ∀ H, callL m_law_div [qD (sumR (fun j => ((w.getD j 0 : Int) : Rat) * h j) n), .tup [.int w.sum, .int 1]] H = .ok (qD (mnQ n h w)) H := z
  have l : ∀ h, lenF [sq false w] h = .ok (.int (n : Int)) h := fun h => by rw [len_sq, hl]
  have g1 : rgOk (n : Int) = true := rgOk_nat (by omega)
  refine call_flat (h' := []) (by simp [flat_nL]) ?_ (flat_qD _) H
  unfold m_law_mean
  rw [runB_s]
  generalize qD (mnQ n h w) = RR at *
  generalize qD (sumR (fun j => ((w.getD j 0 : Int) : Rat) * h j) n) = R0 at *
  generalize nL c false n h = VV at *
  simp [l, g1, e, z']
theorem law_value_q {x : Chc} (C : ChcOk n x) (H : Hc) : callL m_law_value [chcD false x, nL c false n h] H = .ok (qD (valQ n h x)) H := by
  obtain ⟨s0, s1⟩ := C.sum hn
  have hc := C.c
  have e1 := fun H => law_mean_q hn hq c C.len C.w s0 s1 H
  have y := fun H => law_add_q (p := ((x.1 : Int) : Rat)) (q := mnQ n h x.2) (qs_int (k := 4000) (Nat.lt_of_lt_of_le (show x.1.natAbs < 2 ^ 11 by omega) (Nat.pow_le_pow_right (by decide) (by decide))) (by decide)) (qs_le (by decide) (mn_qs hn hq C.w s0 s1)) H
  rw [qD_int] at y
  have y' : ∀ H, callL m_law_add [.tup [.int x.1, .int 1], qD (mnQ n h x.2)] H = .ok (qD (valQ n h x)) H := y
  have i0 : ∀ h, ixF (chcD false x) (.int 0) h = .ok (.int x.1) h := fun h => by
    show ixF (sqs false _) (.int 0) h = _
    rw [ix_sqs]; simp
  have i1 : ∀ h, ixF (chcD false x) (.int 1) h = .ok (sq false x.2) h := fun h => by
    show ixF (sqs false _) (.int 1) h = _
    rw [ix_sqs]; simp
  refine call_flat (h' := []) (by simp [flat_nL]) ?_ (flat_qD _) H
  unfold m_law_value
  rw [runB_s]
  generalize qD (mnQ n h x.2) = R0 at *
  generalize qD (valQ n h x) = RR at *
  generalize nL c false n h = VV at *
  simp [i0, i1, e1, y']
theorem fiq_l1 {X : List Chc} (CX : ∀ x ∈ X, ChcOk n x) (s0 s2 : Option D) : ∀ (m k f : Nat) (x5 : Option D), k + m = X.length → f < X.length → ∃ y5, ∀ H, fl (fun _ => true) (.n 5) m_law_firsts_l1 ((List.range' k m).map fun (j : Nat) => D.int (j : Int)) [s0, some (nL c false n h), s2, some (stD false X), some (.int (f : Int)), x5] H = .nx [s0, some (nL c false n h), s2, some (stD false X), some (.int (fq (vX n h X) k m f : Nat)), y5] H
  | 0, k, f, x5, _, _ => ⟨x5, fun H => fl_end rfl⟩
  | m + 1, k, f, x5, hk, hf => by
    have hkl : k < X.length := by omega
    have ix : ∀ (i : Nat) (hi : i < X.length) (h : Hc), ixF (stD false X) (.int (i : Int)) h = .ok (chcD false X[i]) h := fun i hi h => ixQ false (chcD false) X hi h
    have ev : ∀ (i : Nat) (hi : i < X.length), vX n h X i = valQ n h X[i] := fun i hi => by unfold vX; simp [List.getD, hi]
    have c1 := CX X[k] (List.getElem_mem hkl)
    have c2 := CX X[f] (List.getElem_mem hf)
    have e1 := fun H => law_value_q hn hq c c1 H
    have e2 := fun H => law_value_q hn hq c c2 H
    have e3 := fun H => law_less_q (qs_le (show 3200 ≤ 4000 by decide) (val_qs hn hq c1)) (qs_le (show 3200 ≤ 4000 by decide) (val_qs hn hq c2)) H
    obtain ⟨y5, ih⟩ := fiq_l1 CX s0 s2 m (k + 1) (if vX n h X k < vX n h X f then k else f) (some (.int (k : Int))) (by omega) (by split <;> omega)
    refine ⟨y5, fun H => ?_⟩
    have i1 := ix k hkl
    have i2 := ix f hf
    rw [List.range'_succ, List.map_cons]
    refine Eq.trans (fl_n (b := m_law_firsts_l1) ?_) (ih H)
    rw [ev k hkl, ev f hf]
    generalize hRK : qD (valQ n h X[k]) = RK at *
    generalize hRF : qD (valQ n h X[f]) = RF at *
    generalize valQ n h X[k] = a at *
    generalize valQ n h X[f] = d at *
    generalize nL c false n h = VV at *
    generalize chcD false X[k] = CK at *
    generalize chcD false X[f] = CF at *
    by_cases hc : a < d <;> simp [m_law_firsts_l1, i1, i2, e1, e2, e3, hc]
theorem fiq_l2 (s0 : Option D) : ∀ (Xs : List (List Chc)) (acc : List D) (x3 x4 x5 : Option D), acc.length + Xs.length ≤ 1000 → (∀ X ∈ Xs, 1 ≤ X.length ∧ X.length ≤ 100 ∧ ∀ x ∈ X, ChcOk n x) →
    ∃ y3 y4 y5, fl (fun _ => true) (.n 3) m_law_firsts_l2 (Xs.map (stD false)) [s0, some (nL c false n h), some (.ref 0), x3, x4, x5] [C.lst acc] = .nx [s0, some (nL c false n h), some (.ref 0), y3, y4, y5] [C.lst (acc ++ Xs.map fun X => D.int (fsX n h X : Nat))]
  | [], acc, x3, x4, x5, _, _ => ⟨x3, x4, x5, by simp [fl_end]⟩
  | X :: Xs, acc, x3, x4, x5, hl, hX => by
    simp only [List.length_cons] at hl
    have hx := hX X (by simp)
    obtain ⟨z5, e1⟩ := fiq_l1 hn hq c hx.2.2 s0 (some (.ref 0)) X.length 0 0 x5 (by omega) hx.1
    rw [← upFrom_range, fq_0 _ hx.1] at e1
    have e1' : ∀ h', fl (fun _ => true) (.n 5) m_law_firsts_l1 (upFrom 0 X.length) [s0, some (nL c false n h), some (.ref 0), some (stD false X), some (.int 0), x5] h' = .nx [s0, some (nL c false n h), some (.ref 0), some (stD false X), some (.int (fsX n h X : Nat)), z5] h' := e1
    have l : ∀ h, lenF [stD false X] h = .ok (.int (X.length : Int)) h := fun h => by simp [stD]
    have g1 : rgOk (X.length : Int) = true := rgOk_nat (by omega)
    obtain ⟨y3, y4, y5, ih⟩ := fiq_l2 s0 Xs (acc ++ [D.int (fsX n h X : Nat)]) (some (stD false X)) (some (.int (fsX n h X : Nat))) z5 (by simp; omega) fun Y hY => hX Y (by simp [hY])
    refine ⟨y3, y4, y5, ?_⟩
    rw [List.map_cons, fl_n (ds' := [s0, some (nL c false n h), some (.ref 0), some (stD false X), some (.int (fsX n h X : Nat)), z5]) (h' := [C.lst (acc ++ [D.int (fsX n h X : Nat)])])]
    · rw [ih, List.append_assoc]
      rfl
    · have hac : acc.length < 1000000 := by omega
      generalize fsX n h X = FF at *
      generalize nL c false n h = VV at *
      have t1 : (sSet 4 (eC (.int 0))) [s0, some VV, some (.ref 0), some (stD false X), x4, x5] [C.lst acc] = .nx [s0, some VV, some (.ref 0), some (stD false X), some (.int 0), x5] [C.lst acc] := by simp
      have t2 : (sFor (iRg1 (aCons (eCB lenF (aCons (eVar 3) aNil)) aNil)) (.n 5) m_law_firsts_l1) [s0, some VV, some (.ref 0), some (stD false X), some (.int 0), x5] [C.lst acc] = .nx [s0, some VV, some (.ref 0), some (stD false X), some (.int (FF : Nat)), z5] [C.lst acc] := by
        simp [l, g1, e1']
      have t3 : (sDrop (eBM "list" appF (eVar 2) (aCons (eVar 4) aNil))) [s0, some VV, some (.ref 0), some (stD false X), some (.int (FF : Nat)), z5] [C.lst acc] = .nx [s0, some VV, some (.ref 0), some (stD false X), some (.int (FF : Nat)), z5] [C.lst (acc ++ [D.int (FF : Nat)])] := by
        simp [kindOk, appF, hac]
      unfold m_law_firsts_l2
      show sSeq _ _ [s0, some VV, some (.ref 0), some (stD false X), x4, x5] [C.lst acc] = _
      rw [seq_nx _ _ _ _ _ _ t1, seq_nx _ _ _ _ _ _ t2, t3]
theorem firsts_q {Md : List (List Chc)} (hM : Md.length ≤ 1000) (hX : ∀ X ∈ Md, 1 ≤ X.length ∧ X.length ≤ 100 ∧ ∀ x ∈ X, ChcOk n x) (H : Hc) : callL m_law_firsts [mdD false Md, nL c false n h] H = .ok (sq false (iN (fsP n h Md))) H := by
  obtain ⟨y3, y4, y5, e1⟩ := fiq_l2 hn hq c (some (mdD false Md)) Md [] none none none (by simpa using hM) hX
  have e0 : ∀ h, seqD h (mdD false Md) = some (Md.map (stD false)) := fun h => seqD_sqs false _ h
  have e00 : chkQ (mdD false Md) (Md.map (stD false)) = fun _ => true := chkQ_sqs false _
  have eo : sq false (iN (fsP n h Md)) = .tup (Md.map fun X => D.int (fsX n h X : Nat)) := by
    unfold fsP iN
    show D.tup _ = _
    rw [List.map_map, List.map_map]
    rfl
  have ff : flatL (Md.map fun X => D.int (fsX n h X : Nat)) = true := flatL_map _ (fun v => flat_int _) _
  rw [eo]
  refine call_flat (h' := [C.lst (Md.map fun X => D.int (fsX n h X : Nat))]) (by simp [flat_nL]) ?_ (by rw [flat_tup]; exact ff) H
  unfold m_law_firsts
  rw [runB_s]
  simp only [List.nil_append] at e1
  generalize (Md.map fun X => D.int (fsX n h X : Nat)) = OUT at *
  simp [e0, e00, e1, tupleF]
end
theorem md_st {Md : List (List Chc)} (C : MdOk Md) : ∀ X ∈ Md, 1 ≤ X.length ∧ X.length ≤ 100 ∧ ∀ x ∈ X, ChcOk Md.length x := fun X hX => by
  obtain ⟨a, b, c⟩ := C.st X hX
  exact ⟨a, by omega, c⟩
end Mp
/-! EqInt: == of lists of numbers and of fractions. -/
namespace Mp
open PySem PySem.Spec PyProof.Rows L2
theorem toPyL_ints : ∀ a : List Int, toPyL (a.map D.int) = some (a.map PyData.int)
  | [] => rfl
  | x :: r => by
    rw [List.map_cons, List.map_cons]
    unfold toPyL
    rw [toPyL_ints r]
    simp [toPy]
theorem eqv_ints : ∀ a b : List Int, PyData.eqvAll (a.map PyData.int) (b.map PyData.int) = decide (a = b)
  | [], [] => by simp [PyData.eqvAll]
  | [], _ :: _ => by simp [PyData.eqvAll]
  | _ :: _, [] => by simp [PyData.eqvAll]
  | x :: r, y :: t => by
    rw [List.map_cons, List.map_cons, PyData.eqvAll, eqv_ints r t]
    by_cases h : x = y
    · by_cases g : r = t
      · simp [PyData.eqv, h, g]
      · simp [PyData.eqv, h, g]
    · simp [PyData.eqv, h]
theorem lay_ints : ∀ a : List Int, PyData.canLayAll0 (a.map PyData.int) = true ∧ PyData.depthAll (a.map PyData.int) = 0
  | [] => by simp [PyData.canLayAll0, PyData.depthAll]
  | x :: r => by
    obtain ⟨h1, h2⟩ := lay_ints r
    simp [PyData.canLayAll0, PyData.canLay0, PyData.depthAll, PyData.depth, h1, h2]
theorem eqG_tups (neg : Bool) (a b : List Int) (h : Hc) : eqG neg (.tup (a.map D.int)) (.tup (b.map D.int)) h = .ok (.bl (if neg then !decide (a = b) else decide (a = b))) h := by
  have sh : ∀ a : List Int, SeqAt.shaped (.tuple (a.map PyData.int)) = true := fun a => by
    obtain ⟨h1, h2⟩ := lay_ints a
    unfold SeqAt.shaped
    simp [PyData.canLay0, PyData.depth, h1, h2]
  have e : ∀ a : List Int, toPyR h (.tup (a.map D.int)) = some (.tuple (a.map PyData.int)) := fun a => by
    show toPy (.tup (a.map D.int)) = _
    unfold toPy
    rw [toPyL_ints]
    rfl
  show (match toPyR h (.tup (a.map D.int)), toPyR h (.tup (b.map D.int)) with
    | some a, some b => if SeqAt.shaped a = true ∧ SeqAt.shaped b = true then R.ok (D.bl (if neg = true then !PyData.eqv a b else PyData.eqv a b)) h else .bad
    | _, _ => .bad) = _
  rw [e a, e b]
  simp only
  rw [if_pos ⟨sh a, sh b⟩]
  have : PyData.eqv (.tuple (a.map PyData.int)) (.tuple (b.map PyData.int)) = decide (a = b) := by
    rw [PyData.eqv, eqv_ints]
  rw [this]
theorem eqG_q (neg : Bool) (p q : Rat) (h : Hc) : eqG neg (qD p) (qD q) h = .ok (.bl (if neg then !decide (p = q) else decide (p = q))) h := by
  have e := eqG_tups neg [p.num, (p.den : Int)] [q.num, (q.den : Int)] h
  have : ([p.num, (p.den : Int)] = [q.num, (q.den : Int)]) ↔ p = q := by
    constructor
    · intro z
      injection z with z1 z2
      injection z2 with z2
      exact Rat.ext z1 (by omega)
    · intro z
      rw [z]
  simp only [this] at e
  exact e
end Mp
/-! PolG: policies that no change of a single choice improves. -/
namespace Mp
open PySem PySem.Spec PyProof.Rows L2
theorem chs_at {Md : List (List Chc)} {P : List Nat} (O : PoOk Md P) {s : Nat} (hs : s < Md.length) : (chs Md P).getD s (0, []) = (Md.getD s []).getD (P.getD s 0) (0, []) := by
  have hl := O.len
  unfold chs
  simp only [List.getD]
  rw [List.getElem?_map, List.getElem?_eq_getElem (by rw [List.length_zip]; omega), List.getElem_zip, List.getElem?_eq_getElem hs, List.getElem?_eq_getElem (l := P) (i := s) (by omega)]
  rfl
theorem po_at {Md : List (List Chc)} {P : List Nat} (O : PoOk Md P) {s : Nat} (hs : s < Md.length) : P.getD s 0 < (Md.getD s []).length := by
  have hl := O.len
  have hz : (Md[s], P[s]) ∈ Md.zip P := by
    rw [List.mem_iff_getElem]
    exact ⟨s, by rw [List.length_zip]; omega, by rw [List.getElem_zip]⟩
  have := O.fit _ hz
  have e1 : P.getD s 0 = P[s] := by
    have : s < P.length := by omega
    simp [List.getD, this]
  have e2 : Md.getD s [] = Md[s] := by simp [List.getD, hs]
  rw [e1, e2]
  exact this
theorem po_of {Md : List (List Chc)} {P : List Nat} (hl : P.length = Md.length) (h : ∀ s, s < Md.length → P.getD s 0 < (Md.getD s []).length) : PoOk Md P := by
  refine ⟨hl, fun z hz => ?_⟩
  obtain ⟨s, hs, e⟩ := List.mem_iff_getElem.mp hz
  rw [List.length_zip] at hs
  rw [List.getElem_zip] at e
  have := h s (by omega)
  have e1 : P.getD s 0 = P[s] := by
    have : s < P.length := by omega
    simp [List.getD, this]
  have e2 : Md.getD s [] = Md[s] := by
    have : s < Md.length := by omega
    simp [List.getD, this]
  rw [e1, e2] at this
  rw [← e]
  exact this
theorem val_mul {CH : List Chc} (K : ChsOk CH) (h : Nat → Rat) {s : Nat} (hs : s < CH.length) : ((sm1 (PM CH) s : Int) : Rat) * valQ CH.length h (CH.getD s (0, [])) = sumR (fun j => ((wt (PM CH) s j : Int) : Rat) * h j) CH.length + ((cst CH s : Int) : Rat) * ((sm1 (PM CH) s : Int) : Rat) := by
  have h0 := sm1_ne K.chn (s := s) (by rw [PM_len]; exact hs)
  have e2 : (CH.getD s (0, [])).2 = (PM CH).getD s [] := by unfold PM; simp [List.getD, hs]
  have e3 : (((CH.getD s (0, [])).2.sum : Int) : Rat) = ((sm1 (PM CH) s : Int) : Rat) := by unfold sm1; rw [e2]
  have e4 : sumR (fun j => (((CH.getD s (0, [])).2.getD j 0 : Int) : Rat) * h j) CH.length = sumR (fun j => ((wt (PM CH) s j : Int) : Rat) * h j) CH.length := by
    unfold wt
    rw [e2]
  unfold valQ mnQ
  rw [e3, e4]
  show _ * (((cst CH s : Int) : Rat) + _) = _
  generalize ((sm1 (PM CH) s : Int) : Rat) = S at *
  generalize sumR (fun j => ((wt (PM CH) s j : Int) : Rat) * h j) CH.length = Z
  generalize ((cst CH s : Int) : Rat) = c
  grind
theorem mul_canc {a b c : Rat} (h : a ≠ 0) (e : a * b = a * c) : b = c := by
  have : a * (b - c) = 0 := by grind
  rcases Rat.mul_eq_zero.mp this with z | z
  · exact absurd z h
  · grind
theorem sat_val {CH : List Chc} (K : ChsOk CH) {x : Nat → Rat} : satM CH.length 1 (gR CH) x ↔ ∀ s, s < CH.length → x 0 + hh x s = valQ CH.length (hh x) (CH.getD s (0, [])) := by
  have key : ∀ s, s < CH.length → (satL CH.length 1 (gR CH s) x ↔ x 0 + hh x s = valQ CH.length (hh x) (CH.getD s (0, []))) := fun s hs => by
    have h0 := sm1_ne K.chn (s := s) (by rw [PM_len]; exact hs)
    rw [g_sat K hs x]
    have v := val_mul K (hh x) hs
    constructor
    · intro e
      refine mul_canc h0 ?_
      rw [v, e]
      grind
    · intro e
      rw [e, v]
      grind
  exact ⟨fun h s hs => (key s hs).mp (h s hs), fun h s hs => (key s hs).mpr (h s hs)⟩
theorem g_top' {CH : List Chc} (C : ChsOk CH) {h : Nat → Rat} (h0 : h 0 = 0) {g : Rat} (e : ∀ s, s < CH.length → ((sm1 (PM CH) s : Int) : Rat) * (g + h s) ≤ sumR (fun j => ((wt (PM CH) s j : Int) : Rat) * h j) CH.length) : g ≤ 0 ∧ (g = 0 → ∀ j, j < CH.length → h j ≤ 0) := by
  obtain ⟨s, hs, hm⟩ := max_ex h C.lo
  have hs' : s < (PM CH).length := by rw [PM_len]; exact hs
  have hm' : ∀ j, j < (PM CH).length → h j ≤ h s := fun j hj => hm j (by rw [PM_len] at hj; exact hj)
  have a1 := mean_le C.chn hs' hm'
  have es := e s hs
  rw [PM_len] at a1
  have p : (0 : Rat) < ((sm1 (PM CH) s : Int) : Rat) := by exact_mod_cast (C.chn.at1 hs').1
  refine ⟨?_, fun hg j hj => ?_⟩
  · have a2 : ((sm1 (PM CH) s : Int) : Rat) * g ≤ 0 := by
      have : ((sm1 (PM CH) s : Int) : Rat) * (g + h s) = ((sm1 (PM CH) s : Int) : Rat) * g + ((sm1 (PM CH) s : Int) : Rat) * h s := by grind
      grind
    by_cases c : g ≤ 0
    · exact c
    · exfalso
      have := Rat.mul_pos p (Rat.not_le.mp c)
      grind
  · have a3 := mean_all C.chn hs' (x := h) (X := h s) hm' (by
      rw [PM_len]
      have : (0 : Rat) + h s = h s := by grind
      rw [hg, this] at es
      exact es) 0 (by rw [PM_len]; exact C.lo) (by have := (C.at hs).2.2; omega)
    have := hm j hj
    grind
theorem val_congr {n : Nat} {h k : Nat → Rat} (e : ∀ j, j < n → h j = k j) (x : Chc) : valQ n h x = valQ n k x := by
  unfold valQ mnQ
  rw [show sumR (fun j => ((x.2.getD j 0 : Int) : Rat) * h j) n = sumR (fun j => ((x.2.getD j 0 : Int) : Rat) * k j) n from sumR_congr fun j hj => by rw [e j hj]]
theorem mul_le_p {a b c : Rat} (h : 0 < a) (e : b ≤ c) : a * b ≤ a * c := by
  have : 0 ≤ a * (c - b) := Rat.mul_nonneg (Rat.le_of_lt h) (by grind)
  grind
section
variable {n : Nat} {CH : List Chc} (K : ChsOk CH) (hl : CH.length = n) {x y : Nat → Rat} (hy : satM n 1 (gR CH) y)
include K hl hy
theorem cmp_le (hd : ∀ s, s < n → valQ n (hh x) (CH.getD s (0, [])) ≤ x 0 + hh x s) : y 0 ≤ x 0 ∧ (y 0 = x 0 → ∀ j, j < n → hh y j ≤ hh x j) := by
  subst hl
  have hv := (sat_val K).mp hy
  obtain ⟨a1, a2⟩ := g_top' K (h := fun j => hh y j - hh x j) (g := y 0 - x 0) (by show hh y 0 - hh x 0 = 0; unfold hh; simp; grind) fun s hs => by
    have p : (0 : Rat) < ((sm1 (PM CH) s : Int) : Rat) := by exact_mod_cast (K.chn.at1 (s := s) (by rw [PM_len]; exact hs)).1
    have e1 := val_mul K (hh y) hs
    have e2 := val_mul K (hh x) hs
    rw [← hv s hs] at e1
    have e3 := mul_le_p p (hd s hs)
    rw [e2] at e3
    have e4 : sumR (fun j => ((wt (PM CH) s j : Int) : Rat) * (hh y j - hh x j)) CH.length = sumR (fun j => ((wt (PM CH) s j : Int) : Rat) * hh y j) CH.length - sumR (fun j => ((wt (PM CH) s j : Int) : Rat) * hh x j) CH.length := by
      rw [← sumR_sub]
      exact sumR_congr fun j _ => by grind
    rw [e4]
    have e5 : ((sm1 (PM CH) s : Int) : Rat) * (y 0 - x 0 + (hh y s - hh x s)) = ((sm1 (PM CH) s : Int) : Rat) * (y 0 + hh y s) - ((sm1 (PM CH) s : Int) : Rat) * (x 0 + hh x s) := by grind
    rw [e5, e1]
    grind
  refine ⟨by grind, fun e j hj => ?_⟩
  have : hh y j - hh x j ≤ 0 := a2 (by grind) j hj
  grind
theorem cmp_ge (hd : ∀ s, s < n → x 0 + hh x s ≤ valQ n (hh x) (CH.getD s (0, []))) : x 0 ≤ y 0 ∧ (y 0 = x 0 → ∀ j, j < n → hh x j ≤ hh y j) := by
  subst hl
  have hv := (sat_val K).mp hy
  obtain ⟨a1, a2⟩ := g_top' K (h := fun j => hh x j - hh y j) (g := x 0 - y 0) (by show hh x 0 - hh y 0 = 0; unfold hh; simp; grind) fun s hs => by
    have p : (0 : Rat) < ((sm1 (PM CH) s : Int) : Rat) := by exact_mod_cast (K.chn.at1 (s := s) (by rw [PM_len]; exact hs)).1
    have e1 := val_mul K (hh y) hs
    have e2 := val_mul K (hh x) hs
    rw [← hv s hs] at e1
    have e3 := mul_le_p p (hd s hs)
    rw [e2] at e3
    have e4 : sumR (fun j => ((wt (PM CH) s j : Int) : Rat) * (hh x j - hh y j)) CH.length = sumR (fun j => ((wt (PM CH) s j : Int) : Rat) * hh x j) CH.length - sumR (fun j => ((wt (PM CH) s j : Int) : Rat) * hh y j) CH.length := by
      rw [← sumR_sub]
      exact sumR_congr fun j _ => by grind
    rw [e4]
    have e5 : ((sm1 (PM CH) s : Int) : Rat) * (x 0 - y 0 + (hh x s - hh y s)) = ((sm1 (PM CH) s : Int) : Rat) * (x 0 + hh x s) - ((sm1 (PM CH) s : Int) : Rat) * (y 0 + hh y s) := by grind
    rw [e5, e1]
    grind
  refine ⟨by grind, fun e j hj => ?_⟩
  have : hh x j - hh y j ≤ 0 := a2 (by grind) j hj
  grind
end
/-! ### the numbers of a policy -/
noncomputable def xP (Md : List (List Chc)) (P : List Nat) : Nat → Rat := by
  classical
  exact if h : ∃ x, satM Md.length 1 (gR (chs Md P)) x then h.choose else fun _ => 0
theorem xP_sat {Md : List (List Chc)} (C : MdOk Md) {P : List Nat} (O : PoOk Md P) : satM Md.length 1 (gR (chs Md P)) (xP Md P) := by
  have h : ∃ x, satM Md.length 1 (gR (chs Md P)) x := by
    obtain ⟨x, hx, _⟩ := settled_ok C O
    exact ⟨x, hx⟩
  unfold xP
  rw [dif_pos h]
  exact h.choose_spec
theorem xP_uniq {Md : List (List Chc)} (C : MdOk Md) {P : List Nat} (O : PoOk Md P) {x : Nat → Rat} (hx : satM Md.length 1 (gR (chs Md P)) x) : ∀ j, j < Md.length → x j = xP Md P j := by
  have N : NSing Md.length (gR (chs Md P)) := by rw [← chs_len O]; exact g_ns (chs_ok C O)
  exact sat_uniq N hx (xP_sat C O)
theorem xP_qs {Md : List (List Chc)} (C : MdOk Md) {P : List Nat} (O : PoOk Md P) : ∀ j, j < Md.length → qs 550 (xP Md P j) := by
  have K := chs_ok C O
  have hl := chs_len O
  have hi' := K.hi
  have pw : 2 ^ (chs Md P).length ≤ 2 ^ 5 := Nat.pow_le_pow_right (by decide) hi'
  obtain ⟨x, sx, ⟨B, hB, qB⟩, _⟩ := solved_refb K.lo (by omega) (eqW_ok K) (by decide) (by omega) (eqW_ns K)
  rw [eqW_sat K, hl] at sx
  intro j hj
  rw [← xP_uniq C O sx j hj]
  exact qs_le (by omega) (qB j (by omega))
theorem hh_qs {n k : Nat} (hk : 1 ≤ k) {x : Nat → Rat} (h : ∀ j, j < n → qs k (x j)) : ∀ j, j < n → qs k (hh x j) := fun j hj => by
  unfold hh
  split
  · have z : qs 1 (0 : Rat) := ⟨by decide, by decide⟩
    exact qs_le hk z
  · exact h j hj
theorem xP_val {Md : List (List Chc)} (C : MdOk Md) {P : List Nat} (O : PoOk Md P) : ∀ s, s < Md.length → xP Md P 0 + hh (xP Md P) s = vX Md.length (hh (xP Md P)) (Md.getD s []) (P.getD s 0) := fun s hs => by
  have K := chs_ok C O
  have hl := chs_len O
  have := (sat_val K).mp (by rw [hl]; exact xP_sat C O) s (by omega)
  rw [hl, chs_at O hs] at this
  exact this
/-- the improved policy -/
def impP (n : Nat) (h : Nat → Rat) (Md : List (List Chc)) (P : List Nat) : List Nat := (Md.zip P).map fun z => if vX n h z.1 (fsX n h z.1) < vX n h z.1 z.2 then fsX n h z.1 else z.2
theorem imp_len {n : Nat} {h : Nat → Rat} {Md : List (List Chc)} {P : List Nat} (hl : P.length = Md.length) : (impP n h Md P).length = Md.length := by
  unfold impP
  rw [List.length_map, List.length_zip]
  omega
theorem imp_at {n : Nat} {h : Nat → Rat} {Md : List (List Chc)} {P : List Nat} (hl : P.length = Md.length) {s : Nat} (hs : s < Md.length) : (impP n h Md P).getD s 0 = if vX n h (Md.getD s []) (fsX n h (Md.getD s [])) < vX n h (Md.getD s []) (P.getD s 0) then fsX n h (Md.getD s []) else P.getD s 0 := by
  have hsP : s < P.length := by omega
  have e1 : Md.getD s [] = Md[s] := by simp [List.getD, hs]
  have e2 : P.getD s 0 = P[s] := by simp [List.getD, hsP]
  rw [e1, e2]
  unfold impP
  rw [List.getD_eq_getElem?_getD, List.getElem?_map, List.getElem?_eq_getElem (by rw [List.length_zip]; omega), List.getElem_zip]
  rfl
theorem md_at {Md : List (List Chc)} (C : MdOk Md) {s : Nat} (hs : s < Md.length) : Md.getD s [] ∈ Md := by
  simp [List.getD, hs]
theorem imp_ok {n : Nat} {h : Nat → Rat} {Md : List (List Chc)} (C : MdOk Md) {P : List Nat} (O : PoOk Md P) : PoOk Md (impP n h Md P) := by
  refine po_of (imp_len O.len) fun s hs => ?_
  rw [imp_at O.len hs]
  split
  · exact (fst1_spec _ (C.st _ (md_at C hs)).1).1
  · exact po_at O hs
def Ltx (n : Nat) (y x : Nat → Rat) : Prop := y 0 < x 0 ∨ y 0 = x 0 ∧ sumR (hh y) n < sumR (hh x) n
theorem sumR_le {f g : Nat → Rat} : ∀ {n : Nat}, (∀ i, i < n → f i ≤ g i) → sumR f n ≤ sumR g n
  | 0, _ => Rat.le_refl
  | n + 1, h => by
    have h1 := sumR_le (f := f) (g := g) (n := n) fun i hi => h i (by omega)
    have h2 := h n (by omega)
    rw [sumR, sumR]
    grind
theorem sumR_lt {f g : Nat → Rat} {k : Nat} : ∀ {n : Nat}, (∀ i, i < n → f i ≤ g i) → k < n → f k < g k → sumR f n < sumR g n
  | 0, _, hk, _ => by omega
  | n + 1, h, hk, hlt => by
    have h2 := h n (by omega)
    rw [sumR, sumR]
    by_cases e : k = n
    · subst e
      have h1 := sumR_le (f := f) (g := g) (n := k) fun i hi => h i (by omega)
      grind
    · have h1 := sumR_lt (f := f) (g := g) (k := k) (n := n) (fun i hi => h i (by omega)) (by omega) hlt
      grind
theorem imp_lt {Md : List (List Chc)} (C : MdOk Md) {P : List Nat} (O : PoOk Md P) (ne : impP Md.length (hh (xP Md P)) Md P ≠ P) : Ltx Md.length (xP Md (impP Md.length (hh (xP Md P)) Md P)) (xP Md P) := by
  have O' := imp_ok (n := Md.length) (h := hh (xP Md P)) C O
  have K' := chs_ok C O'
  have hl' := chs_len O'
  have v := xP_val C O
  have hle : ∀ s, s < Md.length → valQ Md.length (hh (xP Md P)) ((chs Md (impP Md.length (hh (xP Md P)) Md P)).getD s (0, [])) ≤ xP Md P 0 + hh (xP Md P) s := fun s hs => by
    rw [chs_at O' hs, v s hs, imp_at O.len hs]
    show vX Md.length (hh (xP Md P)) (Md.getD s []) _ ≤ _
    split
    · rename_i c
      exact Rat.le_of_lt c
    · exact Rat.le_refl
  obtain ⟨a1, a2⟩ := cmp_le K' hl' (x := xP Md P) (xP_sat C O') hle
  by_cases e : xP Md (impP Md.length (hh (xP Md P)) Md P) 0 = xP Md P 0
  · right
    refine ⟨e, ?_⟩
    have b := a2 e
    have ex : ∃ k, k < Md.length ∧ hh (xP Md (impP Md.length (hh (xP Md P)) Md P)) k < hh (xP Md P) k := by
      by_cases z : ∃ k, k < Md.length ∧ hh (xP Md (impP Md.length (hh (xP Md P)) Md P)) k < hh (xP Md P) k
      · exact z
      · exfalso
        have eq : ∀ j, j < Md.length → hh (xP Md (impP Md.length (hh (xP Md P)) Md P)) j = hh (xP Md P) j := fun j hj => by
          have := b j hj
          by_cases q : hh (xP Md (impP Md.length (hh (xP Md P)) Md P)) j < hh (xP Md P) j
          · exact absurd ⟨j, hj, q⟩ z
          · grind
        apply ne
        have hl := O.len
        apply List.ext_getElem (by rw [imp_len hl, hl])
        intro s h1 h2
        have hs : s < Md.length := by omega
        have e1 := imp_at (n := Md.length) (h := hh (xP Md P)) hl hs
        have g1 : (impP Md.length (hh (xP Md P)) Md P).getD s 0 = (impP Md.length (hh (xP Md P)) Md P)[s] := by simp [List.getD, h1]
        have g2 : P.getD s 0 = P[s] := by simp [List.getD, h2]
        rw [← g1, ← g2, e1]
        split
        · rename_i c
          exfalso
          have w := xP_val C O' s hs
          have v2 := v s hs
          rw [e, eq s hs, v2, e1, if_pos c] at w
          have w2 : vX Md.length (hh (xP Md (impP Md.length (hh (xP Md P)) Md P))) (Md.getD s []) (fsX Md.length (hh (xP Md P)) (Md.getD s [])) = vX Md.length (hh (xP Md P)) (Md.getD s []) (fsX Md.length (hh (xP Md P)) (Md.getD s [])) := val_congr eq _
          rw [w2] at w
          rw [w] at c
          grind
        · rfl
    obtain ⟨k, hk, hlt⟩ := ex
    exact sumR_lt b hk hlt
  · left
    grind
/-- no choice of any state is better -/
def Opt (Md : List (List Chc)) (x : Nat → Rat) : Prop := ∀ s, s < Md.length → ∀ i, i < (Md.getD s []).length → x 0 + hh x s ≤ vX Md.length (hh x) (Md.getD s []) i
theorem imp_opt {Md : List (List Chc)} (C : MdOk Md) {P : List Nat} (O : PoOk Md P) (e : impP Md.length (hh (xP Md P)) Md P = P) : Opt Md (xP Md P) := fun s hs i hi => by
  have v := xP_val C O s hs
  obtain ⟨f1, f2, f3⟩ := fst1_spec (vX Md.length (hh (xP Md P)) (Md.getD s [])) (C.st _ (md_at C hs)).1
  have e1 := imp_at (n := Md.length) (h := hh (xP Md P)) O.len hs
  rw [e] at e1
  rw [v]
  have a := f2 i hi
  by_cases c : vX Md.length (hh (xP Md P)) (Md.getD s []) (fsX Md.length (hh (xP Md P)) (Md.getD s [])) < vX Md.length (hh (xP Md P)) (Md.getD s []) (P.getD s 0)
  · exfalso
    rw [if_pos c] at e1
    rw [← e1] at c
    grind
  · have c' : vX Md.length (hh (xP Md P)) (Md.getD s []) (P.getD s 0) ≤ vX Md.length (hh (xP Md P)) (Md.getD s []) (fsX Md.length (hh (xP Md P)) (Md.getD s [])) := Rat.not_lt.mp c
    exact Rat.le_trans c' a
theorem opt_ge {Md : List (List Chc)} (C : MdOk Md) {x : Nat → Rat} (hx : Opt Md x) {Q : List Nat} (O : PoOk Md Q) : x 0 ≤ xP Md Q 0 ∧ (xP Md Q 0 = x 0 → ∀ j, j < Md.length → hh x j ≤ hh (xP Md Q) j) :=
  cmp_ge (chs_ok C O) (chs_len O) (x := x) (xP_sat C O) fun s hs => by
    rw [chs_at O hs]
    exact hx s hs _ (po_at O hs)
theorem opt_uniq {Md : List (List Chc)} (C : MdOk Md) {P Q : List Nat} (OP : PoOk Md P) (OQ : PoOk Md Q) (hP : Opt Md (xP Md P)) (hQ : Opt Md (xP Md Q)) : ∀ j, j < Md.length → xP Md P j = xP Md Q j := by
  obtain ⟨a1, a2⟩ := opt_ge C hP OQ
  obtain ⟨b1, b2⟩ := opt_ge C hQ OP
  have e : xP Md P 0 = xP Md Q 0 := by grind
  intro j hj
  by_cases q : j = 0
  · rw [q]; exact e
  · have c1 := a2 e.symm j hj
    have c2 := b2 e j hj
    unfold hh at c1 c2
    rw [if_neg q, if_neg q] at c1 c2
    grind
/-! ### all policies -/
def allP : List (List Chc) → List (List Nat) → List (List Nat)
  | [], made => made
  | X :: Xs, made => allP Xs (made.flatMap fun one => (List.range X.length).map fun k => one ++ [k])
theorem allP_mem : ∀ (Xs : List (List Chc)) (made : List (List Nat)) (P : List Nat), P ∈ allP Xs made ↔ ∃ one ∈ made, ∃ r, P = one ++ r ∧ PoOk Xs r
  | [], made, P => by
    unfold allP
    constructor
    · intro h
      exact ⟨P, h, [], by simp, ⟨rfl, by simp⟩⟩
    · rintro ⟨one, h, r, rfl, O⟩
      have : r = [] := List.length_eq_zero_iff.mp O.len
      subst this
      simpa using h
  | X :: Xs, made, P => by
    unfold allP
    rw [allP_mem Xs]
    constructor
    · rintro ⟨one', h, r, rfl, O⟩
      obtain ⟨one, h1, h2⟩ := List.mem_flatMap.mp h
      obtain ⟨k, hk, rfl⟩ := List.mem_map.mp h2
      refine ⟨one, h1, k :: r, by simp, ⟨by simp [O.len], fun z hz => ?_⟩⟩
      rw [List.zip_cons_cons] at hz
      rcases List.mem_cons.mp hz with rfl | hz
      · exact List.mem_range.mp hk
      · exact O.fit z hz
    · rintro ⟨one, h, r, rfl, O⟩
      cases r with
      | nil => have := O.len; simp at this
      | cons k r =>
        refine ⟨one ++ [k], List.mem_flatMap.mpr ⟨one, h, List.mem_map.mpr ⟨k, List.mem_range.mpr (O.fit (X, k) (by simp)), rfl⟩⟩, r, by simp, ⟨by have := O.len; simpa using this, fun z hz => O.fit z (by rw [List.zip_cons_cons]; exact List.mem_cons_of_mem _ hz)⟩⟩
theorem allP_ok {Md : List (List Chc)} {P : List Nat} : P ∈ allP Md [[]] ↔ PoOk Md P := by
  rw [allP_mem]
  constructor
  · rintro ⟨one, h, r, rfl, O⟩
    have : one = [] := by simpa using h
    subst this
    simpa using O
  · intro O
    exact ⟨[], by simp, P, by simp, O⟩
theorem allP_len : ∀ (Xs : List (List Chc)) (made : List (List Nat)), (∀ X ∈ Xs, X.length ≤ 3) → (allP Xs made).length ≤ made.length * 3 ^ Xs.length
  | [], made, _ => by unfold allP; simp
  | X :: Xs, made, h => by
    unfold allP
    have h1 := allP_len Xs (made.flatMap fun one => (List.range X.length).map fun k => one ++ [k]) fun Y hY => h Y (by simp [hY])
    have hx := h X (by simp)
    have h2 : (made.flatMap fun one => (List.range X.length).map fun k => one ++ [k]).length ≤ made.length * 3 := by
      clear h1
      induction made with
      | nil => simp
      | cons a r ih =>
        rw [List.flatMap_cons, List.length_append, List.length_map, List.length_range, List.length_cons]
        omega
    refine Nat.le_trans h1 ?_
    rw [List.length_cons, Nat.pow_succ]
    have := Nat.mul_le_mul_right (3 ^ Xs.length) h2
    have e : made.length * (3 ^ Xs.length * 3) = made.length * 3 * 3 ^ Xs.length := by
      rw [Nat.mul_assoc, Nat.mul_comm (3 ^ Xs.length) 3]
    rw [e]
    exact this
open Classical in
noncomputable def muP (Md : List (List Chc)) (P : List Nat) : Nat := (allP Md [[]]).countP fun Q => decide (Ltx Md.length (xP Md Q) (xP Md P))
theorem countP_lt {α : Type} {p q : α → Bool} : ∀ {l : List α}, (∀ a ∈ l, p a = true → q a = true) → (∃ a ∈ l, q a = true ∧ p a = false) → l.countP p < l.countP q
  | [], _, h => by obtain ⟨a, h, _⟩ := h; simp at h
  | x :: r, hi, ex => by
    have le : r.countP p ≤ r.countP q := List.countP_mono_left fun a ha => hi a (by simp [ha])
    rw [List.countP_cons, List.countP_cons]
    obtain ⟨a, ha, hq, hp⟩ := ex
    rcases List.mem_cons.mp ha with rfl | ha
    · rw [hq, hp]
      simp
      omega
    · have lt := countP_lt (p := p) (q := q) (l := r) (fun b hb => hi b (by simp [hb])) ⟨a, ha, hq, hp⟩
      have hx := hi x (by simp)
      by_cases c : p x = true
      · rw [c, hx c]
        omega
      · have : p x = false := by simpa using c
        rw [this]
        simp
        omega
theorem Ltx_irr {n : Nat} {x : Nat → Rat} : ¬ Ltx n x x := by
  rintro (h | ⟨_, h⟩)
  · grind
  · grind
theorem Ltx_tr {n : Nat} {x y z : Nat → Rat} (h1 : Ltx n x y) (h2 : Ltx n y z) : Ltx n x z := by
  rcases h1 with h1 | ⟨e1, h1⟩ <;> rcases h2 with h2 | ⟨e2, h2⟩
  · exact .inl (by grind)
  · exact .inl (by grind)
  · exact .inl (by grind)
  · exact .inr ⟨by grind, by grind⟩
theorem mu_lt {Md : List (List Chc)} (C : MdOk Md) {P : List Nat} (O : PoOk Md P) (ne : impP Md.length (hh (xP Md P)) Md P ≠ P) : muP Md (impP Md.length (hh (xP Md P)) Md P) < muP Md P := by
  have lt := imp_lt C O ne
  have O' := imp_ok (n := Md.length) (h := hh (xP Md P)) C O
  unfold muP
  refine countP_lt (fun a _ h => ?_) ⟨_, allP_ok.mpr O', ?_, ?_⟩
  · simp only [decide_eq_true_eq] at h ⊢
    exact Ltx_tr h lt
  · simp only [decide_eq_true_eq]
    exact lt
  · simp only [decide_eq_false_iff_not]
    exact Ltx_irr
theorem mu_le {Md : List (List Chc)} (C : MdOk Md) (P : List Nat) : muP Md P ≤ 243 := by
  unfold muP
  refine Nat.le_trans List.countP_le_length ?_
  have h2 := allP_len Md [[]] fun X hX => (C.st X hX).2.1
  have h3 : 3 ^ Md.length ≤ 3 ^ 5 := Nat.pow_le_pow_right (by decide) C.hi
  have e : ([[]] : List (List Nat)).length = 1 := rfl
  rw [e, Nat.one_mul] at h2
  have : 3 ^ 5 = 243 := by decide
  omega
/-- one policy is the best -/
theorem best_ex {Md : List (List Chc)} (C : MdOk Md) : ∀ (m : Nat) (P : List Nat), PoOk Md P → muP Md P ≤ m → ∃ Q, PoOk Md Q ∧ Opt Md (xP Md Q)
  | m, P, O, hm => by
    by_cases e : impP Md.length (hh (xP Md P)) Md P = P
    · exact ⟨P, O, imp_opt C O e⟩
    · have lt := mu_lt C O e
      cases m with
      | zero => omega
      | succ m => exact best_ex C m _ (imp_ok (n := Md.length) (h := hh (xP Md P)) C O) (by omega)
end Mp
/-! PolH: the program's way to the best policy. -/
namespace Mp
open PySem PySem.Spec PyProof.Rows L2
section
variable {n : Nat} (hn : n ≤ 5) {h : Nat → Rat} (hq : ∀ j, j < n → qs 600 (h j))
include hn hq
theorem first_X (b : Bool) {X : List Chc} (h1 : 1 ≤ X.length) (h2 : X.length ≤ 100) (CX : ∀ x ∈ X, ChcOk n x) (H : Hc) : callL m_first_least [.lst (X.map fun x => qD (valQ n h x))] H = .ok (.int (fsX n h X : Nat)) H := by
  have e : (X.map fun x => qD (valQ n h x)) = (X.map (valQ n h)).map qD := by rw [List.map_map]; rfl
  have f := first_q (ys := X.map (valQ n h)) (fun y hy => by
    obtain ⟨x, hx, rfl⟩ := List.mem_map.mp hy
    exact qs_le (by decide) (val_qs hn hq (CX x hx))) (by rw [List.length_map]; omega) (by rw [List.length_map]; exact h1) H
  rw [e, f, List.length_map]
  have : fst1 (fun i => (X.map (valQ n h)).getD i 0) X.length = fsX n h X := by
    unfold fsX fst1
    refine fq_congr (n := X.length) (fun i hi => ?_) _ _ _ (by omega) (by omega)
    unfold vX
    simp [List.getD, hi]
  rw [this]
theorem sums_ix {X : List Chc} {i : Nat} (hi : i < X.length) (H : Hc) : ixF (.lst (X.map fun x => qD (valQ n h x))) (.int (i : Int)) H = .ok (qD (vX n h X i)) H := by
  have := ixQ true (fun x => qD (valQ n h x)) X hi H
  have e : vX n h X i = valQ n h X[i] := by unfold vX; simp [List.getD, hi]
  rw [e]
  exact this
end
theorem len_mp {Md : List (List Chc)} (b : Bool) (h : Hc) : lenF [mdD b Md] h = .ok (.int (Md.length : Int)) h := by simp [mdD]
theorem rg_mp {Md : List (List Chc)} (C : MdOk Md) (h : Hc) : rg1F [.int (Md.length : Int)] h = .ok ⟨(List.range' 0 Md.length).map fun (k : Nat) => D.int (k : Int), fun _ => true⟩ h := by
  have hi := C.hi
  rw [rg1F_int, if_pos (rgOk_nat (by omega)), Int.toNat_natCast, ← List.range_eq_range']
  unfold upFrom
  simp
section
variable (b : Bool) {Md : List (List Chc)} (C : MdOk Md)
include C
theorem zeros_ok : PoOk Md (List.replicate Md.length 0) := by
  refine po_of (by simp) fun s hs => ?_
  have e : (List.replicate Md.length 0).getD s 0 = 0 := by
    simp [List.getD, hs]
  rw [e]
  exact (C.st _ (md_at C hs)).1
/-- what best returns for the numbers of Q -/
def bestD (Md : List (List Chc)) (x : Nat → Rat) : D := .tup [sq false (iN (fsP Md.length (hh x) Md)), qD (x 0), nmD Md.length x]
omit C in
theorem flat_bestD (Md : List (List Chc)) (x : Nat → Rat) : flat (bestD Md x) = true := by
  unfold bestD
  simp [flat_nmD]
end
end Mp
/-! PolI: the law's way to the best policy. -/
namespace Mp
open PySem PySem.Spec PyProof.Rows L2
theorem fsP_at {n : Nat} {h : Nat → Rat} {Md : List (List Chc)} {s : Nat} (hs : s < Md.length) : (fsP n h Md).getD s 0 = fsX n h (Md.getD s []) := by
  unfold fsP
  simp [List.getD, hs]
theorem fsP_ok {n : Nat} {h : Nat → Rat} {Md : List (List Chc)} (C : MdOk Md) : PoOk Md (fsP n h Md) := by
  refine po_of (by unfold fsP; simp) fun s hs => ?_
  rw [fsP_at hs]
  exact (fst1_spec _ (C.st _ (md_at C hs)).1).1
def prA (n : Nat) (h : Nat → Rat) (g : Rat) (Md : List (List Chc)) (P : List Nat) (s : Nat) : Bool := decide (h s + g = vX n h (Md.getD s []) (fsX n h (Md.getD s []))) && decide (vX n h (Md.getD s []) (P.getD s 0) = vX n h (Md.getD s []) (fsX n h (Md.getD s [])))
def prvB (n : Nat) (h : Nat → Rat) (g : Rat) (Md : List (List Chc)) (P : List Nat) : Bool := (List.range' 0 n).all (prA n h g Md P)
section
variable {Md : List (List Chc)} (C : MdOk Md) {h : Nat → Rat} (hq : ∀ j, j < Md.length → qs 600 (h j)) {g : Rat} (hg : qs 600 g) {P : List Nat} (O : PoOk Md P) (c c2 : Bool)
include C hq hg O
theorem prv_loop (H : Hc) : ∀ (m s : Nat) (x5 x6 : Option D), s + m = Md.length → ∃ y5 y6, fl (fun _ => true) (.n 5) m_law_proves_l1 ((List.range' s m).map fun (j : Nat) => D.int (j : Int)) [some (mdD false Md), some (sq c (iN P)), some (qD g), some (nL c2 false Md.length h), some (sq false (iN (fsP Md.length h Md))), x5, x6] H =
    if (List.range' s m).all (prA Md.length h g Md P) = true then .nx [some (mdD false Md), some (sq c (iN P)), some (qD g), some (nL c2 false Md.length h), some (sq false (iN (fsP Md.length h Md))), y5, y6] H else .rt (.bl false) H
  | 0, s, x5, x6, _ => ⟨x5, x6, by simp [fl_end]⟩
  | m + 1, s, x5, x6, hs => by
    have hs' : s < Md.length := by omega
    have hi := C.hi
    have OF := fsP_ok (n := Md.length) (h := h) C
    obtain ⟨X, p, _, _, i1, i2, i3⟩ := pol_ix O hs'
    obtain ⟨X', p', _, _, j1, j2, j3⟩ := pol_ix OF hs'
    have i1 := i1 false
    have i2 := i2 c
    have i3 := i3 false
    have j1 := j1 false
    have j2 := j2 false
    have j3 := j3 false
    have exx : stD false X = stD false X' := by
      have := (i1 H).symm.trans (j1 H)
      injection this
    rw [← exx] at j3
    clear j1
    have cm : ∀ {Q : List Nat} (OQ : PoOk Md Q), ChcOk Md.length ((chs Md Q).getD s (0, [])) := fun {Q} OQ => by
      have hl := chs_len OQ
      have K := chs_ok C OQ
      have hsc : s < (chs Md Q).length := by omega
      have : (chs Md Q).getD s (0, []) ∈ chs Md Q := by simp [List.getD, hsc]
      have := K.ok _ this
      rw [hl] at this
      exact this
    have e1 := fun H => law_value_q hi hq c2 (cm O) H
    have e2 := fun H => law_value_q hi hq c2 (cm OF) H
    rw [chs_at O hs'] at e1 i3
    rw [chs_at OF hs', fsP_at hs'] at e2 j3
    have ev : ∀ i, valQ Md.length h ((Md.getD s []).getD i (0, [])) = vX Md.length h (Md.getD s []) i := fun i => rfl
    rw [ev] at e1 e2
    have en := fun H => nL_ix hi hq c2 hs' H
    have ea := fun H => law_add_q (qs_le (show 600 ≤ 4000 by decide) (hq s hs')) (qs_le (show 600 ≤ 4000 by decide) hg) H
    have q1 := fun H => eqG_q true (h s + g) (vX Md.length h (Md.getD s []) (fsX Md.length h (Md.getD s []))) H
    have q2 := fun H => eqG_q true (vX Md.length h (Md.getD s []) (P.getD s 0)) (vX Md.length h (Md.getD s []) (fsX Md.length h (Md.getD s []))) H
    simp only [if_true] at q1 q2
    obtain ⟨y5, y6, ih⟩ := prv_loop H m (s + 1) (some (.int (s : Int))) (some (qD (vX Md.length h (Md.getD s []) (fsX Md.length h (Md.getD s []))))) (by omega)
    refine ⟨y5, y6, ?_⟩
    rw [List.range'_succ, List.map_cons, List.all_cons]
    have epr : prA Md.length h g Md P s = (decide (h s + g = vX Md.length h (Md.getD s []) (fsX Md.length h (Md.getD s []))) && decide (vX Md.length h (Md.getD s []) (P.getD s 0) = vX Md.length h (Md.getD s []) (fsX Md.length h (Md.getD s [])))) := rfl
    rw [epr]
    generalize hRG : (List.range' (s + 1) m).map (fun (j : Nat) => D.int (j : Int)) = RG at *
    generalize (List.range' (s + 1) m).all (prA Md.length h g Md P) = AL at *
    generalize hd1 : decide (h s + g = vX Md.length h (Md.getD s []) (fsX Md.length h (Md.getD s []))) = d1 at *
    generalize hd2 : decide (vX Md.length h (Md.getD s []) (P.getD s 0) = vX Md.length h (Md.getD s []) (fsX Md.length h (Md.getD s []))) = d2 at *
    generalize qD (vX Md.length h (Md.getD s []) (fsX Md.length h (Md.getD s []))) = V1 at *
    generalize qD (vX Md.length h (Md.getD s []) (P.getD s 0)) = V2 at *
    generalize qD (h s + g) = V3 at *
    generalize qD (h s) = V4 at *
    generalize qD g = V5 at *
    generalize nL c2 false Md.length h = VV at *
    generalize chcD false ((Md.getD s []).getD (P.getD s 0) (0, [])) = CH1 at *
    generalize chcD false ((Md.getD s []).getD (fsX Md.length h (Md.getD s [])) (0, [])) = CH2 at *
    clear exx
    generalize stD false X = SD1 at *
    generalize sq c (iN P) = PD at *
    generalize sq false (iN (fsP Md.length h Md)) = FD at *
    generalize mdD false Md = MM at *
    cases d1 with
    | false =>
      refine Eq.trans (fl_rt (v := .bl false) (h' := H) rfl (bindP_n ..) (by simp [m_law_proves_l1, i1, i2, i3, j2, j3, e1, e2, en, ea, q1, q2])) ?_
      simp
    | true =>
      cases d2 with
      | false =>
        refine Eq.trans (fl_rt (v := .bl false) (h' := H) rfl (bindP_n ..) (by simp [m_law_proves_l1, i1, i2, i3, j2, j3, e1, e2, en, ea, q1, q2])) ?_
        simp
      | true =>
        refine Eq.trans (fl_n (b := m_law_proves_l1) (by simp [m_law_proves_l1, i1, i2, i3, j2, j3, e1, e2, en, ea, q1, q2])) (ih.trans ?_)
        simp
theorem law_proves_ok (H : Hc) : callL m_law_proves [mdD false Md, sq c (iN P), qD g, nL c2 false Md.length h] H = .ok (.bl (prvB Md.length h g Md P)) H := by
  have hi := C.hi
  obtain ⟨y5, y6, e1⟩ := prv_loop C hq hg O c c2 [] Md.length 0 none none (by omega)
  have e2 := fun H => firsts_q hi hq c2 (Md := Md) (by omega) (md_st C) H
  have lm := fun h => len_mp (Md := Md) false h
  have er := fun h => rg_mp C h
  refine call_flat (h' := []) (by simp [flat_nL]) ?_ (by simp) H
  unfold m_law_proves prvB
  rw [runB_s]
  generalize (List.range' 0 Md.length).all (prA Md.length h g Md P) = AL at *
  generalize (List.range' 0 Md.length).map (fun (k : Nat) => D.int (k : Int)) = RG at *
  generalize sq false (iN (fsP Md.length h Md)) = FD at *
  generalize nL c2 false Md.length h = VV at *
  generalize sq c (iN P) = PD at *
  generalize qD g = GD at *
  generalize mdD false Md = MM at *
  cases AL <;> simp [lm, er, e1, e2]
end
/-! ### what proves, and what is the best -/
theorem prv_opt {Md : List (List Chc)} (C : MdOk Md) {x : Nat → Rat} {P : List Nat} (h : prvB Md.length (hh x) (x 0) Md P = true) : Opt Md x := fun s hs i hi => by
  unfold prvB at h
  rw [List.all_eq_true] at h
  have a := h s (by simp; omega)
  unfold prA at a
  rw [Bool.and_eq_true, decide_eq_true_eq, decide_eq_true_eq] at a
  obtain ⟨f1, f2, f3⟩ := fst1_spec (vX Md.length (hh x) (Md.getD s [])) (C.st _ (md_at C hs)).1
  have b := f2 i hi
  have e : x 0 + hh x s = hh x s + x 0 := by grind
  rw [e, a.1]
  exact b
theorem opt_prv {Md : List (List Chc)} (C : MdOk Md) {P : List Nat} (O : PoOk Md P) (h : Opt Md (xP Md P)) {Q : List Nat} (hv : ∀ s, s < Md.length → vX Md.length (hh (xP Md P)) (Md.getD s []) (Q.getD s 0) = vX Md.length (hh (xP Md P)) (Md.getD s []) (P.getD s 0)) : prvB Md.length (hh (xP Md P)) (xP Md P 0) Md Q = true := by
  unfold prvB
  rw [List.all_eq_true]
  intro s hs
  have hs' : s < Md.length := by simp at hs; omega
  unfold prA
  rw [Bool.and_eq_true, decide_eq_true_eq, decide_eq_true_eq]
  obtain ⟨f1, f2, f3⟩ := fst1_spec (vX Md.length (hh (xP Md P)) (Md.getD s [])) (C.st _ (md_at C hs')).1
  have v := xP_val C O s hs'
  have b := f2 _ (po_at O hs')
  have a := h s hs' (fsX Md.length (hh (xP Md P)) (Md.getD s [])) f1
  rw [hv s hs']
  have e : vX Md.length (hh (xP Md P)) (Md.getD s []) (P.getD s 0) = vX Md.length (hh (xP Md P)) (Md.getD s []) (fsX Md.length (hh (xP Md P)) (Md.getD s [])) := by
    have b' : vX Md.length (hh (xP Md P)) (Md.getD s []) (fsX Md.length (hh (xP Md P)) (Md.getD s [])) ≤ vX Md.length (hh (xP Md P)) (Md.getD s []) (P.getD s 0) := b
    rw [v] at a
    grind
  refine ⟨?_, e⟩
  rw [← e, ← v]
  grind
theorem fsX_congr {n : Nat} {h k : Nat → Rat} (e : ∀ j, j < n → h j = k j) (X : List Chc) : fsX n h X = fsX n k X := by
  have : vX n h X = vX n k X := by
    funext i
    exact val_congr e _
  unfold fsX
  rw [this]
theorem hh_congr {n : Nat} {x y : Nat → Rat} (e : ∀ j, j < n → x j = y j) : ∀ j, j < n → hh x j = hh y j := fun j hj => by
  unfold hh
  rw [e j hj]
theorem bestD_congr {Md : List (List Chc)} (lo : 1 ≤ Md.length) {x y : Nat → Rat} (e : ∀ j, j < Md.length → x j = y j) : bestD Md x = bestD Md y := by
  have h1 : fsP Md.length (hh x) Md = fsP Md.length (hh y) Md := by
    unfold fsP
    exact List.map_congr_left fun X _ => fsX_congr (hh_congr e) X
  have h2 := gn_congr lo e
  have h3 : nmD Md.length x = nmD Md.length y := by
    unfold gnD at h2
    injection h2 with h2
    injection h2 with _ h2
    injection h2
  unfold bestD
  rw [h1, h3, e 0 (by omega)]
/-! ### all policies, as the law lists them -/
def mdL (made : List (List Nat)) : List D := made.map fun one => sq true (iN one)
theorem mdL_app (a b : List (List Nat)) : mdL (a ++ b) = mdL a ++ mdL b := by unfold mdL; rw [List.map_append]
section
variable {X : List Chc} (hX : X.length ≤ 100)
include hX
theorem pols_c1 {one : List Nat} (ho : one.length ≤ 100) (x0 x1 x3 x5 : Option D) (H : Hc) : lcR (fun _ => true) (.n 5) [5] (fun _ h => .ok true h) m_law_policies_c1 [x0, x1, some (stD false X), x3, some (sq true (iN one)), x5] ((List.range' 0 X.length).map fun (j : Nat) => D.int (j : Int)) [] H = .ok (mdL ((List.range X.length).map fun k => one ++ [k])) H := by
  have e := lcR_mm (chk := fun _ => true) (p := .n 5) (own := [5]) (m := m_law_policies_c1) (ds := [x0, x1, some (stD false X), x3, some (sq true (iN one)), x5]) (h := H) (fun (j : Nat) => D.int (j : Int)) (fun k => sq true (iN (one ++ [k]))) rfl (List.range' 0 X.length) (by rw [List.length_range']; omega) (fun k _ => ⟨_, bindP_n .., by
    have ad : addF (sq true (iN one)) (.lst [.int (k : Int)]) H = .ok (sq true (iN (one ++ [k]))) H := by
      have hlim := lim_eq
      show addF (.lst ((iN one).map D.int)) (.lst [.int (k : Int)]) H = _
      unfold addF
      simp only [lstD]
      rw [if_pos (by rw [List.length_map, iN_len]; simp; omega)]
      congr 1
      show D.lst _ = D.lst _
      unfold iN
      simp
    generalize sq true (iN one) = OD at *
    generalize sq true (iN (one ++ [k])) = RD at *
    simp [m_law_policies_c1, ad]⟩)
  rw [e]
  unfold mdL
  rw [List.map_map, List.range_eq_range']
  rfl
theorem pols_step {one : List Nat} (ho : one.length ≤ 100) (x0 x1 x5 : Option D) {v3 : D} {acc : List (List Nat)} (H : Hc) (hv : ∀ ys : List D, ys.length ≤ 100 → addF v3 (.lst ys) H = .ok (.lst (mdL acc ++ ys)) H) : m_law_policies_l1 [x0, x1, some (stD false X), some v3, some (sq true (iN one)), x5] H = .nx [x0, x1, some (stD false X), some (.lst (mdL (acc ++ (List.range X.length).map fun k => one ++ [k]))), some (sq true (iN one)), x5] H := by
  have e1 := pols_c1 hX ho x0 x1 (some v3) x5 H
  have ls : ∀ h, lenF [stD false X] h = .ok (.int (X.length : Int)) h := fun h => by simp [stD]
  have er : ∀ h, rg1F [.int (X.length : Int)] h = .ok ⟨(List.range' 0 X.length).map fun (k : Nat) => D.int (k : Int), fun _ => true⟩ h := fun h => by
    rw [rg1F_int, if_pos (rgOk_nat (by omega)), Int.toNat_natCast, ← List.range_eq_range']
    unfold upFrom
    simp
  have ad := hv (mdL ((List.range X.length).map fun k => one ++ [k])) (by unfold mdL; simp; omega)
  rw [mdL_app]
  generalize mdL ((List.range X.length).map fun k => one ++ [k]) = YY at *
  generalize (List.range' 0 X.length).map (fun (k : Nat) => D.int (k : Int)) = RG at *
  generalize stD false X = SD at *
  generalize sq true (iN one) = OD at *
  simp [m_law_policies_l1, ls, er, e1, ad]
theorem pols_l1 {chk : Hc → Bool} {H : Hc} (hc : chk H = true) (x0 x1 x5 : Option D) : ∀ (made acc : List (List Nat)) (x4 : Option D), (∀ one ∈ made, one.length ≤ 100) → acc.length + made.length * 100 ≤ 100000 → ∃ y4,
    fl chk (.n 4) m_law_policies_l1 (mdL made) [x0, x1, some (stD false X), some (.lst (mdL acc)), x4, x5] H = .nx [x0, x1, some (stD false X), some (.lst (mdL (acc ++ made.flatMap fun one => (List.range X.length).map fun k => one ++ [k]))), y4, x5] H
  | [], acc, x4, _, _ => ⟨x4, by simp [mdL, fl_end hc]⟩
  | one :: made, acc, x4, ho, hl => by
    rw [List.length_cons] at hl
    obtain ⟨y4, ih⟩ := pols_l1 hc x0 x1 x5 made (acc ++ (List.range X.length).map fun k => one ++ [k]) (some (sq true (iN one))) (fun a ha => ho a (by simp [ha])) (by rw [List.length_append, List.length_map, List.length_range]; omega)
    refine ⟨y4, ?_⟩
    have st := pols_step hX (ho one (by simp)) x0 x1 x5 (v3 := .lst (mdL acc)) (acc := acc) H fun ys hy => by
      have hlim := lim_eq
      unfold addF
      simp only [lstD]
      rw [if_pos (by unfold mdL; rw [List.length_map]; omega)]
    have em : mdL (one :: made) = sq true (iN one) :: mdL made := rfl
    rw [em, List.flatMap_cons]
    rw [List.append_assoc] at ih
    exact (fl_nx (ds1 := [x0, x1, some (stD false X), some (.lst (mdL acc)), some (sq true (iN one)), x5]) hc (by simp) st).trans ih
theorem pols_l2 {chk : Hc → Bool} {H : Hc} {r : Nat} (hr : H[r]? = some (.lst [])) (hc : chk H = true) (x0 x1 x4 x5 : Option D) {made : List (List Nat)} (ho : ∀ one ∈ made, one.length ≤ 100) (hl : made.length * 100 ≤ 100000) (hne : made ≠ []) : ∃ y4,
    fl chk (.n 4) m_law_policies_l1 (mdL made) [x0, x1, some (stD false X), some (.ref r), x4, x5] H = .nx [x0, x1, some (stD false X), some (.lst (mdL (made.flatMap fun one => (List.range X.length).map fun k => one ++ [k]))), y4, x5] H := by
  cases made with
  | nil => exact absurd rfl hne
  | cons one made =>
    rw [List.length_cons] at hl
    obtain ⟨y4, ih⟩ := pols_l1 hX hc x0 x1 x5 made ([] ++ (List.range X.length).map fun k => one ++ [k]) (some (sq true (iN one))) (fun a ha => ho a (by simp [ha])) (by rw [List.length_append, List.length_map, List.length_range]; simp; omega)
    refine ⟨y4, ?_⟩
    have st := pols_step hX (ho one (by simp)) x0 x1 x5 (v3 := .ref r) (acc := []) H fun ys hy => by
      have hlim := lim_eq
      unfold addF
      simp only [lstD, hr]
      rw [if_pos (by simp; omega)]
      rfl
    have em : mdL (one :: made) = sq true (iN one) :: mdL made := rfl
    rw [em, List.flatMap_cons]
    rw [List.nil_append] at ih
    rw [List.nil_append] at st
    exact (fl_nx (ds1 := [x0, x1, some (stD false X), some (.ref r), some (sq true (iN one)), x5]) hc (by simp) st).trans ih
end
theorem pols_loop (x0 x5 : Option D) : ∀ (Xs : List (List Chc)) (made : List (List Nat)) (v1 : D) (H : Hc) (x2 x3 x4 : Option D), (∀ X ∈ Xs, 1 ≤ X.length ∧ X.length ≤ 3) → (∀ one ∈ made, one.length + Xs.length ≤ 100) → made.length * 3 ^ Xs.length ≤ 1000 → made ≠ [] → (v1 = .lst (mdL made) ∨ ∃ i, v1 = .ref i ∧ H[i]? = some (.lst (mdL made))) → ∃ v1' H' y2 y3 y4,
    fl (fun _ => true) (.n 2) m_law_policies_l2 (Xs.map (stD false)) [x0, some v1, x2, x3, x4, x5] H = .nx [x0, some v1', y2, y3, y4, x5] H' ∧ (v1' = .lst (mdL (allP Xs made)) ∨ ∃ i, v1' = .ref i ∧ H'[i]? = some (.lst (mdL (allP Xs made))))
  | [], made, v1, H, x2, x3, x4, _, _, _, _, hv => ⟨v1, H, x2, x3, x4, fl_end rfl, hv⟩
  | X :: Xs, made, v1, H, x2, x3, x4, hX, ho, hl, hne, hv => by
    obtain ⟨h1, h3⟩ := hX X (by simp)
    rw [List.length_cons, Nat.pow_succ] at hl
    have hpow : 1 ≤ 3 ^ Xs.length := Nat.pos_of_ne_zero (by simp)
    have hml : made.length ≤ 1000 := by
      have := Nat.mul_le_mul_left made.length (show 1 ≤ 3 ^ Xs.length * 3 by omega)
      omega
    let H1 : Hc := H ++ [Mp.C.lst []]
    have hr : H1[H.length]? = some (.lst []) := by
      show (H ++ [_])[H.length]? = _
      rw [List.getElem?_append_right (Nat.le_refl _), Nat.sub_self]
      rfl
    let made2 := made.flatMap fun one => (List.range X.length).map fun k => one ++ [k]
    have hm2 : made2.length ≤ made.length * 3 := by
      show (made.flatMap _).length ≤ _
      clear hl hml hv hne ho
      induction made with
      | nil => simp
      | cons a r ih =>
        rw [List.flatMap_cons, List.length_append, List.length_map, List.length_range, List.length_cons]
        have : (r.flatMap fun one => (List.range X.length).map fun k => one ++ [k]).length ≤ r.length * 3 := ih
        omega
    have hm2o : ∀ one ∈ made2, one.length + Xs.length ≤ 100 := fun one h => by
      obtain ⟨o, ho1, ho2⟩ := List.mem_flatMap.mp h
      obtain ⟨k, _, rfl⟩ := List.mem_map.mp ho2
      have := ho o ho1
      rw [List.length_cons] at this
      rw [List.length_append, List.length_singleton]
      omega
    have hm2n : made2 ≠ [] := by
      cases made with
      | nil => exact absurd rfl hne
      | cons a r =>
        show (List.flatMap _ _) ≠ []
        rw [List.flatMap_cons]
        intro z
        have := congrArg List.length z
        rw [List.length_append, List.length_map, List.length_range, List.length_nil] at this
        omega
    have hl2 : made2.length * 3 ^ Xs.length ≤ 1000 := by
      refine Nat.le_trans (Nat.mul_le_mul_right _ hm2) ?_
      rw [Nat.mul_assoc, Nat.mul_comm 3]
      exact hl
    have sd : ∃ chk, seqD H1 v1 = some (mdL made) ∧ chkQ v1 (mdL made) = chk ∧ chk H1 = true := by
      rcases hv with rfl | ⟨i, rfl, hi⟩
      · exact ⟨_, rfl, rfl, by simp⟩
      · have e : seqD H1 (.ref i) = some (mdL made) := by
          show (match H1[i]? with | some (.lst xs) => some xs | _ => none) = _
          have : H1[i]? = some (.lst (mdL made)) := by
            show (H ++ [_])[i]? = _
            rw [List.getElem?_append_left]
            · exact hi
            · exact (List.getElem?_eq_some_iff.mp hi).1
          rw [this]
        exact ⟨_, e, rfl, by simp [chkQ, e, eqDL_self]⟩
    obtain ⟨chk, s1, s2, s3⟩ := sd
    have lem := pols_l2 (X := X) (by omega) (chk := chk) hr s3 x0 (some v1) x4 x5 (fun one h => by have := ho one h; omega) (by omega) hne
    obtain ⟨z4, e1⟩ := lem
    obtain ⟨v1', H', y2, y3, y4, ih, hv'⟩ := pols_loop x0 x5 Xs made2 (.lst (mdL made2)) H1 (some (stD false X)) (some (.lst (mdL made2))) z4 (fun Y hY => hX Y (by simp [hY])) hm2o hl2 hm2n (.inl rfl)
    refine ⟨v1', H', y2, y3, y4, ?_, hv'⟩
    rw [List.map_cons]
    refine Eq.trans (fl_n (b := m_law_policies_l2) ?_) ih
    have em2 : (made.flatMap fun one => (List.range X.length).map fun k => one ++ [k]) = made2 := rfl
    rw [em2] at e1
    have eH1 : H ++ [Mp.C.lst []] = H1 := rfl
    clear ih hv hr
    generalize mdL made2 = M2 at *
    generalize mdL made = M1 at *
    generalize stD false X = SD at *
    generalize H1 = H1' at *
    simp [m_law_policies_l2, eH1, s1, s2, e1]
end Mp
/-! PolJ: the law's best policy. -/
namespace Mp
open PySem PySem.Spec PyProof.Rows L2
theorem law_policies_ok {Md : List (List Chc)} (C : MdOk Md) (H : Hc) : callL m_law_policies [mdD false Md] H = .ok (.lst ((allP Md [[]]).map fun P => sq false (iN P))) H := by
  have hi := C.hi
  have p5 : 3 ^ Md.length ≤ 3 ^ 5 := Nat.pow_le_pow_right (by decide) hi
  have e35 : 3 ^ 5 = 243 := by decide
  obtain ⟨v1, h', y2, y3, y4, e1, hv⟩ := pols_loop (some (mdD false Md)) none Md [[]] (.ref 0) [Mp.C.lst (mdL [[]])] none none none (fun X hX => ⟨(C.st X hX).1, (C.st X hX).2.1⟩) (fun one h => by
    have : one = [] := by simpa using h
    subst this
    simp
    omega) (by simp; omega) (by simp) (.inr ⟨0, rfl, rfl⟩)
  have e0 : ∀ h, seqD h (mdD false Md) = some (Md.map (stD false)) := fun h => seqD_sqs false _ h
  have e00 : chkQ (mdD false Md) (Md.map (stD false)) = fun _ => true := chkQ_sqs false _
  have sd : ∃ chk, seqD h' v1 = some (mdL (allP Md [[]])) ∧ chkQ v1 (mdL (allP Md [[]])) = chk ∧ chk h' = true := by
    rcases hv with rfl | ⟨i, rfl, hi⟩
    · exact ⟨_, rfl, rfl, by simp⟩
    · have e : seqD h' (.ref i) = some (mdL (allP Md [[]])) := by
        show (match h'[i]? with | some (.lst xs) => some xs | _ => none) = _
        rw [hi]
      exact ⟨_, e, rfl, by simp [chkQ, e, eqDL_self]⟩
  obtain ⟨chk, s1, s2, s3⟩ := sd
  have hlen := allP_len Md [[]] fun X hX => (C.st X hX).2.1
  have e1l : ([[]] : List (List Nat)).length = 1 := rfl
  rw [e1l, Nat.one_mul] at hlen
  have c2 := lcR_mm (chk := chk) (p := .n 4) (own := [4]) (m := m_law_policies_c2) (ds := [some (mdD false Md), some v1, y2, y3, y4, none]) (h := h') (fun one => sq true (iN one)) (fun one => sq false (iN one)) s3 (allP Md [[]]) (by omega) (fun one _ => ⟨_, bindP_n .., by
    have et : ∀ h, tupleF [sq true (iN one)] h = .ok (sq false (iN one)) h := fun h => rfl
    generalize sq true (iN one) = A at *
    generalize sq false (iN one) = B at *
    simp [m_law_policies_c2, et]⟩)
  have ff : flatL ((allP Md [[]]).map fun P => sq false (iN P)) = true := flatL_map _ (fun P => flat_sq false _) _
  have em : mdL [[]] = [.lst []] := rfl
  rw [em] at e1
  refine call_flat (h' := h') (by simp) ?_ (by rw [flat_lst]; exact ff) H
  have el : mdL (allP Md [[]]) = (allP Md [[]]).map fun one => sq true (iN one) := rfl
  rw [el] at s1 s2
  clear el hv
  unfold m_law_policies
  rw [runB_s]
  generalize (allP Md [[]]).map (fun one => sq true (iN one)) = ML at *
  generalize (allP Md [[]]).map (fun one => sq false (iN one)) = ML2 at *
  generalize mdD false Md = MM at *
  simp [e0, e00, e1, s1, s2, c2]
theorem law_gain_xP {Md : List (List Chc)} (C : MdOk Md) (h4 : Md.length ≤ 4) {P : List Nat} (O : PoOk Md P) (H : Hc) : callL m_law_gain [mdD false Md, sq false (iN P)] H = .ok (gnD Md.length (xP Md P)) H := by
  obtain ⟨x, sx, _, e⟩ := law_gain_ok C h4 O
  rw [e H, gn_congr C.lo (xP_uniq C O sx)]
section
variable {Md : List (List Chc)} (C : MdOk Md) (h4 : Md.length ≤ 4) {Q : List Nat} (OQ : PoOk Md Q) (hQ : Opt Md (xP Md Q))
include C h4 OQ hQ
theorem lbest_loop (H : Hc) : ∀ (L : List (List Nat)) (x1 x2 : Option D), (∀ P ∈ L, PoOk Md P) → (∃ P ∈ L, prvB Md.length (hh (xP Md P)) (xP Md P 0) Md P = true) → fl (fun _ => true) (.n 1) m_law_best_l1 (L.map fun P => sq false (iN P)) [some (mdD false Md), x1, x2] H = .rt (bestD Md (xP Md Q)) H
  | [], x1, x2, _, ex => by obtain ⟨P, h, _⟩ := ex; simp at h
  | P :: L, x1, x2, hO, ex => by
    have O := hO P (by simp)
    have hi := C.hi
    have e1 := fun H => law_gain_xP C h4 O H
    have hq : ∀ j, j < Md.length → qs 600 (hh (xP Md P) j) := hh_qs (by decide) fun j hj => qs_le (show 550 ≤ 600 by decide) (xP_qs C O j hj)
    have e2 := fun H => law_proves_ok C hq (qs_le (show 550 ≤ 600 by decide) (xP_qs C O 0 C.lo)) O false false H
    have e3 := fun H => firsts_q hi hq false (Md := Md) (by omega) (md_st C) H
    rw [← nmD_nL] at e2 e3
    have egd : gnD Md.length (xP Md P) = .tup [qD (xP Md P 0), nmD Md.length (xP Md P)] := rfl
    rw [egd] at e1
    rw [List.map_cons]
    cases c : prvB Md.length (hh (xP Md P)) (xP Md P 0) Md P with
    | true =>
      have eb : bestD Md (xP Md Q) = bestD Md (xP Md P) := bestD_congr C.lo (opt_uniq C OQ O hQ (prv_opt C c))
      rw [eb]
      rw [c] at e2
      refine fl_rt (ds1 := [some (mdD false Md), some (sq false (iN P)), x2]) rfl (bindP_n ..) ?_
      unfold bestD
      generalize sq false (iN (fsP Md.length (hh (xP Md P)) Md)) = FD at *
      generalize nmD Md.length (xP Md P) = ND at *
      generalize qD (xP Md P 0) = QD at *
      generalize sq false (iN P) = PD at *
      generalize mdD false Md = MM at *
      simp [m_law_best_l1, e1, e2, e3]
    | false =>
      have ih := lbest_loop H L (some (sq false (iN P))) (some (gnD Md.length (xP Md P))) (fun R hR => hO R (by simp [hR])) (by
        obtain ⟨R, hR, pR⟩ := ex
        rcases List.mem_cons.mp hR with rfl | hR
        · rw [c] at pR; cases pR
        · exact ⟨R, hR, pR⟩)
      rw [c] at e2
      rw [egd] at ih
      refine Eq.trans (fl_n (b := m_law_best_l1) ?_) ih
      generalize nmD Md.length (xP Md P) = ND at *
      generalize qD (xP Md P 0) = QD at *
      generalize sq false (iN P) = PD at *
      generalize mdD false Md = MM at *
      simp [m_law_best_l1, e1, e2]
theorem law_best_ok (H : Hc) : callL m_law_best [mdD false Md] H = .ok (bestD Md (xP Md Q)) H := by
  have e1 := fun H => law_policies_ok C H
  have e2 := lbest_loop C h4 OQ hQ [] (allP Md [[]]) none none (fun P hP => allP_ok.mp hP) ⟨Q, allP_ok.mpr OQ, opt_prv C OQ hQ fun s _ => rfl⟩
  refine call_flat (h' := []) (by simp) ?_ (flat_bestD _ _) H
  unfold m_law_best
  rw [runB_s]
  generalize (allP Md [[]]).map (fun one => sq false (iN one)) = ML at *
  generalize bestD Md (xP Md Q) = BD at *
  generalize mdD false Md = MM at *
  simp [e1, e2]
end
end Mp
namespace Mp
open PySem PySem.Spec PyProof.Rows L2
/-! ### mirrors: Prf -/
def m_check_proof_c1 : SE :=
  (eCall m_is_fraction (aCons (eVar 4) aNil))
/-- check_proof: model 0, policy 1, gain 2, numbers 3, number 4 -/
def m_check_proof : Fn := runB 5
  (sSeq (sIf (bNot (bTru (eCall m_is_model (aCons (eVar 0) aNil))))
    (sRaise "BadValue" ["at"] (aCons (eC (.int 0)) aNil))
    sNext)
  (sSeq (sIf (bNot (bTru (eCall m_is_policy (aCons (eVar 1) aNil))))
    (sRaise "BadValue" ["at"] (aCons (eC (.int 1)) aNil))
    sNext)
  (sSeq (sIf (bNot (bTru (eCall m_is_fraction (aCons (eVar 2) aNil))))
    (sRaise "BadValue" ["at"] (aCons (eC (.int 2)) aNil))
    sNext)
  (sSeq (sIf (bOr (bNot (bTru (eCall m_is_sequence (aCons (eVar 3) aNil)))) (bNot (bTru (eCB allF (aCons (eLc (iSeq (eVar 3)) (.n 4) [4] (fun _ h => .ok true h) m_check_proof_c1) aNil)))))
    (sRaise "BadValue" ["at"] (aCons (eC (.int 3)) aNil))
    sNext)
  (sSeq (sIf (bNot (bTru (eCall m_fits (aCons (eVar 0) (aCons (eVar 1) aNil)))))
    (sRaise "BadValue" ["at"] (aCons (eC (.int 1)) aNil))
    sNext)
  (sIf (bEx (eOp neF (eCB lenF (aCons (eVar 3) aNil)) (eCB lenF (aCons (eVar 0) aNil))))
    (sRaise "BadValue" ["at"] (aCons (eC (.int 3)) aNil))
    sNext))))))
def m_proves_l1 : SS :=
  (sSeq (sSet 7 (eCall m_sums_ahead (aCons (eVar 4) (aCons (eVar 3) aNil))))
    (sSeq (sSet 8 (eOp ixF (eVar 7) (eCall m_first_least (aCons (eVar 7) aNil))))
    (sIf (bOr (bEx (eOp neF (eCall m_plus (aCons (eVar 6) (aCons (eVar 2) aNil))) (eVar 8))) (bEx (eOp neF (eOp ixF (eVar 7) (eVar 5)) (eVar 8))))
      (sRet (eC (.bl false)))
      sNext)))
/-- proves: model 0, policy 1, gain 2, numbers 3, choices 4, at 5, number 6, sums 7, least 8 -/
def m_proves : Fn := runB 9
  (sSeq (sDrop (eCall m_check_proof (aCons (eVar 0) (aCons (eVar 1) (aCons (eVar 2) (aCons (eVar 3) aNil))))))
  (sSeq (sFor (iZip3 (aCons (eVar 0) (aCons (eVar 1) (aCons (eVar 3) aNil)))) (.t ((.n 4) :: ((.n 5) :: ((.n 6) :: []))))
    m_proves_l1)
  (sRet (eC (.bl true)))))
end Mp
/-! PrfA: the program's proof of a policy. -/
namespace Mp
open PySem PySem.Spec PyProof.Rows L2
theorem zipD3_map {α : Type} (f g k : α → D) : ∀ Z : List α, zipD3 (Z.map f) (Z.map g) (Z.map k) = Z.map fun z => .tup [f z, g z, k z]
  | [] => rfl
  | z :: Z => by
    rw [List.map_cons, List.map_cons, List.map_cons, List.map_cons, zipD3, zipD3_map f g k Z]
section
variable {Md : List (List Chc)} (C : MdOk Md) {h : Nat → Rat} (hq : ∀ j, j < Md.length → qs 600 (h j)) {g : Rat} (hg : qs 600 g) {P : List Nat} (O : PoOk Md P) (b c c2 e : Bool)
include C hq hg O
theorem zip_prf (H : Hc) : zp3F [mdD b Md, sq c (iN P), nL c2 e Md.length h] H = .ok ⟨(List.range' 0 Md.length).map fun s => D.tup [stD b (Md.getD s []), .int ((P.getD s 0 : Nat) : Int), qE e (h s)], fun _ => true⟩ H := by
  have hl := O.len
  have z := zp3_sqs b c c2 (Md.map (stD b)) ((iN P).map D.int) ((List.range Md.length).map fun j => qE e (h j)) H
  have e1 : Md.map (stD b) = (List.range Md.length).map fun s => stD b (Md.getD s []) := by
    apply List.ext_getElem (by simp)
    intro i h1 h2
    have hi : i < Md.length := by simpa using h1
    simp [List.getD, hi]
  have e2 : (iN P).map D.int = (List.range Md.length).map fun s => D.int ((P.getD s 0 : Nat) : Int) := by
    unfold iN
    apply List.ext_getElem (by simp [hl])
    intro i h1 h2
    have hi : i < P.length := by simpa using h1
    simp [List.getD, hi]
  have e3 : zipD3 (Md.map (stD b)) ((iN P).map D.int) ((List.range Md.length).map fun j => qE e (h j)) = (List.range' 0 Md.length).map fun s => D.tup [stD b (Md.getD s []), .int ((P.getD s 0 : Nat) : Int), qE e (h s)] := by
    rw [e1, e2, zipD3_map, List.range_eq_range']
  rw [e3] at z
  have d1 : (if b then D.lst (Md.map (stD b)) else .tup (Md.map (stD b))) = mdD b Md := rfl
  have d2 : (if c then D.lst ((iN P).map D.int) else .tup ((iN P).map D.int)) = sq c (iN P) := rfl
  have d3 : (if c2 then D.lst ((List.range Md.length).map fun j => qE e (h j)) else .tup ((List.range Md.length).map fun j => qE e (h j))) = nL c2 e Md.length h := rfl
  rw [d1, d2, d3] at z
  exact z
theorem proves_loop (H : Hc) : ∀ (m s : Nat) (x4 x5 x6 x7 x8 : Option D), s + m = Md.length → ∃ y4 y5 y6 y7 y8, fl (fun _ => true) (.t ((.n 4) :: ((.n 5) :: ((.n 6) :: [])))) m_proves_l1 ((List.range' s m).map fun s => D.tup [stD b (Md.getD s []), .int ((P.getD s 0 : Nat) : Int), qE e (h s)]) [some (mdD b Md), some (sq c (iN P)), some (qD g), some (nL c2 e Md.length h), x4, x5, x6, x7, x8] H =
    if (List.range' s m).all (prA Md.length h g Md P) = true then .nx [some (mdD b Md), some (sq c (iN P)), some (qD g), some (nL c2 e Md.length h), y4, y5, y6, y7, y8] H else .rt (.bl false) H
  | 0, s, x4, x5, x6, x7, x8, _ => ⟨x4, x5, x6, x7, x8, by simp [fl_end]⟩
  | m + 1, s, x4, x5, x6, x7, x8, hs => by
    have hs' : s < Md.length := by omega
    have hi := C.hi
    obtain ⟨h1, h2, CX⟩ := md_st C _ (md_at C hs')
    have e1 := fun H => sums_q hi hq b c2 e h2 CX H
    have e2 := fun H => first_X hi hq b h1 h2 CX H
    have fs := (fst1_spec (vX Md.length h (Md.getD s [])) h1).1
    have i1 := fun H => sums_ix hi hq (X := Md.getD s []) (i := fsX Md.length h (Md.getD s [])) fs H
    have i2 := fun H => sums_ix hi hq (X := Md.getD s []) (po_at O hs') H
    have ea := fun H => plus_q (qs_le (show 600 ≤ 4000 by decide) (hq s hs')) (qs_le (show 600 ≤ 4000 by decide) hg) e false H
    simp only [qE_ff] at ea
    have q1 := fun H => eqG_q true (h s + g) (vX Md.length h (Md.getD s []) (fsX Md.length h (Md.getD s []))) H
    have q2 := fun H => eqG_q true (vX Md.length h (Md.getD s []) (P.getD s 0)) (vX Md.length h (Md.getD s []) (fsX Md.length h (Md.getD s []))) H
    simp only [if_true] at q1 q2
    obtain ⟨y4, y5, y6, y7, y8, ih⟩ := proves_loop H m (s + 1) (some (stD b (Md.getD s []))) (some (.int ((P.getD s 0 : Nat) : Int))) (some (qE e (h s))) (some (.lst ((Md.getD s []).map fun x => qD (valQ Md.length h x)))) (some (qD (vX Md.length h (Md.getD s []) (fsX Md.length h (Md.getD s []))))) (by omega)
    refine ⟨y4, y5, y6, y7, y8, ?_⟩
    rw [List.range'_succ, List.map_cons, List.all_cons]
    have epr : prA Md.length h g Md P s = (decide (h s + g = vX Md.length h (Md.getD s []) (fsX Md.length h (Md.getD s []))) && decide (vX Md.length h (Md.getD s []) (P.getD s 0) = vX Md.length h (Md.getD s []) (fsX Md.length h (Md.getD s [])))) := rfl
    rw [epr]
    generalize hRG : (List.range' (s + 1) m).map (fun s => D.tup [stD b (Md.getD s []), .int ((P.getD s 0 : Nat) : Int), qE e (h s)]) = RG at *
    generalize (List.range' (s + 1) m).all (prA Md.length h g Md P) = AL at *
    generalize hd1 : decide (h s + g = vX Md.length h (Md.getD s []) (fsX Md.length h (Md.getD s []))) = d1 at *
    generalize hd2 : decide (vX Md.length h (Md.getD s []) (P.getD s 0) = vX Md.length h (Md.getD s []) (fsX Md.length h (Md.getD s []))) = d2 at *
    generalize (Md.getD s []).map (fun x => qD (valQ Md.length h x)) = YY at *
    generalize qD (vX Md.length h (Md.getD s []) (fsX Md.length h (Md.getD s []))) = V1 at *
    generalize qD (vX Md.length h (Md.getD s []) (P.getD s 0)) = V2 at *
    generalize qD (h s + g) = V3 at *
    generalize qE e (h s) = V4 at *
    generalize qD g = V5 at *
    generalize nL c2 e Md.length h = VV at *
    generalize fsX Md.length h (Md.getD s []) = FX at *
    generalize P.getD s 0 = PX at *
    generalize stD b (Md.getD s []) = SD1 at *
    generalize sq c (iN P) = PD at *
    generalize mdD b Md = MM at *
    cases d1 with
    | false =>
      refine Eq.trans (fl_rt (v := .bl false) (h' := H) (ds1 := [some MM, some PD, some V5, some VV, some SD1, some (.int (PX : Int)), some V4, x7, x8]) rfl (by simp) (by simp [m_proves_l1, e1, e2, i1, i2, ea, q1, q2])) ?_
      simp
    | true =>
      cases d2 with
      | false =>
        refine Eq.trans (fl_rt (v := .bl false) (h' := H) (ds1 := [some MM, some PD, some V5, some VV, some SD1, some (.int (PX : Int)), some V4, x7, x8]) rfl (by simp) (by simp [m_proves_l1, e1, e2, i1, i2, ea, q1, q2])) ?_
        simp
      | true =>
        refine Eq.trans (fl_nx (ds1 := [some MM, some PD, some V5, some VV, some SD1, some (.int (PX : Int)), some V4, x7, x8]) rfl (by simp) (by simp [m_proves_l1, e1, e2, i1, i2, ea, q1, q2])) (ih.trans ?_)
        simp
theorem check_proof_ok (H : Hc) : callL m_check_proof [mdD b Md, sq c (iN P), qD g, nL c2 e Md.length h] H = .ok .non H := by
  have hi := C.hi
  have hl := O.len
  have e1 := fun h => model_ok b C h
  have e2 := fun h => is_policy_ok c (P := P) (by omega) h
  have e3 := fun h => fits_ok b c C O h
  have e4 := fun h => is_fraction_q false g h
  rw [qE_ff] at e4
  have e5 : ∀ H, callL m_is_sequence [nL c2 e Md.length h] H = .ok (.bl true) H := fun H => is_seq_sqs c2 (flatL_map _ (fun j => flat_qE e _) _) H
  have e0 : ∀ H, seqD H (nL c2 e Md.length h) = some ((List.range Md.length).map fun j => qE e (h j)) := fun H => seqD_sqs c2 _ H
  have e00 : chkQ (nL c2 e Md.length h) ((List.range Md.length).map fun j => qE e (h j)) = fun _ => true := chkQ_sqs c2 _
  have c1 := lcR_mm (chk := fun _ => true) (p := .n 4) (own := [4]) (m := m_check_proof_c1) (ds := [some (mdD b Md), some (sq c (iN P)), some (qD g), some (nL c2 e Md.length h), none]) (h := []) (fun j => qE e (h j)) (fun _ => D.bl true) rfl (List.range Md.length) (by rw [List.length_range]; omega) (fun j _ => ⟨_, bindP_n .., by
    have := fun H => is_fraction_q e (h j) H
    generalize qE e (h j) = QQ at *
    simp [m_check_proof_c1, this]⟩)
  have e6 := fun H => all_true (List.range Md.length) H
  have eb : ((List.range Md.length).map fun _ => true).map D.bl = (List.range Md.length).map fun _ => D.bl true := by rw [List.map_map]; rfl
  rw [eb] at e6
  have ln : ∀ H, lenF [nL c2 e Md.length h] H = .ok (.int (Md.length : Int)) H := fun H => by
    show lenF [sqs c2 _] H = _
    rw [len_sqs, List.length_map, List.length_range]
  have lm := fun h => len_mp (Md := Md) b h
  refine call_flat (h' := []) (by simp [flat_nL]) ?_ (by simp) H
  unfold m_check_proof
  rw [runB_s]
  generalize (List.range Md.length).map (fun _ => D.bl true) = BL at *
  generalize (List.range Md.length).map (fun j => qE e (h j)) = QL at *
  generalize nL c2 e Md.length h = VV at *
  generalize qD g = GD at *
  generalize sq c (iN P) = PD at *
  generalize mdD b Md = MM at *
  simp [e1, e2, e3, e4, e5, e0, e00, c1, e6, ln, lm]
theorem proves_ok (H : Hc) : callL m_proves [mdD b Md, sq c (iN P), qD g, nL c2 e Md.length h] H = .ok (.bl (prvB Md.length h g Md P)) H := by
  obtain ⟨y4, y5, y6, y7, y8, e1⟩ := proves_loop C hq hg O b c c2 e [] Md.length 0 none none none none none (by omega)
  have e2 := fun H => check_proof_ok C hq hg O b c c2 e H
  have e3 := fun H => zip_prf C hq hg O b c c2 e H
  refine call_flat (h' := []) (by simp [flat_nL]) ?_ (by simp) H
  unfold m_proves prvB
  rw [runB_s]
  generalize (List.range' 0 Md.length).all (prA Md.length h g Md P) = AL at *
  generalize (List.range' 0 Md.length).map (fun s => D.tup [stD b (Md.getD s []), .int ((P.getD s 0 : Nat) : Int), qE e (h s)]) = RG at *
  generalize nL c2 e Md.length h = VV at *
  generalize qD g = GD at *
  generalize sq c (iN P) = PD at *
  generalize mdD b Md = MM at *
  cases AL <;> simp [e2, iZip3, e3, e1]
end
end Mp
namespace Mp
open PySem PySem.Spec PyProof.Rows L2
/-! ### the mirrors -/
def m_law_p1 : SS :=
  (sSet 1 (eCall m_law_numbers (aCons (eVar 0) aNil)))
def m_law_p2 : SS :=
  (sSet 2 (eCell (aCons (eC (.int 0)) aNil)))
def m_law_p3 : SS :=
  (sSet 3 (eCall m_law_model (aCons (eVar 1) (aCons (eVar 2) (aCons (eC (.int 4)) aNil)))))
def m_law_p4 : SS :=
  (sSet 4 (eCall m_law_policy (aCons (eVar 1) (aCons (eVar 2) (aCons (eVar 3) aNil)))))
def m_law_p5 : SS :=
  (sSet 5 (eCall m_law_gain (aCons (eVar 3) (aCons (eVar 4) aNil))))
def m_law_p6 : SS :=
  (sSet 6 (eCall m_law_best (aCons (eVar 3) aNil)))
def m_law_p7 : SS :=
  (sSet 7 (eCall m_law_frac (aCons (eVar 1) (aCons (eVar 2) aNil))))
def m_law_c1 : SE :=
  (eCall m_law_add (aCons (eVar 12) (aCons (eVar 7) aNil)))
def m_law_p8 : SS :=
  (sSet 8 (eCB tupleF (aCons (eLc (iSeq (eOp ixF (eVar 6) (eC (.int 2)))) (.n 12) [12] (fun _ h => .ok true h) m_law_c1) aNil)))
def m_law_p9 : SS :=
  (sSet 9 (eCall m_law_take (aCons (eVar 1) (aCons (eVar 2) (aCons (eCB lenF (aCons (eVar 3) aNil)) aNil)))))
def m_law_p10 : SS :=
  (sSet 10 (eOp addF (eOp addF (eSl slF (eOp ixF (eVar 6) (eC (.int 2))) none (some (eVar 9))) (eTup (aCons (eCall m_law_add (aCons (eOp ixF (eOp ixF (eVar 6) (eC (.int 2))) (eVar 9)) (aCons (eCall m_law_inner (aCons (eVar 1) (aCons (eVar 2) aNil))) aNil))) aNil))) (eSl slF (eOp ixF (eVar 6) (eC (.int 2))) (some (eOp addF (eVar 9) (eC (.int 1)))) none)))
def m_law_p11 : SS :=
  (sSet 11 (eCell (aCons (eTup (aCons (eVar 4) (aCons (eOp ixF (eVar 5) (eC (.int 0))) (aCons (eOp ixF (eVar 5) (eC (.int 1))) aNil)))) (aCons (eTup (aCons (eOp ixF (eVar 6) (eC (.int 0))) (aCons (eOp ixF (eVar 6) (eC (.int 1))) (aCons (eOp ixF (eVar 6) (eC (.int 2))) aNil)))) (aCons (eTup (aCons (eVar 4) (aCons (eOp ixF (eVar 6) (eC (.int 1))) (aCons (eOp ixF (eVar 6) (eC (.int 2))) aNil)))) (aCons (eTup (aCons (eOp ixF (eVar 6) (eC (.int 0))) (aCons (eOp ixF (eVar 6) (eC (.int 1))) (aCons (eVar 8) aNil)))) aNil))))))
def m_law_p12 : SS :=
  (sSet 11 (eOp addF (eVar 11) (eLst (aCons (eTup (aCons (eOp ixF (eVar 6) (eC (.int 0))) (aCons (eCall m_law_add (aCons (eOp ixF (eVar 6) (eC (.int 1))) (aCons (eTup (aCons (eC (.int 1)) (aCons (eC (.int 7)) aNil))) aNil))) (aCons (eOp ixF (eVar 6) (eC (.int 2))) aNil)))) (aCons (eTup (aCons (eOp ixF (eVar 6) (eC (.int 0))) (aCons (eOp ixF (eVar 6) (eC (.int 1))) (aCons (eVar 10) aNil)))) aNil)))))
def m_law_l1 : SS :=
  (sSeq (sSet 13 (eCall m_law_proves (aCons (eVar 3) (aCons (eOp ixF (eVar 12) (eC (.int 0))) (aCons (eOp ixF (eVar 12) (eC (.int 1))) (aCons (eOp ixF (eVar 12) (eC (.int 2))) aNil))))))
    (sIf (bNot (bTru (eCall (m_law_so 24) (aCons (eCall m_proves (aCons (eVar 3) (aCons (eCall m_law_handed (aCons (eVar 1) (aCons (eVar 2) (aCons (eOp ixF (eVar 12) (eC (.int 0))) aNil)))) (aCons (eOp ixF (eVar 12) (eC (.int 1))) (aCons (eCall m_law_handed (aCons (eVar 1) (aCons (eVar 2) (aCons (eOp ixF (eVar 12) (eC (.int 2))) aNil)))) aNil))))) (aCons (eVar 13) aNil)))))
      (sRet (eC (.bl false)))
      sNext))
def m_law_p13 : SS :=
  (sFor (iSeq (eVar 11)) (.n 12)
    m_law_l1)
def m_law_p14 : SS :=
  (sRet (eCall (m_law_so 24) (aCons (eCall m_proves (aCons (eVar 3) (aCons (eOp ixF (eVar 6) (eC (.int 0))) (aCons (eOp ixF (eVar 6) (eC (.int 1))) (aCons (eVar 8) aNil))))) (aCons (eC (.bl true)) aNil))))
/-- law: script 0, row 1, spot 2, model 3, policy 4, own 5, good 6, by 7, moved 8, at 9, hurt 10, tries 11, one 12, meant 13 -/
def m_law : Fn := runB 14
  (sSeq m_law_p1
  (sSeq m_law_p2
  (sSeq m_law_p3
  (sSeq m_law_p4
  (sSeq m_law_p5
  (sSeq m_law_p6
  (sSeq m_law_p7
  (sSeq m_law_p8
  (sSeq m_law_p9
  (sSeq m_law_p10
  (sSeq m_law_p11
  (sSeq m_law_p12
  (sSeq m_law_p13
  m_law_p14)))))))))))))
end Mp
namespace Mp
open PySem PySem.Spec PyProof.Rows L2
theorem opt_fsP {Md : List (List Chc)} (C : MdOk Md) {Q : List Nat} (OQ : PoOk Md Q) (hQ : Opt Md (xP Md Q)) : ∀ s, s < Md.length → vX Md.length (hh (xP Md Q)) (Md.getD s []) ((fsP Md.length (hh (xP Md Q)) Md).getD s 0) = vX Md.length (hh (xP Md Q)) (Md.getD s []) (Q.getD s 0) := fun s hs => by
  obtain ⟨f1, f2, f3⟩ := fst1_spec (vX Md.length (hh (xP Md Q)) (Md.getD s [])) (C.st _ (md_at C hs)).1
  have v := xP_val C OQ s hs
  have a := hQ s hs (fsX Md.length (hh (xP Md Q)) (Md.getD s [])) f1
  have b : vX Md.length (hh (xP Md Q)) (Md.getD s []) (fsX Md.length (hh (xP Md Q)) (Md.getD s [])) ≤ vX Md.length (hh (xP Md Q)) (Md.getD s []) (Q.getD s 0) := f2 _ (po_at OQ hs)
  rw [fsP_at hs]
  rw [v] at a
  grind
theorem small34 {a : Int} (h : a.natAbs < 256) : a.natAbs < 2 ^ 8000 := Nat.lt_of_lt_of_le (show a.natAbs < 2 ^ 8 by omega) (Nat.pow_le_pow_right (by decide) (by decide))
section
variable {row : List Int} (hr : row ≠ [])
include hr
theorem inner34 {k : Int} {i : Nat} {h : Hc} (hi : h[i]? = some (.lst [.int k])) (hk : 0 ≤ k) : ∃ q k', qs 5 q ∧ 0 ≤ k' ∧ callL m_law_inner [.lst (row.map D.int), .ref i] h = .ok (qD q) (h.set i (.lst [.int k'])) := by
  obtain ⟨u, k2, u0, u1, hk2, e2⟩ := take_ex hr (h := [.lst [.int k]]) (i := 0) (k := k) (l := 8) rfl hk (by decide)
  simp only [List.set_cons_zero] at e2
  obtain ⟨t, k3, t0, t1, hk3, e3⟩ := take_ex hr (h := [.lst [.int k2]]) (i := 0) (k := k2) (l := 2 + u - 1) rfl hk2 (by omega)
  simp only [List.set_cons_zero] at e3
  have e4 := fun h => red_ok 22 (a := 1 + t) (d := 2 + u) (by omega) (small34 (by omega)) h
  rw [rdc_q _ (by omega)] at e4
  refine ⟨((1 + t : Int) : Rat) / ((2 + u : Int) : Rat), k3, qs_div (by omega) (by omega) (by omega), hk3, call_spot (d0 := qD (((1 + t : Int) : Rat) / ((2 + u : Int) : Rat))) (h' := [.lst [.int k3]]) (by simp) (by simp) hi ?_ rfl fun j => frzD_flat (by simp)⟩
  unfold m_law_inner
  rw [runB_s]
  generalize (((1 + t : Int) : Rat) / ((2 + u : Int) : Rat)) = Q at *
  have e4' : ∀ h, callL (m_law_red 24) [.int (1 + t), .int (2 + u)] h = .ok (qD Q) h := e4
  simp [e2, e3, e4']
theorem frac34 {k : Int} {i : Nat} {h : Hc} (hi : h[i]? = some (.lst [.int k])) (hk : 0 ≤ k) : ∃ q k', qs 21 q ∧ 0 ≤ k' ∧ callL m_law_frac [.lst (row.map D.int), .ref i] h = .ok (qD q) (h.set i (.lst [.int k'])) := by
  obtain ⟨p, q, k', hg, q1, q2, p1, hk', e⟩ := frac_ex hr hi hk
  obtain ⟨d, rfl⟩ : ∃ d : Nat, q = (d : Int) := ⟨q.toNat, by omega⟩
  have hd : d ≠ 0 := by omega
  have hc : p.natAbs.Coprime d := hg
  refine ⟨⟨p, d, hd, hc⟩, k', ⟨?_, ?_⟩, hk', e⟩
  · show p.natAbs < 2 ^ 21
    omega
  · show d < 2 ^ 21
    omega
theorem handed_iP {P : List Nat} (hl : P.length ≤ 1000) {k : Int} {i : Nat} {h : Hc} (hi : h[i]? = some (.lst [.int k])) (hk : 0 ≤ k) : ∃ (b : Bool) (k' : Int), 0 ≤ k' ∧ callL m_law_handed [.lst (row.map D.int), .ref i, sq false (iN P)] h = .ok (sq b (iN P)) (h.set i (.lst [.int k'])) := by
  obtain ⟨b, k', hk', e1⟩ := handed_gen hr (fit_row 22 (iN P) (by rw [iN_len]; omega)) hi hk
  refine ⟨b, k', hk', ?_⟩
  rw [e1]
  cases b
  · rfl
  · simp only [if_true]
    have : lsdN 24 (sq false (iN P)) = sq true (iN P) := by
      show D.lst (((iN P).map D.int).map (lsdN 23)) = D.lst ((iN P).map D.int)
      rw [List.map_map]
      rfl
    exact congrArg (R.ok · _) this
theorem handed_nL {n : Nat} (hn : n ≤ 1000) {f : Nat → Rat} {k : Int} {i : Nat} {h : Hc} (hi : h[i]? = some (.lst [.int k])) (hk : 0 ≤ k) : ∃ (b : Bool) (k' : Int), 0 ≤ k' ∧ callL m_law_handed [.lst (row.map D.int), .ref i, nL false false n f] h = .ok (nL b b n f) (h.set i (.lst [.int k'])) := by
  have fit : lsFit 24 (nL false false n f) = true := by
    show lsFit 24 (.tup ((List.range n).map fun j => qE false (f j))) = true
    unfold lsFit
    rw [Bool.and_eq_true]
    refine ⟨by simp; omega, List.all_eq_true.mpr fun y hy => ?_⟩
    obtain ⟨j, _, rfl⟩ := List.mem_map.mp hy
    show lsFit 23 (.tup [.int (f j).num, .int ((f j).den : Int)]) = true
    unfold lsFit
    simp [lsFit]
  obtain ⟨b, k', hk', e1⟩ := handed_gen hr fit hi hk
  refine ⟨b, k', hk', ?_⟩
  rw [e1]
  cases b
  · rfl
  · simp only [if_true]
    have : lsdN 24 (nL false false n f) = nL true true n f := by
      show D.lst (((List.range n).map fun j => qE false (f j)).map (lsdN 23)) = D.lst ((List.range n).map fun j => qE true (f j))
      rw [List.map_map]
      rfl
    exact congrArg (R.ok · _) this
end
structure Tri where
  P : List Nat
  g : Rat
  h : Nat → Rat
def triD (n : Nat) (t : Tri) : D := .tup [sq false (iN t.P), qD t.g, nL false false n t.h]
section
variable {row : List Int} (hr : row ≠ []) {Md : List (List Chc)} (C : MdOk Md)
include hr C
theorem tris34 (sc : D) (x4 x5 x6 x7 x8 x9 x10 x11 : Option D) (J : Hc) : ∀ (L : List Tri) (k : Int) (x12 x13 : Option D), 0 ≤ k → (∀ t ∈ L, PoOk Md t.P ∧ qs 600 t.g ∧ ∀ j, j < Md.length → qs 600 (t.h j)) → ∃ k' y12 y13, 0 ≤ k' ∧ fl (fun _ => true) (.n 12) m_law_l1 (L.map (triD Md.length)) [some sc, some (.lst (row.map D.int)), some (.ref 0), some (mdD false Md), x4, x5, x6, x7, x8, x9, x10, x11, x12, x13] (Mp.C.lst [.int k] :: J) =
    .nx [some sc, some (.lst (row.map D.int)), some (.ref 0), some (mdD false Md), x4, x5, x6, x7, x8, x9, x10, x11, y12, y13] (Mp.C.lst [.int k'] :: J)
  | [], k, x12, x13, hk, _ => ⟨k, x12, x13, hk, fl_end rfl⟩
  | t :: L, k, x12, x13, hk, hL => by
    obtain ⟨O, hg, hq⟩ := hL t (by simp)
    have hi := C.hi
    have hl := O.len
    have e1 := fun H => law_proves_ok C hq hg O false false H
    obtain ⟨b1, k1, hk1, e2⟩ := handed_iP hr (P := t.P) (by omega) (h := Mp.C.lst [.int k] :: J) (i := 0) rfl hk
    simp only [List.set_cons_zero] at e2
    obtain ⟨b2, k2, hk2, e3⟩ := handed_nL hr (n := Md.length) (f := t.h) (by omega) (h := Mp.C.lst [.int k1] :: J) (i := 0) rfl hk1
    simp only [List.set_cons_zero] at e3
    have e4 := fun H => proves_ok C hq hg O false b1 b2 b2 H
    have so := fun h => so_refl 24 (.bl (prvB Md.length t.h t.g Md t.P)) h rfl
    obtain ⟨k', y12, y13, hk', ih⟩ := tris34 sc x4 x5 x6 x7 x8 x9 x10 x11 J L k2 (some (triD Md.length t)) (some (.bl (prvB Md.length t.h t.g Md t.P))) hk2 fun u hu => hL u (by simp [hu])
    refine ⟨k', y12, y13, hk', ?_⟩
    rw [List.map_cons]
    refine Eq.trans (fl_n (b := m_law_l1) ?_) ih
    have et : triD Md.length t = .tup [sq false (iN t.P), qD t.g, nL false false Md.length t.h] := rfl
    clear ih
    rw [et]
    generalize prvB Md.length t.h t.g Md t.P = PB at *
    generalize nL b2 b2 Md.length t.h = N2 at *
    generalize nL false false Md.length t.h = N1 at *
    generalize qD t.g = GD at *
    generalize sq b1 (iN t.P) = P2 at *
    generalize sq false (iN t.P) = P1 at *
    generalize mdD false Md = MM at *
    generalize row.map D.int = RD at *
    simp [m_law_l1, e1, e2, e3, e4, so]
end
theorem val_shift' {n : Nat} {h : Nat → Rat} (c : Rat) {x : Chc} (Cx : ChcOk n x) (hn : n ≤ 5) : valQ n (fun j => h j + c) x = valQ n h x + c := by
  have hs := (Cx.sum hn).1
  have s0 : ((x.2.sum : Int) : Rat) ≠ 0 := by
    intro z
    have : x.2.sum = 0 := by exact_mod_cast z
    omega
  have e1 : sumR (fun j => ((x.2.getD j 0 : Int) : Rat) * (h j + c)) n = c * ((x.2.sum : Int) : Rat) + sumR (fun j => ((x.2.getD j 0 : Int) : Rat) * h j) n := by
    rw [sum_sumR, Cx.len, ← sumR_mul, ← sumR_add]
    exact sumR_congr fun j _ => by grind
  unfold valQ mnQ
  rw [e1]
  generalize sumR (fun j => ((x.2.getD j 0 : Int) : Rat) * h j) n = A at *
  generalize ((x.2.sum : Int) : Rat) = T at *
  grind
theorem vX_shift {Md : List (List Chc)} (C : MdOk Md) {h : Nat → Rat} (c : Rat) {s i : Nat} (hs : s < Md.length) (hi : i < (Md.getD s []).length) : vX Md.length (fun j => h j + c) (Md.getD s []) i = vX Md.length h (Md.getD s []) i + c := by
  have hm : (Md.getD s []).getD i (0, []) ∈ Md.getD s [] := by
    generalize Md.getD s [] = X at *
    simp [List.getD, hi]
  exact val_shift' c ((C.st _ (md_at C hs)).2.2 _ hm) C.hi
theorem fst1_congr {f g : Nat → Rat} {n : Nat} (h1 : 1 ≤ n) (e : ∀ i j, i < n → j < n → (f i < f j ↔ g i < g j)) : fst1 f n = fst1 g n := by
  have key : ∀ (m k a : Nat), k + m ≤ n → a < n → fq f k m a = fq g k m a := by
    intro m
    induction m with
    | zero => intro k a _ _; rfl
    | succ m ih =>
      intro k a h1 h2
      unfold fq
      have : (if f k < f a then k else a) = if g k < g a then k else a := by
        by_cases c : f k < f a
        · rw [if_pos c, if_pos ((e k a (by omega) h2).mp c)]
        · rw [if_neg c, if_neg (fun z => c ((e k a (by omega) h2).mpr z))]
      rw [this]
      exact ih (k + 1) _ (by omega) (by split <;> omega)
  exact key _ _ _ (by omega) (by omega)
theorem prv_shift {Md : List (List Chc)} (C : MdOk Md) {h : Nat → Rat} {g : Rat} (c : Rat) {P : List Nat} (O : PoOk Md P) (hp : prvB Md.length h g Md P = true) : prvB Md.length (fun j => h j + c) g Md P = true := by
  unfold prvB at hp ⊢
  rw [List.all_eq_true] at hp ⊢
  intro s hs
  have a := hp s hs
  have hs' : s < Md.length := by simp at hs; omega
  have h1 := (C.st _ (md_at C hs')).1
  have ef : fsX Md.length (fun j => h j + c) (Md.getD s []) = fsX Md.length h (Md.getD s []) := fst1_congr h1 fun i j hi hj => by
    rw [vX_shift C c hs' hi, vX_shift C c hs' hj]
    constructor <;> intro z <;> grind
  have ff := (fst1_spec (vX Md.length h (Md.getD s [])) h1).1
  unfold prA at a ⊢
  rw [Bool.and_eq_true, decide_eq_true_eq, decide_eq_true_eq] at a ⊢
  rw [ef, vX_shift C c hs' (i := fsX Md.length h (Md.getD s [])) ff, vX_shift C c hs' (po_at O hs')]
  exact ⟨by have := a.1; grind, by rw [a.2]⟩
theorem slT_tk (xs : List D) (c : Nat) (h : Hc) : slF (.tup xs) none (some (c : Int)) h = .ok (.tup (xs.take c)) h := by
  have e : cutD xs none (some (c : Int)) = xs.take c := cutD_take xs c
  show R.ok (D.tup (cutD xs none (some (c : Int)))) h = _
  rw [e]
theorem slT_dr (xs : List D) (c : Nat) (h : Hc) : slF (.tup xs) (some (c : Int)) none h = .ok (.tup (xs.drop c)) h := by
  have e : cutD xs (some (c : Int)) none = xs.drop c := cutD_drop xs c
  show R.ok (D.tup (cutD xs (some (c : Int)) none)) h = _
  rw [e]
theorem law_ok (b : Bool) (ns : List Int) (hn : ns.length ≤ 63) : ∃ h, m_law [scD b (ns.map D.int)] [] = .ok (.bl true) h := by
  obtain ⟨row, hr, _, e0⟩ := numbers_ok b ns hn
  generalize hsc : scD b (ns.map D.int) = sc at e0
  obtain ⟨Md, k1, C, h4, hk1, e1⟩ := model_exm hr (most := 4) (by decide) (by decide) (h := [.lst [.int 0]]) (i := 0) rfl (by decide)
  simp only [List.set_cons_zero] at e1
  have hi := C.hi
  have lo := C.lo
  obtain ⟨P, k2, O, hk2, e2⟩ := law_policy_ex hr C (h := [.lst [.int k1]]) (i := 0) rfl hk1
  simp only [List.set_cons_zero] at e2
  have e3 := fun H => law_gain_xP C (by omega) O H
  obtain ⟨Q, OQ, hQ⟩ := best_ex C 243 _ (zeros_ok C) (mu_le C _)
  have e4 := fun H => law_best_ok C (by omega) OQ hQ H
  obtain ⟨r, k3, qr, hk3, e5⟩ := frac34 hr (h := [.lst [.int k2]]) (i := 0) rfl hk2
  simp only [List.set_cons_zero] at e5
  have hqP : ∀ j, j < Md.length → qs 550 (hh (xP Md P) j) := hh_qs (by decide) fun j hj => xP_qs C O j hj
  have hqQ : ∀ j, j < Md.length → qs 550 (hh (xP Md Q) j) := hh_qs (by decide) fun j hj => xP_qs C OQ j hj
  -- all moved
  have ib2s : ∀ h, seqD h (nmD Md.length (xP Md Q)) = some ((List.range Md.length).map fun j => qD (hh (xP Md Q) j)) := fun h => rfl
  have ib2c : chkQ (nmD Md.length (xP Md Q)) ((List.range Md.length).map fun j => qD (hh (xP Md Q) j)) = fun _ => true := chkQ_sqs false _
  have c1 := fun (x8 x9 x10 x11 x12 x13 : Option D) => lcR_mm (chk := fun _ => true) (p := .n 12) (own := [12]) (m := m_law_c1) (ds := [some sc, some (.lst (row.map D.int)), some (.ref 0), some (mdD false Md), some (sq false (iN P)), some (gnD Md.length (xP Md P)), some (bestD Md (xP Md Q)), some (qD r), x8, x9, x10, x11, x12, x13]) (h := [.lst [.int k3]]) (fun j => qD (hh (xP Md Q) j)) (fun j => qD (hh (xP Md Q) j + r)) rfl (List.range Md.length) (by rw [List.length_range]; omega) (fun j hj => ⟨_, bindP_n .., by
    have e := fun h => law_add_q (qs_le (show 550 ≤ 4000 by decide) (hqQ j (List.mem_range.mp hj))) (qs_le (show 21 ≤ 4000 by decide) qr) h
    generalize qD (hh (xP Md Q) j + r) = A at *
    generalize qD (hh (xP Md Q) j) = B at *
    generalize qD r = R0 at *
    simp [m_law_c1, e]⟩)
  have et8 : ∀ h, tupleF [.lst ((List.range Md.length).map fun j => qD (hh (xP Md Q) j + r))] h = .ok (nL false false Md.length (fun j => hh (xP Md Q) j + r)) h := fun h => rfl
  have lm := fun h => len_mp (Md := Md) false h
  obtain ⟨v, k4, v0, vl, hk4, e6⟩ := take_ex hr (h := [.lst [.int k3]]) (i := 0) (k := k3) (l := (Md.length : Int)) rfl hk3 (by omega)
  simp only [List.set_cons_zero] at e6
  obtain ⟨a, rfl⟩ : ∃ a : Nat, v = (a : Int) := ⟨v.toNat, by omega⟩
  have ha : a < Md.length := by omega
  obtain ⟨u, k5, qu, hk5, e7⟩ := inner34 hr (h := [.lst [.int k4]]) (i := 0) rfl hk4
  simp only [List.set_cons_zero] at e7
  -- one thing changed
  let h2 : Nat → Rat := fun j => if j = a then hh (xP Md Q) j + u else hh (xP Md Q) j
  have ia : ∀ h, ixF (nmD Md.length (xP Md Q)) (.int (a : Int)) h = .ok (qD (hh (xP Md Q) a)) h := fun h => by
    have := ixQ false (fun j => qD (hh (xP Md Q) j)) (List.range Md.length) (i := a) (by rw [List.length_range]; exact ha) h
    rw [List.getElem_range] at this
    exact this
  have ea := fun h => law_add_q (qs_le (show 550 ≤ 4000 by decide) (hqQ a ha)) (qs_le (show 5 ≤ 4000 by decide) qu) h
  have s1 := fun h => slT_tk ((List.range Md.length).map fun j => qD (hh (xP Md Q) j)) a h
  have s2 := fun h => slT_dr ((List.range Md.length).map fun j => qD (hh (xP Md Q) j)) (a + 1) h
  have ea1 : ((a + 1 : Nat) : Int) = (a : Int) + 1 := by push_cast; rfl
  rw [ea1] at s2
  have nmE : nmD Md.length (xP Md Q) = .tup ((List.range Md.length).map fun j => qD (hh (xP Md Q) j)) := rfl
  rw [← nmE] at s1 s2
  have ad1 : ∀ h, addF (.tup (((List.range Md.length).map fun j => qD (hh (xP Md Q) j)).take a)) (.tup [qD (hh (xP Md Q) a + u)]) h = .ok (.tup (((List.range Md.length).map fun j => qD (hh (xP Md Q) j)).take a ++ [qD (hh (xP Md Q) a + u)])) h := fun h => by
    have hlim := lim_eq
    unfold addF
    simp
    omega
  have hset : ((List.range Md.length).map fun j => qD (hh (xP Md Q) j)).take a ++ [qD (hh (xP Md Q) a + u)] ++ ((List.range Md.length).map fun j => qD (hh (xP Md Q) j)).drop (a + 1) = (List.range Md.length).map fun j => qE false (h2 j) := by
    have e1 : ((List.range Md.length).map fun j => qD (hh (xP Md Q) j)).take a ++ [qD (hh (xP Md Q) a + u)] ++ ((List.range Md.length).map fun j => qD (hh (xP Md Q) j)).drop (a + 1) = ((List.range Md.length).map fun j => qD (hh (xP Md Q) j)).set a (qD (hh (xP Md Q) a + u)) := by
      rw [List.set_eq_take_append_cons_drop, if_pos (by simpa using ha), List.append_assoc]
      rfl
    rw [e1]
    apply List.ext_getElem (by simp)
    intro i h1 h2'
    rw [List.getElem_set, List.getElem_map, List.getElem_map, List.getElem_range]
    show _ = qD (if i = a then hh (xP Md Q) i + u else hh (xP Md Q) i)
    by_cases q : a = i
    · subst q
      rw [if_pos rfl, if_pos rfl]
    · rw [if_neg q, if_neg (fun z => q z.symm)]
  have ad2 : ∀ h, addF (.tup (((List.range Md.length).map fun j => qD (hh (xP Md Q) j)).take a ++ [qD (hh (xP Md Q) a + u)])) (.tup (((List.range Md.length).map fun j => qD (hh (xP Md Q) j)).drop (a + 1))) h = .ok (nL false false Md.length h2) h := fun h => by
    have hlim := lim_eq
    show addF _ _ h = .ok (.tup ((List.range Md.length).map fun j => qE false (h2 j))) h
    rw [← hset]
    unfold addF
    simp
    omega
  have q17 : qs 4 ((1 : Rat) / 7) := ⟨by decide +kernel, by decide +kernel⟩
  have e17 := fun h => law_add_q (qs_le (show 550 ≤ 4000 by decide) (xP_qs C OQ 0 lo)) (qs_le (show 4 ≤ 4000 by decide) q17) h
  have d17 : qD ((1 : Rat) / 7) = .tup [.int 1, .int 7] := by
    have n1 : ((1 : Rat) / 7).num = 1 := by decide +kernel
    have n2 : ((1 : Rat) / 7).den = 7 := by decide +kernel
    unfold qD
    rw [n1, n2]
    rfl
  rw [d17] at e17
  have ib0 : ∀ h, ixF (bestD Md (xP Md Q)) (.int 0) h = .ok (sq false (iN (fsP Md.length (hh (xP Md Q)) Md))) h := fun h => by unfold bestD; simp
  have ib1 : ∀ h, ixF (bestD Md (xP Md Q)) (.int 1) h = .ok (qD (xP Md Q 0)) h := fun h => by unfold bestD; simp
  have ib2 : ∀ h, ixF (bestD Md (xP Md Q)) (.int 2) h = .ok (nmD Md.length (xP Md Q)) h := fun h => by unfold bestD; simp
  have ig0 : ∀ h, ixF (gnD Md.length (xP Md P)) (.int 0) h = .ok (qD (xP Md P 0)) h := fun h => by unfold gnD; simp
  have ig1 : ∀ h, ixF (gnD Md.length (xP Md P)) (.int 1) h = .ok (nmD Md.length (xP Md P)) h := fun h => by unfold gnD; simp
  have OF := fsP_ok (n := Md.length) (h := hh (xP Md Q)) C
  let F := fsP Md.length (hh (xP Md Q)) Md
  let L : List Tri := [⟨P, xP Md P 0, hh (xP Md P)⟩, ⟨F, xP Md Q 0, hh (xP Md Q)⟩, ⟨P, xP Md Q 0, hh (xP Md Q)⟩, ⟨F, xP Md Q 0, fun j => hh (xP Md Q) j + r⟩, ⟨F, xP Md Q 0 + 1 / 7, hh (xP Md Q)⟩, ⟨F, xP Md Q 0, h2⟩]
  have le6 : ∀ {x : Rat}, qs 550 x → qs 600 x := fun h => qs_le (by decide) h
  have hmv : ∀ j, j < Md.length → qs 600 (hh (xP Md Q) j + r) := fun j hj => qs_le (by decide) (qs_add (hqQ j hj) qr)
  have hL : ∀ t ∈ L, PoOk Md t.P ∧ qs 600 t.g ∧ ∀ j, j < Md.length → qs 600 (t.h j) := fun t ht => by
    simp only [L, List.mem_cons, List.not_mem_nil, or_false] at ht
    rcases ht with rfl | rfl | rfl | rfl | rfl | rfl
    · exact ⟨O, le6 (xP_qs C O 0 lo), fun j hj => le6 (hqP j hj)⟩
    · exact ⟨OF, le6 (xP_qs C OQ 0 lo), fun j hj => le6 (hqQ j hj)⟩
    · exact ⟨O, le6 (xP_qs C OQ 0 lo), fun j hj => le6 (hqQ j hj)⟩
    · exact ⟨OF, le6 (xP_qs C OQ 0 lo), hmv⟩
    · exact ⟨OF, qs_le (by decide) (qs_add (xP_qs C OQ 0 lo) q17), fun j hj => le6 (hqQ j hj)⟩
    · refine ⟨OF, le6 (xP_qs C OQ 0 lo), fun j hj => ?_⟩
      show qs 600 (if j = a then hh (xP Md Q) j + u else hh (xP Md Q) j)
      split
      · exact qs_le (by decide) (qs_add (hqQ j hj) qu)
      · exact le6 (hqQ j hj)
  have eL : L.map (triD Md.length) = [.tup [sq false (iN P), qD (xP Md P 0), nmD Md.length (xP Md P)], .tup [sq false (iN F), qD (xP Md Q 0), nmD Md.length (xP Md Q)], .tup [sq false (iN P), qD (xP Md Q 0), nmD Md.length (xP Md Q)], .tup [sq false (iN F), qD (xP Md Q 0), nL false false Md.length (fun j => hh (xP Md Q) j + r)], .tup [sq false (iN F), qD (xP Md Q 0 + 1 / 7), nmD Md.length (xP Md Q)], .tup [sq false (iN F), qD (xP Md Q 0), nL false false Md.length h2]] := rfl
  obtain ⟨k6, y12, y13, hk6, e8⟩ := tris34 hr C sc (some (sq false (iN P))) (some (gnD Md.length (xP Md P))) (some (bestD Md (xP Md Q))) (some (qD r)) (some (nL false false Md.length (fun j => hh (xP Md Q) j + r))) (some (.int (a : Int))) (some (nL false false Md.length h2)) (some (.lst (L.map (triD Md.length)))) [Mp.C.lst [.tup [sq false (iN P), qD (xP Md P 0), nmD Md.length (xP Md P)], .tup [sq false (iN F), qD (xP Md Q 0), nmD Md.length (xP Md Q)], .tup [sq false (iN P), qD (xP Md Q 0), nmD Md.length (xP Md Q)], .tup [sq false (iN F), qD (xP Md Q 0), nL false false Md.length (fun j => hh (xP Md Q) j + r)]]] L k5 none none hk5 hL
  have ad3 : ∀ (T1 T2 T3 T4 T5 T6 : D) (c0 : Mp.C), addF (.ref 1) (.lst [T5, T6]) [c0, Mp.C.lst [T1, T2, T3, T4]] = .ok (.lst [T1, T2, T3, T4, T5, T6]) [c0, Mp.C.lst [T1, T2, T3, T4]] := fun T1 T2 T3 T4 T5 T6 c0 => by
    have hlim := lim_eq
    unfold addF
    have q : ([c0, Mp.C.lst [T1, T2, T3, T4]] : Hc)[1]? = some (.lst [T1, T2, T3, T4]) := rfl
    simp only [lstD, q]
    rw [if_pos (by simp)]
    rfl
  have pr := prv_shift C r OF (opt_prv C OQ hQ (opt_fsP C OQ hQ))
  have e9 := fun H => proves_ok C hmv (le6 (xP_qs C OQ 0 lo)) OF false false false false H
  rw [pr] at e9
  have sot := fun h => so_refl 24 (.bl true) h rfl
  rw [eL] at e8
  refine ⟨Mp.C.lst [.int k6] :: [Mp.C.lst [.tup [sq false (iN P), qD (xP Md P 0), nmD Md.length (xP Md P)], .tup [sq false (iN F), qD (xP Md Q 0), nmD Md.length (xP Md Q)], .tup [sq false (iN P), qD (xP Md Q 0), nmD Md.length (xP Md Q)], .tup [sq false (iN F), qD (xP Md Q 0), nL false false Md.length (fun j => hh (xP Md Q) j + r)]]], ?_⟩
  unfold m_law
  rw [runB_s]
  have eF : fsP Md.length (hh (xP Md Q)) Md = F := rfl
  rw [eF] at ib0 e9
  clear eL hL hset pr nmE
  generalize nL false false Md.length h2 = NH at *
  generalize nL false false Md.length (fun j => hh (xP Md Q) j + r) = NM at *
  generalize ((List.range Md.length).map fun j => qD (hh (xP Md Q) j + r)) = LM at *
  generalize (((List.range Md.length).map fun j => qD (hh (xP Md Q) j)).take a ++ [qD (hh (xP Md Q) a + u)]) = L3 at *
  generalize (((List.range Md.length).map fun j => qD (hh (xP Md Q) j)).take a) = L1 at *
  generalize (((List.range Md.length).map fun j => qD (hh (xP Md Q) j)).drop (a + 1)) = L2' at *
  generalize ((List.range Md.length).map fun j => qD (hh (xP Md Q) j)) = L0 at *
  generalize qD (hh (xP Md Q) a + u) = QA at *
  generalize qD (hh (xP Md Q) a) = QB at *
  generalize qD (xP Md Q 0 + 1 / 7) = Q7 at *
  generalize qD (xP Md Q 0) = Q0 at *
  generalize qD (xP Md P 0) = P0 at *
  generalize qD r = R0 at *
  generalize qD u = U0 at *
  generalize nmD Md.length (xP Md Q) = NQ at *
  generalize nmD Md.length (xP Md P) = NP at *
  generalize sq false (iN F) = FD at *
  generalize sq false (iN P) = PD at *
  generalize gnD Md.length (xP Md P) = GN at *
  generalize bestD Md (xP Md Q) = BB at *
  generalize mdD false Md = MM at *
  generalize row.map D.int = RD at *
  simp [m_law_p1, m_law_p2, m_law_p3, m_law_p4, m_law_p5, m_law_p6, m_law_p7, m_law_p8, m_law_p9, m_law_p10, m_law_p11, m_law_p12, m_law_p13, m_law_p14, e0, e1, e2, e3, e4, e5, ib2, ib2s, ib2c, c1, et8, lm, e6, ia, e7, ea, s1, s2, ad1, ad2, ig0, ig1, ib0, ib1, e17, ad3, e8, e9, sot]
end Mp
namespace Mp
open PySem PySem.Spec PyProof.Rows L2
/-! ### the defs are as their mirrors say -/
def topS (i : Nat) : Stmt := PySem.Challenge.pw_mendplan_k34_proofs_of_policies.main.body.getD i (.Pass ⟨0, 0, 0, 0⟩)
/-- what the top has left of names that are no defs -/
structure Tx (P : Program) (w : World) (K : PySem.W.Frag) (mg : Str → Option Value) : Prop where
  ok : True
  b_range : mg "range" = none
  b_int : mg "int" = none
  b_len : mg "len" = none
  b_tuple : mg "tuple" = none
  b_list : mg "list" = none
  b_sum : mg "sum" = none
  b_isinstance : mg "isinstance" = none
  b_bool : mg "bool" = none
  b_str : mg "str" = none
  b_all : mg "all" = none
  b_zip : mg "zip" = none
  i_gcd : mg "gcd" = some (.builtin "math.gcd")
  i_lcm : mg "lcm" = some (.builtin "math.lcm")
  c_MOST_COST : TopVal K mg "MOST_COST" (.int 1000)
  c_MOST_WEIGHT : TopVal K mg "MOST_WEIGHT" (.int 9)
  c_MOST_CHOICES : TopVal K mg "MOST_CHOICES" (.int 3)
  c_MOST_STATES : TopVal K mg "MOST_STATES" (.int 5)
  x_BadValue : XCls P w K mg "BadValue" ["self", "at"] ["at"] (spX1 "at")
section
variable {P : Program} {w : World} {K : PySem.W.Frag} {mg : Str → Option Value} {base : Heap}
abbrev sx_BadValue : Stmt := inClass (topS 9) 0
theorem scx_BadValue : FnScope ["self", "at"] ["self", "at"] (defScope sx_BadValue) := ⟨rfl, rfl, rfl, by decide +kernel, rfl, by decide +kernel, by decide +kernel⟩
theorem init_BadValue {f : Addr} {fd : FuncData} (F : Fun K "__init__" "BadValue.__init__" sx_BadValue f fd) : FnOk P w K mg base CX0 1 f fd ["self", "at"] (spX1 "at" K) := F.ok scx_BadValue (fun vs H Q E h => x1_len vs H Q E h) fun cdv A outer s H vs Q E hr h => ⟨_, pss_one (ps_xst (pv 0) (pv 1)), x1_rd rfl h⟩
abbrev sm_law_numbers : Stmt := topS 36
theorem scm_law_numbers : FnScope ["script", "row", "cell", "left", "k", "mixed"] ["script"] (defScope sm_law_numbers) := ⟨rfl, rfl, rfl, by decide +kernel, rfl, by decide +kernel, by decide +kernel⟩
theorem goodm_law_numbers (T : Tx P w K mg) (D : DefAt K mg "_law_numbers" "_law_numbers" sm_law_numbers ["script"])  : Good P w K mg base "_law_numbers" 1 ["script"] m_law_numbers :=
  (D.good (N := ["script", "row", "cell", "left", "k", "mixed"]) scm_law_numbers fun f cdv A outer s H E hr =>
  (dss_cons (ds_set (ps_set (i := 1) scm_law_numbers.nd rfl (by first | exact .inl rfl | exact .inr rfl) (de_cell da_nil)))
  (dss_cons (ds_for (ps_for (passes_of rfl) rfl (di_seq (de_sl (pe_slice sl_all (de_var (pv 0)) do_none (do_some de_int)) sld_f)) (dg_n (pg_name (i := 2) scm_law_numbers.nd rfl (by first | exact .inl rfl | exact .inr rfl)))
    (dss_one (ds_if (dt_cmp op_geA opd_ord (de_var (pv 2)) (de_op op_pow opd_pow de_int de_int) rfl)
      (dss_cons (ds_set (ps_set (i := 3) scm_law_numbers.nd rfl (by first | exact .inl rfl | exact .inr rfl) (de_var (pv 2))))
      (dss_one (ds_for (ps_for (passes_of rfl) rfl (di_rg1 (pi_range1 rfl T.b_range (da_cons de_int da_nil))) (dg_n (pg_name (i := 4) scm_law_numbers.nd rfl (by first | exact .inl rfl | exact .inr rfl)))
        (dss_cons (ds_if (dt_cmp (op_eqA (hu_of64 hr)) opd_eqA (de_var (pv 3)) de_int rfl)
          (dss_one ds_break)
          dss_nil)
        (dss_cons (ds_drop (de_bm (pe_bm PySem.F.plainAttrs_list PySem.F.slot_list_append PySem.F.type_list_append mt_append (de_var (pv 1)) (da_cons (de_op op_mod opd_mod (de_cb (pe_callTy call_int1 rfl T.b_int (by decide +kernel) (da_cons (de_var (pv 3)) da_nil)) cd_int) de_int) da_nil)) md_app))
        (dss_one (ds_set (ps_set (i := 3) scm_law_numbers.nd rfl (by first | exact .inl rfl | exact .inr rfl) (de_op op_fdivA opd_fdiv (de_var (pv 3)) de_int))))))))))
      (dss_one (ds_for (ps_for (passes_of rfl) rfl (di_rg1 (pi_range1 rfl T.b_range (da_cons de_int da_nil))) (dg_n (pg_name (i := 4) scm_law_numbers.nd rfl (by first | exact .inl rfl | exact .inr rfl)))
        (dss_cons (ds_set (ps_set (i := 5) scm_law_numbers.nd rfl (by first | exact .inl rfl | exact .inr rfl) (de_op op_mod opd_mod (de_cb (pe_callTy call_int1 rfl T.b_int (by decide +kernel) (da_cons (de_op op_addA opd_add (de_op op_addA opd_add (de_op op_mulA opd_mul (de_var (pv 2)) de_int) (de_op op_mulA opd_mul (de_var (pv 4)) de_int)) de_int) da_nil)) cd_int) de_int)))
        (dss_one (ds_drop (de_bm (pe_bm PySem.F.plainAttrs_list PySem.F.slot_list_append PySem.F.type_list_append mt_append (de_var (pv 1)) (da_cons (de_op op_mod opd_mod (de_cb (pe_callTy call_int1 rfl T.b_int (by decide +kernel) (da_cons (de_op op_addA opd_add (de_op op_mulA opd_mul (de_var (pv 5)) de_int) (de_var (pv 4))) da_nil)) cd_int) de_int) da_nil)) md_app)))))))))))
  (dss_cons (ds_if (dt_cmp (op_eqA (hu_of64 hr)) opd_eqA (de_cb (pe_callB call_lenA rfl T.b_len (by decide +kernel) (da_cons (de_var (pv 1)) da_nil)) cd_len) de_int rfl)
    (dss_one (ds_drop (de_bm (pe_bm PySem.F.plainAttrs_list PySem.F.slot_list_append PySem.F.type_list_append mt_append (de_var (pv 1)) (da_cons de_int da_nil)) md_app)))
    dss_nil)
  (dss_one (ds_ret (de_var (pv 1))))))))
abbrev sm_law_draw : Stmt := topS 37
theorem scm_law_draw : FnScope ["row", "at", "limit", "mixed"] ["row", "at", "limit"] (defScope sm_law_draw) := ⟨rfl, rfl, rfl, by decide +kernel, rfl, by decide +kernel, by decide +kernel⟩
theorem goodm_law_draw (T : Tx P w K mg) (D : DefAt K mg "_law_draw" "_law_draw" sm_law_draw ["row", "at", "limit"])  : Good P w K mg base "_law_draw" 1 ["row", "at", "limit"] m_law_draw :=
  (D.good (N := ["row", "at", "limit", "mixed"]) scm_law_draw fun f cdv A outer s H E hr =>
  (dss_cons (ds_if (dt_cmp op_ltA opd_ord (de_var (pv 1)) (de_cb (pe_callB call_lenA rfl T.b_len (by decide +kernel) (da_cons (de_var (pv 0)) da_nil)) cd_len) rfl)
    (dss_one (ds_ret (de_op op_mod opd_mod (de_cb (pe_callTy call_int1 rfl T.b_int (by decide +kernel) (da_cons (de_ix ix_seq opd_ix (de_var (pv 0)) (de_var (pv 1)) (fun _ _ => rfl)) da_nil)) cd_int) (de_var (pv 2)))))
    dss_nil)
  (dss_cons (ds_set (ps_set (i := 3) scm_law_draw.nd rfl (by first | exact .inl rfl | exact .inr rfl) (de_op op_mod opd_mod (de_cb (pe_callTy call_int1 rfl T.b_int (by decide +kernel) (da_cons (de_op op_addA opd_add (de_op op_addA opd_add (de_op op_mulA opd_mul (de_ix ix_seq opd_ix (de_var (pv 0)) (de_op op_mod opd_mod (de_cb (pe_callTy call_int1 rfl T.b_int (by decide +kernel) (da_cons (de_var (pv 1)) da_nil)) cd_int) (de_cb (pe_callB call_lenA rfl T.b_len (by decide +kernel) (da_cons (de_var (pv 0)) da_nil)) cd_len)) (fun _ _ => rfl)) de_int) (de_op op_mulA opd_mul (de_var (pv 1)) de_int)) de_int) da_nil)) cd_int) de_int)))
  (dss_one (ds_ret (de_op op_mod opd_mod (de_cb (pe_callTy call_int1 rfl T.b_int (by decide +kernel) (da_cons (de_op op_mod opd_mod (de_cb (pe_callTy call_int1 rfl T.b_int (by decide +kernel) (da_cons (de_op op_addA opd_add (de_op op_mulA opd_mul (de_var (pv 3)) de_int) (de_var (pv 1))) da_nil)) cd_int) de_int) da_nil)) cd_int) (de_var (pv 2))))))))
abbrev sm_law_take : Stmt := topS 38
theorem scm_law_take : FnScope ["row", "spot", "limit"] ["row", "spot", "limit"] (defScope sm_law_take) := ⟨rfl, rfl, rfl, by decide +kernel, rfl, by decide +kernel, by decide +kernel⟩
theorem goodm_law_take (T : Tx P w K mg) (D : DefAt K mg "_law_take" "_law_take" sm_law_take ["row", "spot", "limit"]) (G_law_draw : Good P w K mg base "_law_draw" 1 ["row", "at", "limit"] m_law_draw) : Good P w K mg base "_law_take" 2 ["row", "spot", "limit"] m_law_take :=
  (D.good (N := ["row", "spot", "limit"]) scm_law_take fun f cdv A outer s H E hr =>
  (dss_cons (ds_put (ps_asg (de_op op_addA opd_add (de_ix ix_seq opd_ix (de_var (pv 1)) de_int (fun _ _ => rfl)) de_int) (pg_sub (de_var (pv 1)) de_int set_list)) sd_set)
  (dss_one (ds_ret (dc (takes_of rfl rfl rfl rfl) G_law_draw (hr.mono (by decide)) rfl rfl ((aCons_len (aCons_len (aCons_len aNil_len)))) (da_cons (de_var (pv 0)) (da_cons (de_op op_sub opd_sub (de_ix ix_seq opd_ix (de_var (pv 1)) de_int (fun _ _ => rfl)) de_int) (da_cons (de_var (pv 2)) da_nil))))))))
abbrev sm_law_pick : Stmt := topS 42
theorem scm_law_pick : FnScope ["row", "spot", "things"] ["row", "spot", "things"] (defScope sm_law_pick) := ⟨rfl, rfl, rfl, by decide +kernel, rfl, by decide +kernel, by decide +kernel⟩
theorem goodm_law_pick (T : Tx P w K mg) (D : DefAt K mg "_law_pick" "_law_pick" sm_law_pick ["row", "spot", "things"]) (G_law_take : Good P w K mg base "_law_take" 2 ["row", "spot", "limit"] m_law_take) : Good P w K mg base "_law_pick" 3 ["row", "spot", "things"] m_law_pick :=
  (D.good (N := ["row", "spot", "things"]) scm_law_pick fun f cdv A outer s H E hr =>
  (dss_one (ds_ret (de_ix ix_seq opd_ix (de_var (pv 2)) (dc (takes_of rfl rfl rfl rfl) G_law_take (hr.mono (by decide)) rfl rfl ((aCons_len (aCons_len (aCons_len aNil_len)))) (da_cons (de_var (pv 0)) (da_cons (de_var (pv 1)) (da_cons (de_cb (pe_callB call_lenA rfl T.b_len (by decide +kernel) (da_cons (de_var (pv 2)) da_nil)) cd_len) da_nil)))) (fun _ _ => rfl)))))
abbrev sm_law_model : Stmt := topS 54
theorem scm_law_model : FnScope ["row", "spot", "most", "many", "made", "s", "choices", "k", "weights", "cost", "j"] ["row", "spot", "most"] (defScope sm_law_model) := ⟨rfl, rfl, rfl, by decide +kernel, rfl, by decide +kernel, by decide +kernel⟩
theorem goodm_law_model (T : Tx P w K mg) (D : DefAt K mg "_law_model" "_law_model" sm_law_model ["row", "spot", "most"]) (G_law_take : Good P w K mg base "_law_take" 2 ["row", "spot", "limit"] m_law_take) (G_law_pick : Good P w K mg base "_law_pick" 3 ["row", "spot", "things"] m_law_pick) : Good P w K mg base "_law_model" 4 ["row", "spot", "most"] m_law_model :=
  (D.good (N := ["row", "spot", "most", "many", "made", "s", "choices", "k", "weights", "cost", "j"]) scm_law_model fun f cdv A outer s H E hr =>
  (dss_cons (ds_set (ps_set (i := 3) scm_law_model.nd rfl (by first | exact .inl rfl | exact .inr rfl) (de_op op_addA opd_add de_int (dc (takes_of rfl rfl rfl rfl) G_law_take (hr.mono (by decide)) rfl rfl ((aCons_len (aCons_len (aCons_len aNil_len)))) (da_cons (de_var (pv 0)) (da_cons (de_var (pv 1)) (da_cons (de_var (pv 2)) da_nil)))))))
  (dss_cons (ds_set (ps_set (i := 4) scm_law_model.nd rfl (by first | exact .inl rfl | exact .inr rfl) (de_cell da_nil)))
  (dss_cons (ds_for (ps_for (passes_of rfl) rfl (di_rg1 (pi_range1 rfl T.b_range (da_cons (de_var (pv 3)) da_nil))) (dg_n (pg_name (i := 5) scm_law_model.nd rfl (by first | exact .inl rfl | exact .inr rfl)))
    (dss_cons (ds_set (ps_set (i := 6) scm_law_model.nd rfl (by first | exact .inl rfl | exact .inr rfl) (de_cell da_nil)))
    (dss_cons (ds_for (ps_for (passes_of rfl) rfl (di_rg1 (pi_range1 rfl T.b_range (da_cons (de_op op_addA opd_add de_int (dc (takes_of rfl rfl rfl rfl) G_law_take (hr.mono (by decide)) rfl rfl ((aCons_len (aCons_len (aCons_len aNil_len)))) (da_cons (de_var (pv 0)) (da_cons (de_var (pv 1)) (da_cons (de_if (dt_cmp op_ltA opd_ord (de_var (pv 3)) de_int rfl) de_int de_int) da_nil))))) da_nil))) (dg_n (pg_name (i := 7) scm_law_model.nd rfl (by first | exact .inl rfl | exact .inr rfl)))
      (dss_cons (ds_setLcC (by decide) (ps_setLc (own := [("j", 10)]) rfl scm_law_model.nd rfl rfl (sw_true rfl rfl rfl (by decide +kernel)) (di_rg1 (pi_range1 rfl T.b_range (da_cons (de_var (pv 3)) da_nil))) (blkOk_by (N := ["row", "spot", "most", "many", "made", "s", "choices", "k", "weights", "cost", "j"]) (sc := (defScope sm_law_model)) (by decide +kernel)) (fun _ _ _ _ _ => (dg_n (pg_name (i := 10) scm_law_model.nd rfl (by first | exact .inl rfl | exact .inr rfl)))) (fun _ _ _ _ _ => dts_nil) (fun _ _ _ _ _ => (dc takes0 G_law_pick (hr.mono (by decide)) rfl rfl ((aCons_len (aCons_len (aCons_len aNil_len)))) (da_cons (de_var (pv 0)) (da_cons (de_var (pv 1)) (da_cons (de_lst (da_cons de_int (da_cons de_int (da_cons de_int (da_cons de_int (da_cons de_int (da_cons de_int (da_cons de_int da_nil)))))))) da_nil)))))))
      (dss_cons (ds_if (dt_cmp (op_eqA (hu_of64 hr)) opd_eqA (de_ix ix_seq opd_ix (de_var (pv 8)) de_int (fun _ _ => rfl)) de_int rfl)
        (dss_one (ds_put (ps_asg (de_op op_addA opd_add de_int (dc (takes_of rfl rfl rfl rfl) G_law_take (hr.mono (by decide)) rfl rfl ((aCons_len (aCons_len (aCons_len aNil_len)))) (da_cons (de_var (pv 0)) (da_cons (de_var (pv 1)) (da_cons de_int da_nil))))) (pg_sub (de_var (pv 8)) de_int set_list)) sd_set))
        dss_nil)
      (dss_cons (ds_set (ps_set (i := 9) scm_law_model.nd rfl (by first | exact .inl rfl | exact .inr rfl) (dc (takes_of rfl rfl rfl rfl) G_law_pick (hr.mono (by decide)) rfl rfl ((aCons_len (aCons_len (aCons_len aNil_len)))) (da_cons (de_var (pv 0)) (da_cons (de_var (pv 1)) (da_cons (de_lst (da_cons de_int (da_cons de_int (da_cons de_int (da_cons de_int (da_cons de_int (da_cons de_int (da_cons de_int (da_cons de_int (da_cons de_int (da_cons de_int da_nil))))))))))) da_nil))))))
      (dss_one (ds_drop (de_bm (pe_bm PySem.F.plainAttrs_list PySem.F.slot_list_append PySem.F.type_list_append mt_append (de_var (pv 6)) (da_cons (de_tup (da_cons (de_var (pv 9)) (da_cons (de_cb (pe_callTy call_tuple_of rfl T.b_tuple (by decide +kernel) (da_cons (de_var (pv 8)) da_nil)) cd_tuple) da_nil))) da_nil)) md_app))))))))
    (dss_one (ds_drop (de_bm (pe_bm PySem.F.plainAttrs_list PySem.F.slot_list_append PySem.F.type_list_append mt_append (de_var (pv 4)) (da_cons (de_cb (pe_callTy call_tuple_of rfl T.b_tuple (by decide +kernel) (da_cons (de_var (pv 6)) da_nil)) cd_tuple) da_nil)) md_app)))))))
  (dss_one (ds_ret (de_cb (pe_callTy call_tuple_of rfl T.b_tuple (by decide +kernel) (da_cons (de_var (pv 4)) da_nil)) cd_tuple)))))))
abbrev sm_law_policy : Stmt := topS 55
theorem scm_law_policy : FnScope ["row", "spot", "model", "choices"] ["row", "spot", "model"] (defScope sm_law_policy) := ⟨rfl, rfl, rfl, by decide +kernel, rfl, by decide +kernel, by decide +kernel⟩
theorem goodm_law_policy (T : Tx P w K mg) (D : DefAt K mg "_law_policy" "_law_policy" sm_law_policy ["row", "spot", "model"]) (G_law_take : Good P w K mg base "_law_take" 2 ["row", "spot", "limit"] m_law_take) : Good P w K mg base "_law_policy" 3 ["row", "spot", "model"] m_law_policy :=
  (D.good (N := ["row", "spot", "model", "choices"]) scm_law_policy fun f cdv A outer s H E hr =>
  (dss_one (ds_ret (de_cb (pe_callTy call_tuple_of rfl T.b_tuple (by decide +kernel) (da_cons (de_lc (by decide) (pe_lc (own := [("choices", 3)]) rfl scm_law_policy.nd (di_seq (de_var (pv 2))) (blkOk_by (N := ["row", "spot", "model", "choices"]) (sc := (defScope sm_law_policy)) (by decide +kernel)) (fun _ _ _ _ _ => (dg_n (pg_name (i := 3) scm_law_policy.nd rfl (by first | exact .inl rfl | exact .inr rfl)))) (fun _ _ _ _ _ => dts_nil) (fun _ _ _ _ _ => (dc takes0 G_law_take (hr.mono (by decide)) rfl rfl ((aCons_len (aCons_len (aCons_len aNil_len)))) (da_cons (de_var (pv 0)) (da_cons (de_var (pv 1)) (da_cons (de_cb (pe_callB call_lenA rfl T.b_len (by decide +kernel) (da_cons (de_var (pv 3)) da_nil)) cd_len) da_nil))))))) da_nil)) cd_tuple))))
abbrev sm_law_gcd : Stmt := topS 43
theorem scm_law_gcd : FnScope ["one", "other", "left", "right", "k", "rest"] ["one", "other"] (defScope sm_law_gcd) := ⟨rfl, rfl, rfl, by decide +kernel, rfl, by decide +kernel, by decide +kernel⟩
theorem goodm_law_gcd (T : Tx P w K mg) (D : DefAt K mg "_law_gcd" "_law_gcd" sm_law_gcd ["one", "other"])  : Good P w K mg base "_law_gcd" 1 ["one", "other"] m_law_gcd :=
  (D.good (N := ["one", "other", "left", "right", "k", "rest"]) scm_law_gcd fun f cdv A outer s H E hr =>
  (dss_cons (ds_set (ps_set (i := 2) scm_law_gcd.nd rfl (by first | exact .inl rfl | exact .inr rfl) (de_if (dt_cmp op_geA opd_ord (de_var (pv 0)) de_int rfl) (de_var (pv 0)) (de_un un_neg und_neg (de_var (pv 0))))))
  (dss_cons (ds_set (ps_set (i := 3) scm_law_gcd.nd rfl (by first | exact .inl rfl | exact .inr rfl) (de_if (dt_cmp op_geA opd_ord (de_var (pv 1)) de_int rfl) (de_var (pv 1)) (de_un un_neg und_neg (de_var (pv 1))))))
  (dss_cons (ds_for (ps_for (passes_of rfl) rfl (di_rg1 (pi_range1 rfl T.b_range (da_cons de_int da_nil))) (dg_n (pg_name (i := 4) scm_law_gcd.nd rfl (by first | exact .inl rfl | exact .inr rfl)))
    (dss_cons (ds_if (dt_cmp (op_eqA (hu_of64 hr)) opd_eqA (de_var (pv 3)) de_int rfl)
      (dss_one ds_break)
      dss_nil)
    (dss_cons (ds_set (ps_set (i := 5) scm_law_gcd.nd rfl (by first | exact .inl rfl | exact .inr rfl) (de_op op_mod opd_mod (de_cb (pe_callTy call_int1 rfl T.b_int (by decide +kernel) (da_cons (de_var (pv 2)) da_nil)) cd_int) (de_var (pv 3)))))
    (dss_cons (ds_set (ps_set (i := 2) scm_law_gcd.nd rfl (by first | exact .inl rfl | exact .inr rfl) (de_var (pv 3))))
    (dss_one (ds_set (ps_set (i := 3) scm_law_gcd.nd rfl (by first | exact .inl rfl | exact .inr rfl) (de_var (pv 5))))))))))
  (dss_one (ds_ret (de_var (pv 2))))))))
abbrev sm_law_red : Stmt := topS 44
theorem scm_law_red : FnScope ["n", "d", "common"] ["n", "d"] (defScope sm_law_red) := ⟨rfl, rfl, rfl, by decide +kernel, rfl, by decide +kernel, by decide +kernel⟩
theorem goodm_law_red (T : Tx P w K mg) (D : DefAt K mg "_law_red" "_law_red" sm_law_red ["n", "d"]) (G_law_gcd : Good P w K mg base "_law_gcd" 1 ["one", "other"] m_law_gcd) : ∀ n, Good P w K mg base "_law_red" (2 + n) ["n", "d"] (m_law_red n)
  | 0 => (D.none scm_law_red).mono (by omega)
  | n + 1 => have G := goodm_law_red T D G_law_gcd n
  (D.good (N := ["n", "d", "common"]) scm_law_red fun f cdv A outer s H E hr =>
  (dss_cons (ds_if (dt_cmp op_ltA opd_ord (de_var (pv 1)) de_int rfl)
    (dss_one (ds_ret (dc (takes_of rfl rfl rfl rfl) G (hr.mono (by first | omega | (simp only [Nat.add_eq]; omega))) rfl rfl ((aCons_len (aCons_len aNil_len))) (da_cons (de_un un_neg und_neg (de_var (pv 0))) (da_cons (de_un un_neg und_neg (de_var (pv 1))) da_nil)))))
    dss_nil)
  (dss_cons (ds_set (ps_set (i := 2) scm_law_red.nd rfl (by first | exact .inl rfl | exact .inr rfl) (dc (takes_of rfl rfl rfl rfl) G_law_gcd (hr.mono (by first | omega | (simp only [Nat.add_eq]; omega))) rfl rfl ((aCons_len (aCons_len aNil_len))) (da_cons (de_var (pv 0)) (da_cons (de_var (pv 1)) da_nil)))))
  (dss_cons (ds_if (dt_cmp (op_eqA (hu_of64 hr)) opd_eqA (de_var (pv 2)) de_int rfl)
    (dss_one (ds_ret (de_tup (da_cons de_int (da_cons de_int da_nil)))))
    dss_nil)
  (dss_one (ds_ret (de_tup (da_cons (de_op op_fdivA opd_fdiv (de_var (pv 0)) (de_var (pv 2))) (da_cons (de_op op_fdivA opd_fdiv (de_var (pv 1)) (de_var (pv 2))) da_nil)))))))))
abbrev sm_law_div : Stmt := topS 48
theorem scm_law_div : FnScope ["one", "other"] ["one", "other"] (defScope sm_law_div) := ⟨rfl, rfl, rfl, by decide +kernel, rfl, by decide +kernel, by decide +kernel⟩
theorem goodm_law_div (T : Tx P w K mg) (D : DefAt K mg "_law_div" "_law_div" sm_law_div ["one", "other"]) (G_law_red : ∀ n, Good P w K mg base "_law_red" (2 + n) ["n", "d"] (m_law_red n)) : Good P w K mg base "_law_div" 27 ["one", "other"] m_law_div :=
  (D.good (N := ["one", "other"]) scm_law_div fun f cdv A outer s H E hr =>
  (dss_one (ds_ret (dc (takes_of rfl rfl rfl rfl) (G_law_red 24) (hr.mono (by decide)) rfl rfl ((aCons_len (aCons_len aNil_len))) (da_cons (de_op op_mulA opd_mul (de_ix ix_seq opd_ix (de_var (pv 0)) de_int (fun _ _ => rfl)) (de_ix ix_seq opd_ix (de_var (pv 1)) de_int (fun _ _ => rfl))) (da_cons (de_op op_mulA opd_mul (de_ix ix_seq opd_ix (de_var (pv 0)) de_int (fun _ _ => rfl)) (de_ix ix_seq opd_ix (de_var (pv 1)) de_int (fun _ _ => rfl))) da_nil))))))
abbrev sm_law_sub : Stmt := topS 46
theorem scm_law_sub : FnScope ["one", "other"] ["one", "other"] (defScope sm_law_sub) := ⟨rfl, rfl, rfl, by decide +kernel, rfl, by decide +kernel, by decide +kernel⟩
theorem goodm_law_sub (T : Tx P w K mg) (D : DefAt K mg "_law_sub" "_law_sub" sm_law_sub ["one", "other"]) (G_law_red : ∀ n, Good P w K mg base "_law_red" (2 + n) ["n", "d"] (m_law_red n)) : Good P w K mg base "_law_sub" 27 ["one", "other"] m_law_sub :=
  (D.good (N := ["one", "other"]) scm_law_sub fun f cdv A outer s H E hr =>
  (dss_one (ds_ret (dc (takes_of rfl rfl rfl rfl) (G_law_red 24) (hr.mono (by decide)) rfl rfl ((aCons_len (aCons_len aNil_len))) (da_cons (de_op op_sub opd_sub (de_op op_mulA opd_mul (de_ix ix_seq opd_ix (de_var (pv 0)) de_int (fun _ _ => rfl)) (de_ix ix_seq opd_ix (de_var (pv 1)) de_int (fun _ _ => rfl))) (de_op op_mulA opd_mul (de_ix ix_seq opd_ix (de_var (pv 1)) de_int (fun _ _ => rfl)) (de_ix ix_seq opd_ix (de_var (pv 0)) de_int (fun _ _ => rfl)))) (da_cons (de_op op_mulA opd_mul (de_ix ix_seq opd_ix (de_var (pv 0)) de_int (fun _ _ => rfl)) (de_ix ix_seq opd_ix (de_var (pv 1)) de_int (fun _ _ => rfl))) da_nil))))))
abbrev sm_law_mul : Stmt := topS 47
theorem scm_law_mul : FnScope ["one", "other"] ["one", "other"] (defScope sm_law_mul) := ⟨rfl, rfl, rfl, by decide +kernel, rfl, by decide +kernel, by decide +kernel⟩
theorem goodm_law_mul (T : Tx P w K mg) (D : DefAt K mg "_law_mul" "_law_mul" sm_law_mul ["one", "other"]) (G_law_red : ∀ n, Good P w K mg base "_law_red" (2 + n) ["n", "d"] (m_law_red n)) : Good P w K mg base "_law_mul" 27 ["one", "other"] m_law_mul :=
  (D.good (N := ["one", "other"]) scm_law_mul fun f cdv A outer s H E hr =>
  (dss_one (ds_ret (dc (takes_of rfl rfl rfl rfl) (G_law_red 24) (hr.mono (by decide)) rfl rfl ((aCons_len (aCons_len aNil_len))) (da_cons (de_op op_mulA opd_mul (de_ix ix_seq opd_ix (de_var (pv 0)) de_int (fun _ _ => rfl)) (de_ix ix_seq opd_ix (de_var (pv 1)) de_int (fun _ _ => rfl))) (da_cons (de_op op_mulA opd_mul (de_ix ix_seq opd_ix (de_var (pv 0)) de_int (fun _ _ => rfl)) (de_ix ix_seq opd_ix (de_var (pv 1)) de_int (fun _ _ => rfl))) da_nil))))))
abbrev sm_law_solve : Stmt := topS 52
theorem scm_law_solve : FnScope ["rows", "many", "made", "k", "at", "j", "held", "top", "by", "one", "i"] ["rows"] (defScope sm_law_solve) := ⟨rfl, rfl, rfl, by decide +kernel, rfl, by decide +kernel, by decide +kernel⟩
theorem goodm_law_solve (T : Tx P w K mg) (D : DefAt K mg "_law_solve" "_law_solve" sm_law_solve ["rows"]) (G_law_div : Good P w K mg base "_law_div" 27 ["one", "other"] m_law_div) (G_law_sub : Good P w K mg base "_law_sub" 27 ["one", "other"] m_law_sub) (G_law_mul : Good P w K mg base "_law_mul" 27 ["one", "other"] m_law_mul) : Good P w K mg base "_law_solve" 28 ["rows"] m_law_solve :=
  (D.good (N := ["rows", "many", "made", "k", "at", "j", "held", "top", "by", "one", "i"]) scm_law_solve fun f cdv A outer s H E hr =>
  (dss_cons (ds_set (ps_set (i := 1) scm_law_solve.nd rfl (by first | exact .inl rfl | exact .inr rfl) (de_cb (pe_callB call_lenA rfl T.b_len (by decide +kernel) (da_cons (de_var (pv 0)) da_nil)) cd_len)))
  (dss_cons (ds_set (ps_set (i := 2) scm_law_solve.nd rfl (by first | exact .inl rfl | exact .inr rfl) (de_lcC (by decide) (pe_lc (own := [("one", 9)]) rfl scm_law_solve.nd (di_seq (de_var (pv 0))) (blkOk_by (N := ["rows", "many", "made", "k", "at", "j", "held", "top", "by", "one", "i"]) (sc := (defScope sm_law_solve)) (by decide +kernel)) (fun _ _ _ _ _ => (dg_n (pg_name (i := 9) scm_law_solve.nd rfl (by first | exact .inl rfl | exact .inr rfl)))) (fun _ _ _ _ _ => dts_nil) (fun _ _ _ _ _ => (de_cb (pe_callTy call_list_of rfl T.b_list (by decide +kernel) (da_cons (de_var (pv 9)) da_nil)) cd_list))))))
  (dss_cons (ds_for (ps_for (passes_of rfl) rfl (di_rg1 (pi_range1 rfl T.b_range (da_cons (de_var (pv 1)) da_nil))) (dg_n (pg_name (i := 3) scm_law_solve.nd rfl (by first | exact .inl rfl | exact .inr rfl)))
    (dss_cons (ds_set (ps_set (i := 4) scm_law_solve.nd rfl (by first | exact .inl rfl | exact .inr rfl) (de_var (pv 3))))
    (dss_cons (ds_for (ps_for (passes_of rfl) rfl (di_rg2 (pi_range2 rfl T.b_range (da_cons (de_var (pv 3)) (da_cons (de_var (pv 1)) da_nil)))) (dg_n (pg_name (i := 5) scm_law_solve.nd rfl (by first | exact .inl rfl | exact .inr rfl)))
      (dss_one (ds_if (dt_cmp (op_neA (hu_of64 hr)) opd_eqA (de_ix ix_seq opd_ix (de_ix ix_seq opd_ix (de_ix ix_seq opd_ix (de_var (pv 2)) (de_var (pv 5)) (fun _ _ => rfl)) (de_var (pv 3)) (fun _ _ => rfl)) de_int (fun _ _ => rfl)) de_int rfl)
        (dss_cons (ds_set (ps_set (i := 4) scm_law_solve.nd rfl (by first | exact .inl rfl | exact .inr rfl) (de_var (pv 5))))
        (dss_one ds_break))
        dss_nil))))
    (dss_cons (ds_set (ps_set (i := 6) scm_law_solve.nd rfl (by first | exact .inl rfl | exact .inr rfl) (de_ix ix_seq opd_ix (de_var (pv 2)) (de_var (pv 3)) (fun _ _ => rfl))))
    (dss_cons (ds_put (ps_asg (de_ix ix_seq opd_ix (de_var (pv 2)) (de_var (pv 4)) (fun _ _ => rfl)) (pg_sub (de_var (pv 2)) (de_var (pv 3)) set_list)) sd_set)
    (dss_cons (ds_put (ps_asg (de_var (pv 6)) (pg_sub (de_var (pv 2)) (de_var (pv 4)) set_list)) sd_set)
    (dss_cons (ds_set (ps_set (i := 7) scm_law_solve.nd rfl (by first | exact .inl rfl | exact .inr rfl) (de_ix ix_seq opd_ix (de_ix ix_seq opd_ix (de_var (pv 2)) (de_var (pv 3)) (fun _ _ => rfl)) (de_var (pv 3)) (fun _ _ => rfl))))
    (dss_cons (ds_put (ps_asg (de_lc (by decide) (pe_lc (own := [("one", 9)]) rfl scm_law_solve.nd (di_seq (de_ix ix_seq opd_ix (de_var (pv 2)) (de_var (pv 3)) (fun _ _ => rfl))) (blkOk_by (N := ["rows", "many", "made", "k", "at", "j", "held", "top", "by", "one", "i"]) (sc := (defScope sm_law_solve)) (by decide +kernel)) (fun _ _ _ _ _ => (dg_n (pg_name (i := 9) scm_law_solve.nd rfl (by first | exact .inl rfl | exact .inr rfl)))) (fun _ _ _ _ _ => dts_nil) (fun _ _ _ _ _ => (dc takes0 G_law_div (hr.mono (by decide)) rfl rfl ((aCons_len (aCons_len aNil_len))) (da_cons (de_var (pv 9)) (da_cons (de_var (pv 7)) da_nil)))))) (pg_sub (de_var (pv 2)) (de_var (pv 3)) set_list)) sd_set)
    (dss_one (ds_for (ps_for (passes_of rfl) rfl (di_rg1 (pi_range1 rfl T.b_range (da_cons (de_var (pv 1)) da_nil))) (dg_n (pg_name (i := 5) scm_law_solve.nd rfl (by first | exact .inl rfl | exact .inr rfl)))
      (dss_one (ds_if (PW.pt (dw_and (dt_cmp (op_neA (hu_of64 hr)) opd_eqA (de_var (pv 5)) (de_var (pv 3)) rfl) (dw_and1 (dt_cmp (op_neA (hu_of64 hr)) opd_eqA (de_ix ix_seq opd_ix (de_ix ix_seq opd_ix (de_ix ix_seq opd_ix (de_var (pv 2)) (de_var (pv 5)) (fun _ _ => rfl)) (de_var (pv 3)) (fun _ _ => rfl)) de_int (fun _ _ => rfl)) de_int rfl))))
        (dss_cons (ds_set (ps_set (i := 8) scm_law_solve.nd rfl (by first | exact .inl rfl | exact .inr rfl) (de_ix ix_seq opd_ix (de_ix ix_seq opd_ix (de_var (pv 2)) (de_var (pv 5)) (fun _ _ => rfl)) (de_var (pv 3)) (fun _ _ => rfl))))
        (dss_one (ds_put (ps_asg (de_lc (by decide) (pe_lc (own := [("i", 10)]) rfl scm_law_solve.nd (di_rg1 (pi_range1 rfl T.b_range (da_cons (de_op op_addA opd_add (de_var (pv 1)) de_int) da_nil))) (blkOk_by (N := ["rows", "many", "made", "k", "at", "j", "held", "top", "by", "one", "i"]) (sc := (defScope sm_law_solve)) (by decide +kernel)) (fun _ _ _ _ _ => (dg_n (pg_name (i := 10) scm_law_solve.nd rfl (by first | exact .inl rfl | exact .inr rfl)))) (fun _ _ _ _ _ => dts_nil) (fun _ _ _ _ _ => (dc takes0 G_law_sub (hr.mono (by decide)) rfl rfl ((aCons_len (aCons_len aNil_len))) (da_cons (de_ix ix_seq opd_ix (de_ix ix_seq opd_ix (de_var (pv 2)) (de_var (pv 5)) (fun _ _ => rfl)) (de_var (pv 10)) (fun _ _ => rfl)) (da_cons (dc takes0 G_law_mul (hr.mono (by decide)) rfl rfl ((aCons_len (aCons_len aNil_len))) (da_cons (de_var (pv 8)) (da_cons (de_ix ix_seq opd_ix (de_ix ix_seq opd_ix (de_var (pv 2)) (de_var (pv 3)) (fun _ _ => rfl)) (de_var (pv 10)) (fun _ _ => rfl)) da_nil))) da_nil)))))) (pg_sub (de_var (pv 2)) (de_var (pv 5)) set_list)) sd_set)))
        dss_nil))))))))))))))
  (dss_one (ds_ret (de_lc (by decide) (pe_lc (own := [("one", 9)]) rfl scm_law_solve.nd (di_seq (de_var (pv 2))) (blkOk_by (N := ["rows", "many", "made", "k", "at", "j", "held", "top", "by", "one", "i"]) (sc := (defScope sm_law_solve)) (by decide +kernel)) (fun _ _ _ _ _ => (dg_n (pg_name (i := 9) scm_law_solve.nd rfl (by first | exact .inl rfl | exact .inr rfl)))) (fun _ _ _ _ _ => dts_nil) (fun _ _ _ _ _ => (de_ix ix_seq opd_ix (de_var (pv 9)) (de_var (pv 1)) (fun _ _ => rfl)))))))))))
abbrev sm_law_gain : Stmt := topS 56
theorem scm_law_gain : FnScope ["model", "policy", "rows", "many", "s", "cost", "weights", "one", "j", "share", "found"] ["model", "policy"] (defScope sm_law_gain) := ⟨rfl, rfl, rfl, by decide +kernel, rfl, by decide +kernel, by decide +kernel⟩
theorem goodm_law_gain (T : Tx P w K mg) (D : DefAt K mg "_law_gain" "_law_gain" sm_law_gain ["model", "policy"]) (G_law_solve : Good P w K mg base "_law_solve" 28 ["rows"] m_law_solve) (G_law_red : ∀ n, Good P w K mg base "_law_red" (2 + n) ["n", "d"] (m_law_red n)) (G_law_sub : Good P w K mg base "_law_sub" 27 ["one", "other"] m_law_sub) : Good P w K mg base "_law_gain" 29 ["model", "policy"] m_law_gain :=
  (D.good (N := ["model", "policy", "rows", "many", "s", "cost", "weights", "one", "j", "share", "found"]) scm_law_gain fun f cdv A outer s H E hr =>
  (dss_cons (ds_set (ps_set (i := 2) scm_law_gain.nd rfl (by first | exact .inl rfl | exact .inr rfl) (de_cell da_nil)))
  (dss_cons (ds_set (ps_set (i := 3) scm_law_gain.nd rfl (by first | exact .inl rfl | exact .inr rfl) (de_cb (pe_callB call_lenA rfl T.b_len (by decide +kernel) (da_cons (de_var (pv 0)) da_nil)) cd_len)))
  (dss_cons (ds_for (ps_for (passes_of rfl) rfl (di_rg1 (pi_range1 rfl T.b_range (da_cons (de_var (pv 3)) da_nil))) (dg_n (pg_name (i := 4) scm_law_gain.nd rfl (by first | exact .inl rfl | exact .inr rfl)))
    (dss_cons (ds_set (ps_set (i := 5) scm_law_gain.nd rfl (by first | exact .inl rfl | exact .inr rfl) (de_ix ix_seq opd_ix (de_ix ix_seq opd_ix (de_ix ix_seq opd_ix (de_var (pv 0)) (de_var (pv 4)) (fun _ _ => rfl)) (de_ix ix_seq opd_ix (de_var (pv 1)) (de_var (pv 4)) (fun _ _ => rfl)) (fun _ _ => rfl)) de_int (fun _ _ => rfl))))
    (dss_cons (ds_set (ps_set (i := 6) scm_law_gain.nd rfl (by first | exact .inl rfl | exact .inr rfl) (de_ix ix_seq opd_ix (de_ix ix_seq opd_ix (de_ix ix_seq opd_ix (de_var (pv 0)) (de_var (pv 4)) (fun _ _ => rfl)) (de_ix ix_seq opd_ix (de_var (pv 1)) (de_var (pv 4)) (fun _ _ => rfl)) (fun _ _ => rfl)) de_int (fun _ _ => rfl))))
    (dss_cons (ds_set (ps_set (i := 7) scm_law_gain.nd rfl (by first | exact .inl rfl | exact .inr rfl) (de_cell (da_cons (de_tup (da_cons de_int (da_cons de_int da_nil))) da_nil))))
    (dss_cons (ds_for (ps_for (passes_of rfl) rfl (di_rg2 (pi_range2 rfl T.b_range (da_cons de_int (da_cons (de_var (pv 3)) da_nil)))) (dg_n (pg_name (i := 8) scm_law_gain.nd rfl (by first | exact .inl rfl | exact .inr rfl)))
      (dss_cons (ds_set (ps_set (i := 9) scm_law_gain.nd rfl (by first | exact .inl rfl | exact .inr rfl) (dc (takes_of rfl rfl rfl rfl) (G_law_red 24) (hr.mono (by decide)) rfl rfl ((aCons_len (aCons_len aNil_len))) (da_cons (de_ix ix_seq opd_ix (de_var (pv 6)) (de_var (pv 8)) (fun _ _ => rfl)) (da_cons (de_cb (pe_callB (call_sumB rfl) rfl T.b_sum (by decide +kernel) (da_cons (de_var (pv 6)) da_nil)) cd_sumA) da_nil)))))
      (dss_one (ds_drop (de_bm (pe_bm PySem.F.plainAttrs_list PySem.F.slot_list_append PySem.F.type_list_append mt_append (de_var (pv 7)) (da_cons (dc (takes_of rfl rfl rfl rfl) G_law_sub (hr.mono (by decide)) rfl rfl ((aCons_len (aCons_len aNil_len))) (da_cons (de_if (dt_cmp (op_eqA (hu_of64 hr)) opd_eqA (de_var (pv 8)) (de_var (pv 4)) rfl) (de_tup (da_cons de_int (da_cons de_int da_nil))) (de_tup (da_cons de_int (da_cons de_int da_nil)))) (da_cons (de_var (pv 9)) da_nil))) da_nil)) md_app))))))
    (dss_one (ds_drop (de_bm (pe_bm PySem.F.plainAttrs_list PySem.F.slot_list_append PySem.F.type_list_append mt_append (de_var (pv 2)) (da_cons (de_op op_addA opd_add (de_var (pv 7)) (de_lst (da_cons (de_tup (da_cons (de_var (pv 5)) (da_cons de_int da_nil))) da_nil))) da_nil)) md_app)))))))))
  (dss_cons (ds_set (ps_set (i := 10) scm_law_gain.nd rfl (by first | exact .inl rfl | exact .inr rfl) (dc (takes_of rfl rfl rfl rfl) G_law_solve (hr.mono (by decide)) rfl rfl ((aCons_len aNil_len)) (da_cons (de_var (pv 2)) da_nil))))
  (dss_one (ds_ret (de_tup (da_cons (de_ix ix_seq opd_ix (de_var (pv 10)) de_int (fun _ _ => rfl)) (da_cons (de_cb (pe_callTy call_tuple_of rfl T.b_tuple (by decide +kernel) (da_cons (de_op op_addA opd_add (de_lst (da_cons (de_tup (da_cons de_int (da_cons de_int da_nil))) da_nil)) (de_sl (pe_slice sl_all (de_var (pv 10)) (do_some de_int) do_none) sld_f)) da_nil)) cd_tuple) da_nil))))))))))
abbrev sm_law_policies : Stmt := topS 60
theorem scm_law_policies : FnScope ["model", "made", "choices", "longer", "one", "k"] ["model"] (defScope sm_law_policies) := ⟨rfl, rfl, rfl, by decide +kernel, rfl, by decide +kernel, by decide +kernel⟩
theorem goodm_law_policies (T : Tx P w K mg) (D : DefAt K mg "_law_policies" "_law_policies" sm_law_policies ["model"])  : Good P w K mg base "_law_policies" 1 ["model"] m_law_policies :=
  (D.good (N := ["model", "made", "choices", "longer", "one", "k"]) scm_law_policies fun f cdv A outer s H E hr =>
  (dss_cons (ds_set (ps_set (i := 1) scm_law_policies.nd rfl (by first | exact .inl rfl | exact .inr rfl) (de_cell (da_cons (de_lst da_nil) da_nil))))
  (dss_cons (ds_for (ps_for (passes_of rfl) rfl (di_seq (de_var (pv 0))) (dg_n (pg_name (i := 2) scm_law_policies.nd rfl (by first | exact .inl rfl | exact .inr rfl)))
    (dss_cons (ds_set (ps_set (i := 3) scm_law_policies.nd rfl (by first | exact .inl rfl | exact .inr rfl) (de_cell da_nil)))
    (dss_cons (ds_for (ps_for (passes_of rfl) rfl (di_seq (de_var (pv 1))) (dg_n (pg_name (i := 4) scm_law_policies.nd rfl (by first | exact .inl rfl | exact .inr rfl)))
      (dss_one (ds_set (ps_set (i := 3) scm_law_policies.nd rfl (by first | exact .inl rfl | exact .inr rfl) (de_op op_addA opd_add (de_var (pv 3)) (de_lc (by decide) (pe_lc (own := [("k", 5)]) rfl scm_law_policies.nd (di_rg1 (pi_range1 rfl T.b_range (da_cons (de_cb (pe_callB call_lenA rfl T.b_len (by decide +kernel) (da_cons (de_var (pv 2)) da_nil)) cd_len) da_nil))) (blkOk_by (N := ["model", "made", "choices", "longer", "one", "k"]) (sc := (defScope sm_law_policies)) (by decide +kernel)) (fun _ _ _ _ _ => (dg_n (pg_name (i := 5) scm_law_policies.nd rfl (by first | exact .inl rfl | exact .inr rfl)))) (fun _ _ _ _ _ => dts_nil) (fun _ _ _ _ _ => (de_op op_addA opd_add (de_var (pv 4)) (de_lst (da_cons (de_var (pv 5)) da_nil))))))))))))
    (dss_one (ds_set (ps_set (i := 1) scm_law_policies.nd rfl (by first | exact .inl rfl | exact .inr rfl) (de_var (pv 3)))))))))
  (dss_one (ds_ret (de_lc (by decide) (pe_lc (own := [("one", 4)]) rfl scm_law_policies.nd (di_seq (de_var (pv 1))) (blkOk_by (N := ["model", "made", "choices", "longer", "one", "k"]) (sc := (defScope sm_law_policies)) (by decide +kernel)) (fun _ _ _ _ _ => (dg_n (pg_name (i := 4) scm_law_policies.nd rfl (by first | exact .inl rfl | exact .inr rfl)))) (fun _ _ _ _ _ => dts_nil) (fun _ _ _ _ _ => (de_cb (pe_callTy call_tuple_of rfl T.b_tuple (by decide +kernel) (da_cons (de_var (pv 4)) da_nil)) cd_tuple)))))))))
abbrev sm_law_less : Stmt := topS 49
theorem scm_law_less : FnScope ["one", "other"] ["one", "other"] (defScope sm_law_less) := ⟨rfl, rfl, rfl, by decide +kernel, rfl, by decide +kernel, by decide +kernel⟩
theorem goodm_law_less (T : Tx P w K mg) (D : DefAt K mg "_law_less" "_law_less" sm_law_less ["one", "other"])  : Good P w K mg base "_law_less" 1 ["one", "other"] m_law_less :=
  (D.good (N := ["one", "other"]) scm_law_less fun f cdv A outer s H E hr =>
  (dss_one (ds_ret (de_cmp op_ltA opd_ord (de_op op_mulA opd_mul (de_ix ix_seq opd_ix (de_var (pv 0)) de_int (fun _ _ => rfl)) (de_ix ix_seq opd_ix (de_var (pv 1)) de_int (fun _ _ => rfl))) (de_op op_mulA opd_mul (de_ix ix_seq opd_ix (de_var (pv 1)) de_int (fun _ _ => rfl)) (de_ix ix_seq opd_ix (de_var (pv 0)) de_int (fun _ _ => rfl))) rfl))))
abbrev sm_law_add : Stmt := topS 45
theorem scm_law_add : FnScope ["one", "other"] ["one", "other"] (defScope sm_law_add) := ⟨rfl, rfl, rfl, by decide +kernel, rfl, by decide +kernel, by decide +kernel⟩
theorem goodm_law_add (T : Tx P w K mg) (D : DefAt K mg "_law_add" "_law_add" sm_law_add ["one", "other"]) (G_law_red : ∀ n, Good P w K mg base "_law_red" (2 + n) ["n", "d"] (m_law_red n)) : Good P w K mg base "_law_add" 27 ["one", "other"] m_law_add :=
  (D.good (N := ["one", "other"]) scm_law_add fun f cdv A outer s H E hr =>
  (dss_one (ds_ret (dc (takes_of rfl rfl rfl rfl) (G_law_red 24) (hr.mono (by decide)) rfl rfl ((aCons_len (aCons_len aNil_len))) (da_cons (de_op op_addA opd_add (de_op op_mulA opd_mul (de_ix ix_seq opd_ix (de_var (pv 0)) de_int (fun _ _ => rfl)) (de_ix ix_seq opd_ix (de_var (pv 1)) de_int (fun _ _ => rfl))) (de_op op_mulA opd_mul (de_ix ix_seq opd_ix (de_var (pv 1)) de_int (fun _ _ => rfl)) (de_ix ix_seq opd_ix (de_var (pv 0)) de_int (fun _ _ => rfl)))) (da_cons (de_op op_mulA opd_mul (de_ix ix_seq opd_ix (de_var (pv 0)) de_int (fun _ _ => rfl)) (de_ix ix_seq opd_ix (de_var (pv 1)) de_int (fun _ _ => rfl))) da_nil))))))
abbrev sm_law_mean : Stmt := topS 53
theorem scm_law_mean : FnScope ["weights", "values", "total", "k"] ["weights", "values"] (defScope sm_law_mean) := ⟨rfl, rfl, rfl, by decide +kernel, rfl, by decide +kernel, by decide +kernel⟩
theorem goodm_law_mean (T : Tx P w K mg) (D : DefAt K mg "_law_mean" "_law_mean" sm_law_mean ["weights", "values"]) (G_law_div : Good P w K mg base "_law_div" 27 ["one", "other"] m_law_div) (G_law_add : Good P w K mg base "_law_add" 27 ["one", "other"] m_law_add) (G_law_mul : Good P w K mg base "_law_mul" 27 ["one", "other"] m_law_mul) : Good P w K mg base "_law_mean" 28 ["weights", "values"] m_law_mean :=
  (D.good (N := ["weights", "values", "total", "k"]) scm_law_mean fun f cdv A outer s H E hr =>
  (dss_cons (ds_set (ps_set (i := 2) scm_law_mean.nd rfl (by first | exact .inl rfl | exact .inr rfl) (de_tup (da_cons de_int (da_cons de_int da_nil)))))
  (dss_cons (ds_for (ps_for (passes_of rfl) rfl (di_rg1 (pi_range1 rfl T.b_range (da_cons (de_cb (pe_callB call_lenA rfl T.b_len (by decide +kernel) (da_cons (de_var (pv 0)) da_nil)) cd_len) da_nil))) (dg_n (pg_name (i := 3) scm_law_mean.nd rfl (by first | exact .inl rfl | exact .inr rfl)))
    (dss_one (ds_set (ps_set (i := 2) scm_law_mean.nd rfl (by first | exact .inl rfl | exact .inr rfl) (dc (takes_of rfl rfl rfl rfl) G_law_add (hr.mono (by decide)) rfl rfl ((aCons_len (aCons_len aNil_len))) (da_cons (de_var (pv 2)) (da_cons (dc (takes_of rfl rfl rfl rfl) G_law_mul (hr.mono (by decide)) rfl rfl ((aCons_len (aCons_len aNil_len))) (da_cons (de_tup (da_cons (de_ix ix_seq opd_ix (de_var (pv 0)) (de_var (pv 3)) (fun _ _ => rfl)) (da_cons de_int da_nil))) (da_cons (de_ix ix_seq opd_ix (de_var (pv 1)) (de_var (pv 3)) (fun _ _ => rfl)) da_nil))) da_nil))))))))
  (dss_one (ds_ret (dc (takes_of rfl rfl rfl rfl) G_law_div (hr.mono (by decide)) rfl rfl ((aCons_len (aCons_len aNil_len))) (da_cons (de_var (pv 2)) (da_cons (de_tup (da_cons (de_cb (pe_callB (call_sumB rfl) rfl T.b_sum (by decide +kernel) (da_cons (de_var (pv 0)) da_nil)) cd_sumA) (da_cons de_int da_nil))) da_nil))))))))
abbrev sm_law_value : Stmt := topS 57
theorem scm_law_value : FnScope ["choice", "nums"] ["choice", "nums"] (defScope sm_law_value) := ⟨rfl, rfl, rfl, by decide +kernel, rfl, by decide +kernel, by decide +kernel⟩
theorem goodm_law_value (T : Tx P w K mg) (D : DefAt K mg "_law_value" "_law_value" sm_law_value ["choice", "nums"]) (G_law_add : Good P w K mg base "_law_add" 27 ["one", "other"] m_law_add) (G_law_mean : Good P w K mg base "_law_mean" 28 ["weights", "values"] m_law_mean) : Good P w K mg base "_law_value" 29 ["choice", "nums"] m_law_value :=
  (D.good (N := ["choice", "nums"]) scm_law_value fun f cdv A outer s H E hr =>
  (dss_one (ds_ret (dc (takes_of rfl rfl rfl rfl) G_law_add (hr.mono (by decide)) rfl rfl ((aCons_len (aCons_len aNil_len))) (da_cons (de_tup (da_cons (de_ix ix_seq opd_ix (de_var (pv 0)) de_int (fun _ _ => rfl)) (da_cons de_int da_nil))) (da_cons (dc (takes_of rfl rfl rfl rfl) G_law_mean (hr.mono (by decide)) rfl rfl ((aCons_len (aCons_len aNil_len))) (da_cons (de_ix ix_seq opd_ix (de_var (pv 0)) de_int (fun _ _ => rfl)) (da_cons (de_var (pv 1)) da_nil))) da_nil))))))
abbrev sm_law_firsts : Stmt := topS 58
theorem scm_law_firsts : FnScope ["model", "nums", "made", "choices", "at", "k"] ["model", "nums"] (defScope sm_law_firsts) := ⟨rfl, rfl, rfl, by decide +kernel, rfl, by decide +kernel, by decide +kernel⟩
theorem goodm_law_firsts (T : Tx P w K mg) (D : DefAt K mg "_law_firsts" "_law_firsts" sm_law_firsts ["model", "nums"]) (G_law_less : Good P w K mg base "_law_less" 1 ["one", "other"] m_law_less) (G_law_value : Good P w K mg base "_law_value" 29 ["choice", "nums"] m_law_value) : Good P w K mg base "_law_firsts" 30 ["model", "nums"] m_law_firsts :=
  (D.good (N := ["model", "nums", "made", "choices", "at", "k"]) scm_law_firsts fun f cdv A outer s H E hr =>
  (dss_cons (ds_set (ps_set (i := 2) scm_law_firsts.nd rfl (by first | exact .inl rfl | exact .inr rfl) (de_cell da_nil)))
  (dss_cons (ds_for (ps_for (passes_of rfl) rfl (di_seq (de_var (pv 0))) (dg_n (pg_name (i := 3) scm_law_firsts.nd rfl (by first | exact .inl rfl | exact .inr rfl)))
    (dss_cons (ds_set (ps_set (i := 4) scm_law_firsts.nd rfl (by first | exact .inl rfl | exact .inr rfl) de_int))
    (dss_cons (ds_for (ps_for (passes_of rfl) rfl (di_rg1 (pi_range1 rfl T.b_range (da_cons (de_cb (pe_callB call_lenA rfl T.b_len (by decide +kernel) (da_cons (de_var (pv 3)) da_nil)) cd_len) da_nil))) (dg_n (pg_name (i := 5) scm_law_firsts.nd rfl (by first | exact .inl rfl | exact .inr rfl)))
      (dss_one (ds_if (dt_tru (dc (takes_of rfl rfl rfl rfl) G_law_less (hr.mono (by decide)) rfl rfl ((aCons_len (aCons_len aNil_len))) (da_cons (dc (takes_of rfl rfl rfl rfl) G_law_value (hr.mono (by decide)) rfl rfl ((aCons_len (aCons_len aNil_len))) (da_cons (de_ix ix_seq opd_ix (de_var (pv 3)) (de_var (pv 5)) (fun _ _ => rfl)) (da_cons (de_var (pv 1)) da_nil))) (da_cons (dc (takes_of rfl rfl rfl rfl) G_law_value (hr.mono (by decide)) rfl rfl ((aCons_len (aCons_len aNil_len))) (da_cons (de_ix ix_seq opd_ix (de_var (pv 3)) (de_var (pv 4)) (fun _ _ => rfl)) (da_cons (de_var (pv 1)) da_nil))) da_nil))))
        (dss_one (ds_set (ps_set (i := 4) scm_law_firsts.nd rfl (by first | exact .inl rfl | exact .inr rfl) (de_var (pv 5)))))
        dss_nil))))
    (dss_one (ds_drop (de_bm (pe_bm PySem.F.plainAttrs_list PySem.F.slot_list_append PySem.F.type_list_append mt_append (de_var (pv 2)) (da_cons (de_var (pv 4)) da_nil)) md_app)))))))
  (dss_one (ds_ret (de_cb (pe_callTy call_tuple_of rfl T.b_tuple (by decide +kernel) (da_cons (de_var (pv 2)) da_nil)) cd_tuple))))))
abbrev sm_law_proves : Stmt := topS 59
theorem scm_law_proves : FnScope ["model", "policy", "rate", "nums", "firsts", "s", "least"] ["model", "policy", "rate", "nums"] (defScope sm_law_proves) := ⟨rfl, rfl, rfl, by decide +kernel, rfl, by decide +kernel, by decide +kernel⟩
theorem goodm_law_proves (T : Tx P w K mg) (D : DefAt K mg "_law_proves" "_law_proves" sm_law_proves ["model", "policy", "rate", "nums"]) (G_law_firsts : Good P w K mg base "_law_firsts" 30 ["model", "nums"] m_law_firsts) (G_law_value : Good P w K mg base "_law_value" 29 ["choice", "nums"] m_law_value) (G_law_add : Good P w K mg base "_law_add" 27 ["one", "other"] m_law_add) : Good P w K mg base "_law_proves" 31 ["model", "policy", "rate", "nums"] m_law_proves :=
  (D.good (N := ["model", "policy", "rate", "nums", "firsts", "s", "least"]) scm_law_proves fun f cdv A outer s H E hr =>
  (dss_cons (ds_set (ps_set (i := 4) scm_law_proves.nd rfl (by first | exact .inl rfl | exact .inr rfl) (dc (takes_of rfl rfl rfl rfl) G_law_firsts (hr.mono (by decide)) rfl rfl ((aCons_len (aCons_len aNil_len))) (da_cons (de_var (pv 0)) (da_cons (de_var (pv 3)) da_nil)))))
  (dss_cons (ds_for (ps_for (passes_of rfl) rfl (di_rg1 (pi_range1 rfl T.b_range (da_cons (de_cb (pe_callB call_lenA rfl T.b_len (by decide +kernel) (da_cons (de_var (pv 0)) da_nil)) cd_len) da_nil))) (dg_n (pg_name (i := 5) scm_law_proves.nd rfl (by first | exact .inl rfl | exact .inr rfl)))
    (dss_cons (ds_set (ps_set (i := 6) scm_law_proves.nd rfl (by first | exact .inl rfl | exact .inr rfl) (dc (takes_of rfl rfl rfl rfl) G_law_value (hr.mono (by decide)) rfl rfl ((aCons_len (aCons_len aNil_len))) (da_cons (de_ix ix_seq opd_ix (de_ix ix_seq opd_ix (de_var (pv 0)) (de_var (pv 5)) (fun _ _ => rfl)) (de_ix ix_seq opd_ix (de_var (pv 4)) (de_var (pv 5)) (fun _ _ => rfl)) (fun _ _ => rfl)) (da_cons (de_var (pv 3)) da_nil)))))
    (dss_one (ds_if (PW.pt (dw_or (dt_cmp (op_neA (hu_of64 hr)) opd_eqA (dc (takes_of rfl rfl rfl rfl) G_law_add (hr.mono (by decide)) rfl rfl ((aCons_len (aCons_len aNil_len))) (da_cons (de_ix ix_seq opd_ix (de_var (pv 3)) (de_var (pv 5)) (fun _ _ => rfl)) (da_cons (de_var (pv 2)) da_nil))) (de_var (pv 6)) rfl) (dw_or1 (dt_cmp (op_neA (hu_of64 hr)) opd_eqA (dc (takes_of rfl rfl rfl rfl) G_law_value (hr.mono (by decide)) rfl rfl ((aCons_len (aCons_len aNil_len))) (da_cons (de_ix ix_seq opd_ix (de_ix ix_seq opd_ix (de_var (pv 0)) (de_var (pv 5)) (fun _ _ => rfl)) (de_ix ix_seq opd_ix (de_var (pv 1)) (de_var (pv 5)) (fun _ _ => rfl)) (fun _ _ => rfl)) (da_cons (de_var (pv 3)) da_nil))) (de_var (pv 6)) rfl))))
      (dss_one (ds_ret de_bl))
      dss_nil)))))
  (dss_one (ds_ret de_bl)))))
abbrev sm_law_best : Stmt := topS 61
theorem scm_law_best : FnScope ["model", "policy", "found"] ["model"] (defScope sm_law_best) := ⟨rfl, rfl, rfl, by decide +kernel, rfl, by decide +kernel, by decide +kernel⟩
theorem goodm_law_best (T : Tx P w K mg) (D : DefAt K mg "_law_best" "_law_best" sm_law_best ["model"]) (G_law_policies : Good P w K mg base "_law_policies" 1 ["model"] m_law_policies) (G_law_gain : Good P w K mg base "_law_gain" 29 ["model", "policy"] m_law_gain) (G_law_proves : Good P w K mg base "_law_proves" 31 ["model", "policy", "rate", "nums"] m_law_proves) (G_law_firsts : Good P w K mg base "_law_firsts" 30 ["model", "nums"] m_law_firsts) : Good P w K mg base "_law_best" 32 ["model"] m_law_best :=
  (D.good (N := ["model", "policy", "found"]) scm_law_best fun f cdv A outer s H E hr =>
  (dss_cons (ds_for (ps_for (passes_of rfl) rfl (di_seq (dc (takes_of rfl rfl rfl rfl) G_law_policies (hr.mono (by decide)) rfl rfl ((aCons_len aNil_len)) (da_cons (de_var (pv 0)) da_nil))) (dg_n (pg_name (i := 1) scm_law_best.nd rfl (by first | exact .inl rfl | exact .inr rfl)))
    (dss_cons (ds_set (ps_set (i := 2) scm_law_best.nd rfl (by first | exact .inl rfl | exact .inr rfl) (dc (takes_of rfl rfl rfl rfl) G_law_gain (hr.mono (by decide)) rfl rfl ((aCons_len (aCons_len aNil_len))) (da_cons (de_var (pv 0)) (da_cons (de_var (pv 1)) da_nil)))))
    (dss_one (ds_if (dt_tru (dc (takes_of rfl rfl rfl rfl) G_law_proves (hr.mono (by decide)) rfl rfl ((aCons_len (aCons_len (aCons_len (aCons_len aNil_len))))) (da_cons (de_var (pv 0)) (da_cons (de_var (pv 1)) (da_cons (de_ix ix_seq opd_ix (de_var (pv 2)) de_int (fun _ _ => rfl)) (da_cons (de_ix ix_seq opd_ix (de_var (pv 2)) de_int (fun _ _ => rfl)) da_nil))))))
      (dss_one (ds_ret (de_tup (da_cons (dc (takes_of rfl rfl rfl rfl) G_law_firsts (hr.mono (by decide)) rfl rfl ((aCons_len (aCons_len aNil_len))) (da_cons (de_var (pv 0)) (da_cons (de_ix ix_seq opd_ix (de_var (pv 2)) de_int (fun _ _ => rfl)) da_nil))) (da_cons (de_ix ix_seq opd_ix (de_var (pv 2)) de_int (fun _ _ => rfl)) (da_cons (de_ix ix_seq opd_ix (de_var (pv 2)) de_int (fun _ _ => rfl)) da_nil))))))
      dss_nil)))))
  (dss_one (ds_ret de_non))))
abbrev sm_law_wide : Stmt := topS 39
theorem scm_law_wide : FnScope ["row", "spot", "limit", "first", "second", "third"] ["row", "spot", "limit"] (defScope sm_law_wide) := ⟨rfl, rfl, rfl, by decide +kernel, rfl, by decide +kernel, by decide +kernel⟩
theorem goodm_law_wide (T : Tx P w K mg) (D : DefAt K mg "_law_wide" "_law_wide" sm_law_wide ["row", "spot", "limit"]) (G_law_take : Good P w K mg base "_law_take" 2 ["row", "spot", "limit"] m_law_take) : Good P w K mg base "_law_wide" 3 ["row", "spot", "limit"] m_law_wide :=
  (D.good (N := ["row", "spot", "limit", "first", "second", "third"]) scm_law_wide fun f cdv A outer s H E hr =>
  (dss_cons (ds_set (ps_set (i := 3) scm_law_wide.nd rfl (by first | exact .inl rfl | exact .inr rfl) (dc (takes_of rfl rfl rfl rfl) G_law_take (hr.mono (by decide)) rfl rfl ((aCons_len (aCons_len (aCons_len aNil_len)))) (da_cons (de_var (pv 0)) (da_cons (de_var (pv 1)) (da_cons de_int da_nil))))))
  (dss_cons (ds_set (ps_set (i := 4) scm_law_wide.nd rfl (by first | exact .inl rfl | exact .inr rfl) (dc (takes_of rfl rfl rfl rfl) G_law_take (hr.mono (by decide)) rfl rfl ((aCons_len (aCons_len (aCons_len aNil_len)))) (da_cons (de_var (pv 0)) (da_cons (de_var (pv 1)) (da_cons de_int da_nil))))))
  (dss_cons (ds_set (ps_set (i := 5) scm_law_wide.nd rfl (by first | exact .inl rfl | exact .inr rfl) (dc (takes_of rfl rfl rfl rfl) G_law_take (hr.mono (by decide)) rfl rfl ((aCons_len (aCons_len (aCons_len aNil_len)))) (da_cons (de_var (pv 0)) (da_cons (de_var (pv 1)) (da_cons de_int da_nil))))))
  (dss_one (ds_ret (de_op op_mod opd_mod (de_cb (pe_callTy call_int1 rfl T.b_int (by decide +kernel) (da_cons (de_op op_addA opd_add (de_op op_addA opd_add (de_op op_mulA opd_mul (de_var (pv 3)) de_int) (de_op op_mulA opd_mul (de_var (pv 4)) de_int)) (de_var (pv 5))) da_nil)) cd_int) (de_var (pv 2)))))))))
abbrev sm_law_frac : Stmt := topS 51
theorem scm_law_frac : FnScope ["row", "spot", "top", "low"] ["row", "spot"] (defScope sm_law_frac) := ⟨rfl, rfl, rfl, by decide +kernel, rfl, by decide +kernel, by decide +kernel⟩
theorem goodm_law_frac (T : Tx P w K mg) (D : DefAt K mg "_law_frac" "_law_frac" sm_law_frac ["row", "spot"]) (G_law_red : ∀ n, Good P w K mg base "_law_red" (2 + n) ["n", "d"] (m_law_red n)) (G_law_take : Good P w K mg base "_law_take" 2 ["row", "spot", "limit"] m_law_take) (G_law_wide : Good P w K mg base "_law_wide" 3 ["row", "spot", "limit"] m_law_wide) : Good P w K mg base "_law_frac" 27 ["row", "spot"] m_law_frac :=
  (D.good (N := ["row", "spot", "top", "low"]) scm_law_frac fun f cdv A outer s H E hr =>
  (dss_cons (ds_set (ps_set (i := 2) scm_law_frac.nd rfl (by first | exact .inl rfl | exact .inr rfl) (de_if (dt_cmp (op_eqA (hu_of64 hr)) opd_eqA (dc (takes_of rfl rfl rfl rfl) G_law_take (hr.mono (by decide)) rfl rfl ((aCons_len (aCons_len (aCons_len aNil_len)))) (da_cons (de_var (pv 0)) (da_cons (de_var (pv 1)) (da_cons de_int da_nil)))) de_int rfl) (de_op op_sub opd_sub (dc (takes_of rfl rfl rfl rfl) G_law_wide (hr.mono (by decide)) rfl rfl ((aCons_len (aCons_len (aCons_len aNil_len)))) (da_cons (de_var (pv 0)) (da_cons (de_var (pv 1)) (da_cons de_int da_nil)))) de_int) (de_op op_sub opd_sub (dc (takes_of rfl rfl rfl rfl) G_law_take (hr.mono (by decide)) rfl rfl ((aCons_len (aCons_len (aCons_len aNil_len)))) (da_cons (de_var (pv 0)) (da_cons (de_var (pv 1)) (da_cons de_int da_nil)))) de_int))))
  (dss_cons (ds_set (ps_set (i := 3) scm_law_frac.nd rfl (by first | exact .inl rfl | exact .inr rfl) (de_op op_addA opd_add de_int (de_if (dt_cmp (op_eqA (hu_of64 hr)) opd_eqA (dc (takes_of rfl rfl rfl rfl) G_law_take (hr.mono (by decide)) rfl rfl ((aCons_len (aCons_len (aCons_len aNil_len)))) (da_cons (de_var (pv 0)) (da_cons (de_var (pv 1)) (da_cons de_int da_nil)))) de_int rfl) (dc (takes_of rfl rfl rfl rfl) G_law_wide (hr.mono (by decide)) rfl rfl ((aCons_len (aCons_len (aCons_len aNil_len)))) (da_cons (de_var (pv 0)) (da_cons (de_var (pv 1)) (da_cons de_int da_nil)))) (dc (takes_of rfl rfl rfl rfl) G_law_take (hr.mono (by decide)) rfl rfl ((aCons_len (aCons_len (aCons_len aNil_len)))) (da_cons (de_var (pv 0)) (da_cons (de_var (pv 1)) (da_cons de_int da_nil))))))))
  (dss_one (ds_ret (dc (takes_of rfl rfl rfl rfl) (G_law_red 24) (hr.mono (by decide)) rfl rfl ((aCons_len (aCons_len aNil_len))) (da_cons (de_var (pv 2)) (da_cons (de_var (pv 3)) da_nil))))))))
abbrev sm_law_so : Stmt := topS 35
theorem scm_law_so : FnScope ["found", "meant", "k"] ["found", "meant"] (defScope sm_law_so) := ⟨rfl, rfl, rfl, by decide +kernel, rfl, by decide +kernel, by decide +kernel⟩
theorem goodm_law_so (T : Tx P w K mg) (D : DefAt K mg "_law_so" "_law_so" sm_law_so ["found", "meant"])  : ∀ n, Good P w K mg base "_law_so" (1 + n) ["found", "meant"] (m_law_so n)
  | 0 => (D.none scm_law_so).mono (by omega)
  | n + 1 => have G := goodm_law_so T D  n
  (D.good (N := ["found", "meant", "k"]) scm_law_so fun f cdv A outer s H E hr =>
  (dss_cons (ds_if (dt_cmp op_isN opd_isn (de_var (pv 1)) de_non rfl)
    (dss_one (ds_ret (de_cmp op_isN opd_isn (de_var (pv 0)) de_non rfl)))
    dss_nil)
  (dss_cons (ds_if (dt_tru (de_cb (pe_callB call_isi rfl T.b_isinstance (by decide +kernel) (da_cons (de_var (pv 1)) (da_cons (de_bty rfl T.b_tuple (by decide +kernel)) da_nil))) cd_is))
    (dss_cons (ds_if (PW.pt (dw_or (dt_not (dt_tru (de_cb (pe_callB call_isi rfl T.b_isinstance (by decide +kernel) (da_cons (de_var (pv 0)) (da_cons (de_bty rfl T.b_tuple (by decide +kernel)) da_nil))) cd_is))) (dw_or1 (dt_cmp (op_neA (hu_of64 hr)) opd_eqA (de_cb (pe_callB call_lenA rfl T.b_len (by decide +kernel) (da_cons (de_var (pv 0)) da_nil)) cd_len) (de_cb (pe_callB call_lenA rfl T.b_len (by decide +kernel) (da_cons (de_var (pv 1)) da_nil)) cd_len) rfl))))
      (dss_one (ds_ret de_bl))
      dss_nil)
    (dss_cons (ds_for (ps_for (passes_of rfl) rfl (di_rg1 (pi_range1 rfl T.b_range (da_cons (de_cb (pe_callB call_lenA rfl T.b_len (by decide +kernel) (da_cons (de_var (pv 1)) da_nil)) cd_len) da_nil))) (dg_n (pg_name (i := 2) scm_law_so.nd rfl (by first | exact .inl rfl | exact .inr rfl)))
      (dss_one (ds_if (dt_not (dt_tru (dc (takes_of rfl rfl rfl rfl) G (hr.mono (by first | omega | (simp only [Nat.add_eq]; omega))) rfl rfl ((aCons_len (aCons_len aNil_len))) (da_cons (de_ix ix_seq opd_ix (de_var (pv 0)) (de_var (pv 2)) (fun _ _ => rfl)) (da_cons (de_ix ix_seq opd_ix (de_var (pv 1)) (de_var (pv 2)) (fun _ _ => rfl)) da_nil)))))
        (dss_one (ds_ret de_bl))
        dss_nil))))
    (dss_one (ds_ret de_bl))))
    dss_nil)
  (dss_cons (ds_if (PW.pt (dw_or (dt_tru (de_cb (pe_callB call_isi rfl T.b_isinstance (by decide +kernel) (da_cons (de_var (pv 1)) (da_cons (de_bty rfl T.b_bool (by decide +kernel)) da_nil))) cd_is)) (dw_or1 (dt_tru (de_cb (pe_callB call_isi rfl T.b_isinstance (by decide +kernel) (da_cons (de_var (pv 0)) (da_cons (de_bty rfl T.b_bool (by decide +kernel)) da_nil))) cd_is)))))
    (dss_one (ds_ret (de_and (de_cb (pe_callB call_isi rfl T.b_isinstance (by decide +kernel) (da_cons (de_var (pv 1)) (da_cons (de_bty rfl T.b_bool (by decide +kernel)) da_nil))) cd_is) (de_and (de_cb (pe_callB call_isi rfl T.b_isinstance (by decide +kernel) (da_cons (de_var (pv 0)) (da_cons (de_bty rfl T.b_bool (by decide +kernel)) da_nil))) cd_is) (de_one (de_cmp (op_eqA (hu_of64 hr)) opd_eqA (de_var (pv 0)) (de_var (pv 1)) rfl))))))
    dss_nil)
  (dss_cons (ds_if (dt_tru (de_cb (pe_callB call_isi rfl T.b_isinstance (by decide +kernel) (da_cons (de_var (pv 1)) (da_cons (de_bty rfl T.b_int (by decide +kernel)) da_nil))) cd_is))
    (dss_one (ds_ret (de_and (de_cb (pe_callB call_isi rfl T.b_isinstance (by decide +kernel) (da_cons (de_var (pv 0)) (da_cons (de_bty rfl T.b_int (by decide +kernel)) da_nil))) cd_is) (de_one (de_cmp (op_eqA (hu_of64 hr)) opd_eqA (de_var (pv 0)) (de_var (pv 1)) rfl)))))
    dss_nil)
  (dss_one (ds_ret (de_and (de_cb (pe_callB call_isi rfl T.b_isinstance (by decide +kernel) (da_cons (de_var (pv 1)) (da_cons (de_bty rfl T.b_str (by decide +kernel)) da_nil))) cd_is) (de_and (de_cb (pe_callB call_isi rfl T.b_isinstance (by decide +kernel) (da_cons (de_var (pv 0)) (da_cons (de_bty rfl T.b_str (by decide +kernel)) da_nil))) cd_is) (de_one (de_cmp (op_eqA (hu_of64 hr)) opd_eqA (de_var (pv 0)) (de_var (pv 1)) rfl)))))))))))
abbrev sm_is_sequence : Stmt := topS 4
theorem scm_is_sequence : FnScope ["x"] ["x"] (defScope sm_is_sequence) := ⟨rfl, rfl, rfl, by decide +kernel, rfl, by decide +kernel, by decide +kernel⟩
theorem goodm_is_sequence (T : Tx P w K mg) (D : DefAt K mg "is_sequence" "is_sequence" sm_is_sequence ["x"])  : Good P w K mg base "is_sequence" 1 ["x"] m_is_sequence :=
  (D.good (N := ["x"]) scm_is_sequence fun f cdv A outer s H E hr =>
  (dss_one (ds_ret (de_is2 (pe_callB call_isiT rfl T.b_isinstance PyProof.Rows.boot_isinstance (pa_cons (de_var (pv 0)) (pa_cons (pe_tup (pa_cons (pe_bltn rfl T.b_list (by decide +kernel) rfl) (pa_cons (pe_bltn rfl T.b_tuple (by decide +kernel) rfl) pa_nil))) pa_nil)))))))
abbrev sm_is_row : Stmt := topS 5
theorem scm_is_row : FnScope ["x", "least", "most"] ["x", "least", "most"] (defScope sm_is_row) := ⟨rfl, rfl, rfl, by decide +kernel, rfl, by decide +kernel, by decide +kernel⟩
theorem goodm_is_row (T : Tx P w K mg) (D : DefAt K mg "is_row" "is_row" sm_is_row ["x", "least", "most"]) (Gis_sequence : Good P w K mg base "is_sequence" 1 ["x"] m_is_sequence) : Good P w K mg base "is_row" 2 ["x", "least", "most"] m_is_row :=
  (D.good (N := ["x", "least", "most"]) scm_is_row fun f cdv A outer s H E hr =>
  (dss_one (ds_ret (de_and (dc (takes_of rfl rfl rfl rfl) Gis_sequence (hr.mono (by decide)) rfl rfl ((aCons_len aNil_len)) (da_cons (de_var (pv 0)) da_nil)) (de_and (de_cmp op_leA opd_ord (de_var (pv 1)) (de_cb (pe_callB call_lenA rfl T.b_len (by decide +kernel) (da_cons (de_var (pv 0)) da_nil)) cd_len) rfl) (de_one (de_cmp op_leA opd_ord (de_cb (pe_callB call_lenA rfl T.b_len (by decide +kernel) (da_cons (de_var (pv 0)) da_nil)) cd_len) (de_var (pv 2)) rfl)))))))
abbrev sm_is_integer : Stmt := topS 2
theorem scm_is_integer : FnScope ["x"] ["x"] (defScope sm_is_integer) := ⟨rfl, rfl, rfl, by decide +kernel, rfl, by decide +kernel, by decide +kernel⟩
theorem goodm_is_integer (T : Tx P w K mg) (D : DefAt K mg "is_integer" "is_integer" sm_is_integer ["x"])  : Good P w K mg base "is_integer" 1 ["x"] m_is_integer :=
  (D.good (N := ["x"]) scm_is_integer fun f cdv A outer s H E hr =>
  (dss_one (ds_ret (de_and (de_cb (pe_callB call_isi rfl T.b_isinstance (by decide +kernel) (da_cons (de_var (pv 0)) (da_cons (de_bty rfl T.b_int (by decide +kernel)) da_nil))) cd_is) (de_one (de_not (de_cb (pe_callB call_isi rfl T.b_isinstance (by decide +kernel) (da_cons (de_var (pv 0)) (da_cons (de_bty rfl T.b_bool (by decide +kernel)) da_nil))) cd_is)))))))
abbrev sm_is_within : Stmt := topS 3
theorem scm_is_within : FnScope ["x", "low", "high"] ["x", "low", "high"] (defScope sm_is_within) := ⟨rfl, rfl, rfl, by decide +kernel, rfl, by decide +kernel, by decide +kernel⟩
theorem goodm_is_within (T : Tx P w K mg) (D : DefAt K mg "is_within" "is_within" sm_is_within ["x", "low", "high"]) (Gis_integer : Good P w K mg base "is_integer" 1 ["x"] m_is_integer) : Good P w K mg base "is_within" 2 ["x", "low", "high"] m_is_within :=
  (D.good (N := ["x", "low", "high"]) scm_is_within fun f cdv A outer s H E hr =>
  (dss_one (ds_ret (de_and (dc (takes_of rfl rfl rfl rfl) Gis_integer (hr.mono (by decide)) rfl rfl ((aCons_len aNil_len)) (da_cons (de_var (pv 0)) da_nil)) (de_and (de_cmp op_leA opd_ord (de_var (pv 1)) (de_var (pv 0)) rfl) (de_one (de_cmp op_leA opd_ord (de_var (pv 0)) (de_var (pv 2)) rfl)))))))
abbrev sm_is_choice : Stmt := topS 25
theorem scm_is_choice : FnScope ["choice", "many", "weights", "weight"] ["choice", "many"] (defScope sm_is_choice) := ⟨rfl, rfl, rfl, by decide +kernel, rfl, by decide +kernel, by decide +kernel⟩
theorem goodm_is_choice (T : Tx P w K mg) (D : DefAt K mg "is_choice" "is_choice" sm_is_choice ["choice", "many"]) (Gis_row : Good P w K mg base "is_row" 2 ["x", "least", "most"] m_is_row) (Gis_within : Good P w K mg base "is_within" 2 ["x", "low", "high"] m_is_within) : Good P w K mg base "is_choice" 3 ["choice", "many"] m_is_choice :=
  (D.good (N := ["choice", "many", "weights", "weight"]) scm_is_choice fun f cdv A outer s H E hr =>
  (dss_cons (ds_if (PW.pt (dw_or (dt_not (dt_tru (dc (takes_of rfl rfl rfl rfl) Gis_row (hr.mono (by decide)) rfl rfl ((aCons_len (aCons_len (aCons_len aNil_len)))) (da_cons (de_var (pv 0)) (da_cons de_int (da_cons de_int da_nil)))))) (dw_or1 (dt_not (dt_tru (dc (takes_of rfl rfl rfl rfl) Gis_within (hr.mono (by decide)) rfl rfl ((aCons_len (aCons_len (aCons_len aNil_len)))) (da_cons (de_ix ix_seq opd_ix (de_var (pv 0)) de_int (fun _ _ => rfl)) (da_cons de_int (da_cons (de_top rfl T.c_MOST_COST) da_nil)))))))))
    (dss_one (ds_ret de_bl))
    dss_nil)
  (dss_cons (ds_set (ps_set (i := 2) scm_is_choice.nd rfl (by first | exact .inl rfl | exact .inr rfl) (de_ix ix_seq opd_ix (de_var (pv 0)) de_int (fun _ _ => rfl))))
  (dss_cons (ds_if (dt_not (dt_tru (dc (takes_of rfl rfl rfl rfl) Gis_row (hr.mono (by decide)) rfl rfl ((aCons_len (aCons_len (aCons_len aNil_len)))) (da_cons (de_var (pv 2)) (da_cons (de_var (pv 1)) (da_cons (de_var (pv 1)) da_nil))))))
    (dss_one (ds_ret de_bl))
    dss_nil)
  (dss_one (ds_ret (de_and (de_cb (pe_callB (cr_all rfl) rfl T.b_all (by decide +kernel) (da_cons (de_lc (by decide) (pe_lc (own := [("weight", 3)]) rfl scm_is_choice.nd (di_seq (de_var (pv 2))) (blkOk_by (N := ["choice", "many", "weights", "weight"]) (sc := (defScope sm_is_choice)) (by decide +kernel)) (fun _ _ _ _ _ => (dg_n (pg_name (i := 3) scm_is_choice.nd rfl (by first | exact .inl rfl | exact .inr rfl)))) (fun _ _ _ _ _ => dts_nil) (fun _ _ _ _ _ => (dc takes0 Gis_within (hr.mono (by decide)) rfl rfl ((aCons_len (aCons_len (aCons_len aNil_len)))) (da_cons (de_var (pv 3)) (da_cons de_int (da_cons (de_top rfl T.c_MOST_WEIGHT) da_nil))))))) da_nil)) cd_all) (de_one (de_cmp op_geA opd_ord (de_ix ix_seq opd_ix (de_var (pv 2)) de_int (fun _ _ => rfl)) de_int rfl)))))))))
abbrev sm_is_state : Stmt := topS 26
theorem scm_is_state : FnScope ["state", "many", "choice"] ["state", "many"] (defScope sm_is_state) := ⟨rfl, rfl, rfl, by decide +kernel, rfl, by decide +kernel, by decide +kernel⟩
theorem goodm_is_state (T : Tx P w K mg) (D : DefAt K mg "is_state" "is_state" sm_is_state ["state", "many"]) (Gis_row : Good P w K mg base "is_row" 2 ["x", "least", "most"] m_is_row) (Gis_choice : Good P w K mg base "is_choice" 3 ["choice", "many"] m_is_choice) : Good P w K mg base "is_state" 4 ["state", "many"] m_is_state :=
  (D.good (N := ["state", "many", "choice"]) scm_is_state fun f cdv A outer s H E hr =>
  (dss_one (ds_ret (de_and (dc (takes_of rfl rfl rfl rfl) Gis_row (hr.mono (by decide)) rfl rfl ((aCons_len (aCons_len (aCons_len aNil_len)))) (da_cons (de_var (pv 0)) (da_cons de_int (da_cons (de_top rfl T.c_MOST_CHOICES) da_nil)))) (de_one (de_cb (pe_callB (cr_all rfl) rfl T.b_all (by decide +kernel) (da_cons (de_lc (by decide) (pe_lc (own := [("choice", 2)]) rfl scm_is_state.nd (di_seq (de_var (pv 0))) (blkOk_by (N := ["state", "many", "choice"]) (sc := (defScope sm_is_state)) (by decide +kernel)) (fun _ _ _ _ _ => (dg_n (pg_name (i := 2) scm_is_state.nd rfl (by first | exact .inl rfl | exact .inr rfl)))) (fun _ _ _ _ _ => dts_nil) (fun _ _ _ _ _ => (dc takes0 Gis_choice (hr.mono (by decide)) rfl rfl ((aCons_len (aCons_len aNil_len))) (da_cons (de_var (pv 2)) (da_cons (de_var (pv 1)) da_nil)))))) da_nil)) cd_all))))))
abbrev sm_is_model : Stmt := topS 27
theorem scm_is_model : FnScope ["model", "state"] ["model"] (defScope sm_is_model) := ⟨rfl, rfl, rfl, by decide +kernel, rfl, by decide +kernel, by decide +kernel⟩
theorem goodm_is_model (T : Tx P w K mg) (D : DefAt K mg "is_model" "is_model" sm_is_model ["model"]) (Gis_row : Good P w K mg base "is_row" 2 ["x", "least", "most"] m_is_row) (Gis_state : Good P w K mg base "is_state" 4 ["state", "many"] m_is_state) : Good P w K mg base "is_model" 5 ["model"] m_is_model :=
  (D.good (N := ["model", "state"]) scm_is_model fun f cdv A outer s H E hr =>
  (dss_cons (ds_if (dt_not (dt_tru (dc (takes_of rfl rfl rfl rfl) Gis_row (hr.mono (by decide)) rfl rfl ((aCons_len (aCons_len (aCons_len aNil_len)))) (da_cons (de_var (pv 0)) (da_cons de_int (da_cons (de_top rfl T.c_MOST_STATES) da_nil))))))
    (dss_one (ds_ret de_bl))
    dss_nil)
  (dss_one (ds_ret (de_cb (pe_callB (cr_all rfl) rfl T.b_all (by decide +kernel) (da_cons (de_lc (by decide) (pe_lc (own := [("state", 1)]) rfl scm_is_model.nd (di_seq (de_var (pv 0))) (blkOk_by (N := ["model", "state"]) (sc := (defScope sm_is_model)) (by decide +kernel)) (fun _ _ _ _ _ => (dg_n (pg_name (i := 1) scm_is_model.nd rfl (by first | exact .inl rfl | exact .inr rfl)))) (fun _ _ _ _ _ => dts_nil) (fun _ _ _ _ _ => (dc takes0 Gis_state (hr.mono (by decide)) rfl rfl ((aCons_len (aCons_len aNil_len))) (da_cons (de_var (pv 1)) (da_cons (de_cb (pe_callB call_lenA rfl T.b_len (by decide +kernel) (da_cons (de_var (pv 0)) da_nil)) cd_len) da_nil)))))) da_nil)) cd_all)))))
abbrev sm_is_policy : Stmt := topS 28
theorem scm_is_policy : FnScope ["policy", "at"] ["policy"] (defScope sm_is_policy) := ⟨rfl, rfl, rfl, by decide +kernel, rfl, by decide +kernel, by decide +kernel⟩
theorem goodm_is_policy (T : Tx P w K mg) (D : DefAt K mg "is_policy" "is_policy" sm_is_policy ["policy"]) (Gis_sequence : Good P w K mg base "is_sequence" 1 ["x"] m_is_sequence) (Gis_integer : Good P w K mg base "is_integer" 1 ["x"] m_is_integer) : Good P w K mg base "is_policy" 2 ["policy"] m_is_policy :=
  (D.good (N := ["policy", "at"]) scm_is_policy fun f cdv A outer s H E hr =>
  (dss_one (ds_ret (de_and (dc (takes_of rfl rfl rfl rfl) Gis_sequence (hr.mono (by decide)) rfl rfl ((aCons_len aNil_len)) (da_cons (de_var (pv 0)) da_nil)) (de_one (de_cb (pe_callB (cr_all rfl) rfl T.b_all (by decide +kernel) (da_cons (de_lc (by decide) (pe_lc (own := [("at", 1)]) rfl scm_is_policy.nd (di_seq (de_var (pv 0))) (blkOk_by (N := ["policy", "at"]) (sc := (defScope sm_is_policy)) (by decide +kernel)) (fun _ _ _ _ _ => (dg_n (pg_name (i := 1) scm_is_policy.nd rfl (by first | exact .inl rfl | exact .inr rfl)))) (fun _ _ _ _ _ => dts_nil) (fun _ _ _ _ _ => (de_and (dc takes0 Gis_integer (hr.mono (by decide)) rfl rfl ((aCons_len aNil_len)) (da_cons (de_var (pv 1)) da_nil)) (de_one (de_cmp op_geA opd_ord (de_var (pv 1)) de_int rfl)))))) da_nil)) cd_all))))))
abbrev sm_is_fraction : Stmt := topS 6
theorem scm_is_fraction : FnScope ["x"] ["x"] (defScope sm_is_fraction) := ⟨rfl, rfl, rfl, by decide +kernel, rfl, by decide +kernel, by decide +kernel⟩
theorem goodm_is_fraction (T : Tx P w K mg) (D : DefAt K mg "is_fraction" "is_fraction" sm_is_fraction ["x"]) (Gis_row : Good P w K mg base "is_row" 2 ["x", "least", "most"] m_is_row) (Gis_integer : Good P w K mg base "is_integer" 1 ["x"] m_is_integer) : Good P w K mg base "is_fraction" 3 ["x"] m_is_fraction :=
  (D.good (N := ["x"]) scm_is_fraction fun f cdv A outer s H E hr =>
  (dss_cons (ds_if (PW.pt (dw_or (dt_not (dt_tru (dc (takes_of rfl rfl rfl rfl) Gis_row (hr.mono (by decide)) rfl rfl ((aCons_len (aCons_len (aCons_len aNil_len)))) (da_cons (de_var (pv 0)) (da_cons de_int (da_cons de_int da_nil)))))) (dw_or (dt_not (dt_tru (dc (takes_of rfl rfl rfl rfl) Gis_integer (hr.mono (by decide)) rfl rfl ((aCons_len aNil_len)) (da_cons (de_ix ix_seq opd_ix (de_var (pv 0)) de_int (fun _ _ => rfl)) da_nil)))) (dw_or1 (dt_not (dt_tru (dc (takes_of rfl rfl rfl rfl) Gis_integer (hr.mono (by decide)) rfl rfl ((aCons_len aNil_len)) (da_cons (de_ix ix_seq opd_ix (de_var (pv 0)) de_int (fun _ _ => rfl)) da_nil))))))))
    (dss_one (ds_ret de_bl))
    dss_nil)
  (dss_one (ds_ret (de_and (de_cmp op_geA opd_ord (de_ix ix_seq opd_ix (de_var (pv 0)) de_int (fun _ _ => rfl)) de_int rfl) (de_one (de_cmp (op_eqA (hu_of64 hr)) opd_eqA (de_cb (pe_callBfun cr_gcd rfl T.i_gcd (da_cons (de_ix ix_seq opd_ix (de_var (pv 0)) de_int (fun _ _ => rfl)) (da_cons (de_ix ix_seq opd_ix (de_var (pv 0)) de_int (fun _ _ => rfl)) da_nil))) cd_gcd) de_int rfl)))))))
abbrev sm_fits : Stmt := topS 29
theorem scm_fits : FnScope ["model", "policy", "choices", "at"] ["model", "policy"] (defScope sm_fits) := ⟨rfl, rfl, rfl, by decide +kernel, rfl, by decide +kernel, by decide +kernel⟩
theorem goodm_fits (T : Tx P w K mg) (D : DefAt K mg "fits" "fits" sm_fits ["model", "policy"])  : Good P w K mg base "fits" 1 ["model", "policy"] m_fits :=
  (D.good (N := ["model", "policy", "choices", "at"]) scm_fits fun f cdv A outer s H E hr =>
  (dss_cons (ds_if (dt_cmp (op_neA (hu_of64 hr)) opd_eqA (de_cb (pe_callB call_lenA rfl T.b_len (by decide +kernel) (da_cons (de_var (pv 1)) da_nil)) cd_len) (de_cb (pe_callB call_lenA rfl T.b_len (by decide +kernel) (da_cons (de_var (pv 0)) da_nil)) cd_len) rfl)
    (dss_one (ds_ret de_bl))
    dss_nil)
  (dss_one (ds_ret (de_cb (pe_callB (cr_all rfl) rfl T.b_all (by decide +kernel) (da_cons (de_lc (by decide) (pe_lc (own := [("choices", 2), ("at", 3)]) rfl scm_fits.nd (di_zip (pi_zpB rfl T.b_zip (da_cons (de_var (pv 0)) (da_cons (de_var (pv 1)) da_nil)))) (blkOk_by (N := ["model", "policy", "choices", "at"]) (sc := (defScope sm_fits)) (by decide +kernel)) (fun _ _ _ _ _ => (dgT rfl (dgsC (dg_n (pg_name (i := 2) scm_fits.nd rfl (by first | exact .inl rfl | exact .inr rfl))) (dgsC (dg_n (pg_name (i := 3) scm_fits.nd rfl (by first | exact .inl rfl | exact .inr rfl))) dgs_nil (fun a b => pgs_cons a b)) (fun a b => pgs_cons a b)) (fun a => pg_tup rfl a) (fun a => pg_lst rfl a))) (fun _ _ _ _ _ => dts_nil) (fun _ _ _ _ _ => (de_cmp op_ltA opd_ord (de_var (pv 3)) (de_cb (pe_callB call_lenA rfl T.b_len (by decide +kernel) (da_cons (de_var (pv 2)) da_nil)) cd_len) rfl)))) da_nil)) cd_all)))))
abbrev sm_check_proof : Stmt := topS 32
theorem scm_check_proof : FnScope ["model", "policy", "gain", "numbers", "number"] ["model", "policy", "gain", "numbers"] (defScope sm_check_proof) := ⟨rfl, rfl, rfl, by decide +kernel, rfl, by decide +kernel, by decide +kernel⟩
theorem goodm_check_proof (T : Tx P w K mg) (D : DefAt K mg "check_proof" "check_proof" sm_check_proof ["model", "policy", "gain", "numbers"]) (Gis_model : Good P w K mg base "is_model" 5 ["model"] m_is_model) (Gis_policy : Good P w K mg base "is_policy" 2 ["policy"] m_is_policy) (Gis_fraction : Good P w K mg base "is_fraction" 3 ["x"] m_is_fraction) (Gfits : Good P w K mg base "fits" 1 ["model", "policy"] m_fits) (Gis_sequence : Good P w K mg base "is_sequence" 1 ["x"] m_is_sequence) : Good P w K mg base "check_proof" 6 ["model", "policy", "gain", "numbers"] m_check_proof :=
  (D.good (N := ["model", "policy", "gain", "numbers", "number"]) scm_check_proof fun f cdv A outer s H E hr =>
  (dss_cons (ds_if (dt_not (dt_tru (dc (takes_of rfl rfl rfl rfl) Gis_model (hr.mono (by decide)) rfl rfl ((aCons_len aNil_len)) (da_cons (de_var (pv 0)) da_nil))))
    (dss_one (ds_raise1 rfl (takes_of rfl rfl rfl rfl) T.x_BadValue (hr.mono (by decide)) rfl (da_cons de_int da_nil)))
    dss_nil)
  (dss_cons (ds_if (dt_not (dt_tru (dc (takes_of rfl rfl rfl rfl) Gis_policy (hr.mono (by decide)) rfl rfl ((aCons_len aNil_len)) (da_cons (de_var (pv 1)) da_nil))))
    (dss_one (ds_raise1 rfl (takes_of rfl rfl rfl rfl) T.x_BadValue (hr.mono (by decide)) rfl (da_cons de_int da_nil)))
    dss_nil)
  (dss_cons (ds_if (dt_not (dt_tru (dc (takes_of rfl rfl rfl rfl) Gis_fraction (hr.mono (by decide)) rfl rfl ((aCons_len aNil_len)) (da_cons (de_var (pv 2)) da_nil))))
    (dss_one (ds_raise1 rfl (takes_of rfl rfl rfl rfl) T.x_BadValue (hr.mono (by decide)) rfl (da_cons de_int da_nil)))
    dss_nil)
  (dss_cons (ds_if (PW.pt (dw_or (dt_not (dt_tru (dc (takes_of rfl rfl rfl rfl) Gis_sequence (hr.mono (by decide)) rfl rfl ((aCons_len aNil_len)) (da_cons (de_var (pv 3)) da_nil)))) (dw_or1 (dt_not (dt_tru (de_cb (pe_callB (cr_all rfl) rfl T.b_all (by decide +kernel) (da_cons (de_lc (by decide) (pe_lc (own := [("number", 4)]) rfl scm_check_proof.nd (di_seq (de_var (pv 3))) (blkOk_by (N := ["model", "policy", "gain", "numbers", "number"]) (sc := (defScope sm_check_proof)) (by decide +kernel)) (fun _ _ _ _ _ => (dg_n (pg_name (i := 4) scm_check_proof.nd rfl (by first | exact .inl rfl | exact .inr rfl)))) (fun _ _ _ _ _ => dts_nil) (fun _ _ _ _ _ => (dc takes0 Gis_fraction (hr.mono (by decide)) rfl rfl ((aCons_len aNil_len)) (da_cons (de_var (pv 4)) da_nil))))) da_nil)) cd_all))))))
    (dss_one (ds_raise1 rfl (takes_of rfl rfl rfl rfl) T.x_BadValue (hr.mono (by decide)) rfl (da_cons de_int da_nil)))
    dss_nil)
  (dss_cons (ds_if (dt_not (dt_tru (dc (takes_of rfl rfl rfl rfl) Gfits (hr.mono (by decide)) rfl rfl ((aCons_len (aCons_len aNil_len))) (da_cons (de_var (pv 0)) (da_cons (de_var (pv 1)) da_nil)))))
    (dss_one (ds_raise1 rfl (takes_of rfl rfl rfl rfl) T.x_BadValue (hr.mono (by decide)) rfl (da_cons de_int da_nil)))
    dss_nil)
  (dss_one (ds_if (dt_cmp (op_neA (hu_of64 hr)) opd_eqA (de_cb (pe_callB call_lenA rfl T.b_len (by decide +kernel) (da_cons (de_var (pv 3)) da_nil)) cd_len) (de_cb (pe_callB call_lenA rfl T.b_len (by decide +kernel) (da_cons (de_var (pv 0)) da_nil)) cd_len) rfl)
    (dss_one (ds_raise1 rfl (takes_of rfl rfl rfl rfl) T.x_BadValue (hr.mono (by decide)) rfl (da_cons de_int da_nil)))
    dss_nil))))))))
abbrev sm_look : Stmt := topS 13
theorem scm_look : FnScope ["a", "b"] ["a", "b"] (defScope sm_look) := ⟨rfl, rfl, rfl, by decide +kernel, rfl, by decide +kernel, by decide +kernel⟩
theorem goodm_look (T : Tx P w K mg) (D : DefAt K mg "_look" "_look" sm_look ["a", "b"]) (Gis_fraction : Good P w K mg base "is_fraction" 3 ["x"] m_is_fraction) : Good P w K mg base "_look" 4 ["a", "b"] m_look :=
  (D.good (N := ["a", "b"]) scm_look fun f cdv A outer s H E hr =>
  (dss_cons (ds_if (dt_not (dt_tru (dc (takes_of rfl rfl rfl rfl) Gis_fraction (hr.mono (by decide)) rfl rfl ((aCons_len aNil_len)) (da_cons (de_var (pv 0)) da_nil))))
    (dss_one (ds_raise1 rfl (takes_of rfl rfl rfl rfl) T.x_BadValue (hr.mono (by decide)) rfl (da_cons de_int da_nil)))
    dss_nil)
  (dss_one (ds_if (dt_not (dt_tru (dc (takes_of rfl rfl rfl rfl) Gis_fraction (hr.mono (by decide)) rfl rfl ((aCons_len aNil_len)) (da_cons (de_var (pv 1)) da_nil))))
    (dss_one (ds_raise1 rfl (takes_of rfl rfl rfl rfl) T.x_BadValue (hr.mono (by decide)) rfl (da_cons de_int da_nil)))
    dss_nil))))
abbrev sm_lowest : Stmt := topS 11
theorem scm_lowest : FnScope ["n", "d", "common"] ["n", "d"] (defScope sm_lowest) := ⟨rfl, rfl, rfl, by decide +kernel, rfl, by decide +kernel, by decide +kernel⟩
theorem goodm_lowest (T : Tx P w K mg) (D : DefAt K mg "lowest" "lowest" sm_lowest ["n", "d"])  : Good P w K mg base "lowest" 1 ["n", "d"] m_lowest :=
  (D.good (N := ["n", "d", "common"]) scm_lowest fun f cdv A outer s H E hr =>
  (dss_cons (ds_set (ps_set (i := 2) scm_lowest.nd rfl (by first | exact .inl rfl | exact .inr rfl) (de_cb (pe_callBfun cr_gcd rfl T.i_gcd (da_cons (de_var (pv 0)) (da_cons (de_var (pv 1)) da_nil))) cd_gcd)))
  (dss_cons (ds_if (dt_cmp op_ltA opd_ord (de_var (pv 1)) de_int rfl)
    (dss_one (ds_set (ps_set (i := 2) scm_lowest.nd rfl (by first | exact .inl rfl | exact .inr rfl) (de_un un_neg und_neg (de_var (pv 2))))))
    dss_nil)
  (dss_one (ds_ret (de_tup (da_cons (de_op op_fdivA opd_fdiv (de_var (pv 0)) (de_var (pv 2))) (da_cons (de_op op_fdivA opd_fdiv (de_var (pv 1)) (de_var (pv 2))) da_nil))))))))
abbrev sm_plus : Stmt := topS 14
theorem scm_plus : FnScope ["a", "b"] ["a", "b"] (defScope sm_plus) := ⟨rfl, rfl, rfl, by decide +kernel, rfl, by decide +kernel, by decide +kernel⟩
theorem goodm_plus (T : Tx P w K mg) (D : DefAt K mg "plus" "plus" sm_plus ["a", "b"]) (G_look : Good P w K mg base "_look" 4 ["a", "b"] m_look) (Glowest : Good P w K mg base "lowest" 1 ["n", "d"] m_lowest) : Good P w K mg base "plus" 5 ["a", "b"] m_plus :=
  (D.good (N := ["a", "b"]) scm_plus fun f cdv A outer s H E hr =>
  (dss_cons (ds_drop (dc (takes_of rfl rfl rfl rfl) G_look (hr.mono (by decide)) rfl rfl ((aCons_len (aCons_len aNil_len))) (da_cons (de_var (pv 0)) (da_cons (de_var (pv 1)) da_nil))))
  (dss_one (ds_ret (dc (takes_of rfl rfl rfl rfl) Glowest (hr.mono (by decide)) rfl rfl ((aCons_len (aCons_len aNil_len))) (da_cons (de_op op_addA opd_add (de_op op_mulA opd_mul (de_ix ix_seq opd_ix (de_var (pv 0)) de_int (fun _ _ => rfl)) (de_ix ix_seq opd_ix (de_var (pv 1)) de_int (fun _ _ => rfl))) (de_op op_mulA opd_mul (de_ix ix_seq opd_ix (de_var (pv 1)) de_int (fun _ _ => rfl)) (de_ix ix_seq opd_ix (de_var (pv 0)) de_int (fun _ _ => rfl)))) (da_cons (de_op op_mulA opd_mul (de_ix ix_seq opd_ix (de_var (pv 0)) de_int (fun _ _ => rfl)) (de_ix ix_seq opd_ix (de_var (pv 1)) de_int (fun _ _ => rfl))) da_nil)))))))
abbrev sm_common_bottom : Stmt := topS 17
theorem scm_common_bottom : FnScope ["bottoms", "common", "bottom"] ["bottoms"] (defScope sm_common_bottom) := ⟨rfl, rfl, rfl, by decide +kernel, rfl, by decide +kernel, by decide +kernel⟩
theorem goodm_common_bottom (T : Tx P w K mg) (D : DefAt K mg "common_bottom" "common_bottom" sm_common_bottom ["bottoms"])  : Good P w K mg base "common_bottom" 1 ["bottoms"] m_common_bottom :=
  (D.good (N := ["bottoms", "common", "bottom"]) scm_common_bottom fun f cdv A outer s H E hr =>
  (dss_cons (ds_set (ps_set (i := 1) scm_common_bottom.nd rfl (by first | exact .inl rfl | exact .inr rfl) de_int))
  (dss_cons (ds_for (ps_for (passes_of rfl) rfl (di_seq (de_var (pv 0))) (dg_n (pg_name (i := 2) scm_common_bottom.nd rfl (by first | exact .inl rfl | exact .inr rfl)))
    (dss_one (ds_set (ps_set (i := 1) scm_common_bottom.nd rfl (by first | exact .inl rfl | exact .inr rfl) (de_cb (pe_callBfun cr_lcm rfl T.i_lcm (da_cons (de_var (pv 1)) (da_cons (de_var (pv 2)) da_nil))) cd_lcm))))))
  (dss_one (ds_ret (de_var (pv 1)))))))
abbrev sm_reduced : Stmt := topS 12
theorem scm_reduced : FnScope ["n", "d"] ["n", "d"] (defScope sm_reduced) := ⟨rfl, rfl, rfl, by decide +kernel, rfl, by decide +kernel, by decide +kernel⟩
theorem goodm_reduced (T : Tx P w K mg) (D : DefAt K mg "reduced" "reduced" sm_reduced ["n", "d"]) (Glowest : Good P w K mg base "lowest" 1 ["n", "d"] m_lowest) (Gis_integer : Good P w K mg base "is_integer" 1 ["x"] m_is_integer) : Good P w K mg base "reduced" 3 ["n", "d"] m_reduced :=
  (D.good (N := ["n", "d"]) scm_reduced fun f cdv A outer s H E hr =>
  (dss_cons (ds_if (dt_not (dt_tru (dc (takes_of rfl rfl rfl rfl) Gis_integer (hr.mono (by decide)) rfl rfl ((aCons_len aNil_len)) (da_cons (de_var (pv 0)) da_nil))))
    (dss_one (ds_raise1 rfl (takes_of rfl rfl rfl rfl) T.x_BadValue (hr.mono (by decide)) rfl (da_cons de_int da_nil)))
    dss_nil)
  (dss_cons (ds_if (PW.pt (dw_or (dt_not (dt_tru (dc (takes_of rfl rfl rfl rfl) Gis_integer (hr.mono (by decide)) rfl rfl ((aCons_len aNil_len)) (da_cons (de_var (pv 1)) da_nil)))) (dw_or1 (dt_cmp (op_eqA (hu_of64 hr)) opd_eqA (de_var (pv 1)) de_int rfl))))
    (dss_one (ds_raise1 rfl (takes_of rfl rfl rfl rfl) T.x_BadValue (hr.mono (by decide)) rfl (da_cons de_int da_nil)))
    dss_nil)
  (dss_one (ds_ret (dc (takes_of rfl rfl rfl rfl) Glowest (hr.mono (by decide)) rfl rfl ((aCons_len (aCons_len aNil_len))) (da_cons (de_var (pv 0)) (da_cons (de_var (pv 1)) da_nil))))))))
abbrev sm_mean : Stmt := topS 18
theorem scm_mean : FnScope ["weights", "fractions", "common", "tops", "_", "bottom", "top", "weight"] ["weights", "fractions"] (defScope sm_mean) := ⟨rfl, rfl, rfl, by decide +kernel, rfl, by decide +kernel, by decide +kernel⟩
theorem goodm_mean (T : Tx P w K mg) (D : DefAt K mg "mean" "mean" sm_mean ["weights", "fractions"]) (Gcommon_bottom : Good P w K mg base "common_bottom" 1 ["bottoms"] m_common_bottom) (Greduced : Good P w K mg base "reduced" 3 ["n", "d"] m_reduced) : Good P w K mg base "mean" 4 ["weights", "fractions"] m_mean :=
  (D.good (N := ["weights", "fractions", "common", "tops", "_", "bottom", "top", "weight"]) scm_mean fun f cdv A outer s H E hr =>
  (dss_cons (ds_set (ps_set (i := 2) scm_mean.nd rfl (by first | exact .inl rfl | exact .inr rfl) (dc (takes_of rfl rfl rfl rfl) Gcommon_bottom (hr.mono (by decide)) rfl rfl ((aCons_len aNil_len)) (da_cons (de_lc (by decide) (pe_lc (own := [("_", 4), ("bottom", 5)]) rfl scm_mean.nd (di_seq (de_var (pv 1))) (blkOk_by (N := ["weights", "fractions", "common", "tops", "_", "bottom", "top", "weight"]) (sc := (defScope sm_mean)) (by decide +kernel)) (fun _ _ _ _ _ => (dgT rfl (dgsC (dg_n (pg_name (i := 4) scm_mean.nd rfl (by first | exact .inl rfl | exact .inr rfl))) (dgsC (dg_n (pg_name (i := 5) scm_mean.nd rfl (by first | exact .inl rfl | exact .inr rfl))) dgs_nil (fun a b => pgs_cons a b)) (fun a b => pgs_cons a b)) (fun a => pg_tup rfl a) (fun a => pg_lst rfl a))) (fun _ _ _ _ _ => dts_nil) (fun _ _ _ _ _ => (de_var (pv 5))))) da_nil))))
  (dss_cons (ds_setLc (by decide) (ps_setLc (own := [("top", 6), ("bottom", 5)]) rfl scm_mean.nd rfl rfl (sw_true rfl rfl rfl (by decide +kernel)) (di_seq (de_var (pv 1))) (blkOk_by (N := ["weights", "fractions", "common", "tops", "_", "bottom", "top", "weight"]) (sc := (defScope sm_mean)) (by decide +kernel)) (fun _ _ _ _ _ => (dgT rfl (dgsC (dg_n (pg_name (i := 6) scm_mean.nd rfl (by first | exact .inl rfl | exact .inr rfl))) (dgsC (dg_n (pg_name (i := 5) scm_mean.nd rfl (by first | exact .inl rfl | exact .inr rfl))) dgs_nil (fun a b => pgs_cons a b)) (fun a b => pgs_cons a b)) (fun a => pg_tup rfl a) (fun a => pg_lst rfl a))) (fun _ _ _ _ _ => dts_nil) (fun _ _ _ _ _ => (de_op op_mulA opd_mul (de_var (pv 6)) (de_op op_fdivA opd_fdiv (de_var (pv 2)) (de_var (pv 5)))))))
  (dss_one (ds_ret (dc (takes_of rfl rfl rfl rfl) Greduced (hr.mono (by decide)) rfl rfl ((aCons_len (aCons_len aNil_len))) (da_cons (de_cb (pe_callB (call_sumB rfl) rfl T.b_sum (by decide +kernel) (da_cons (de_lc (by decide) (pe_lc (own := [("weight", 7), ("top", 6)]) rfl scm_mean.nd (di_zip (pi_zpB rfl T.b_zip (da_cons (de_var (pv 0)) (da_cons (de_var (pv 3)) da_nil)))) (blkOk_by (N := ["weights", "fractions", "common", "tops", "_", "bottom", "top", "weight"]) (sc := (defScope sm_mean)) (by decide +kernel)) (fun _ _ _ _ _ => (dgT rfl (dgsC (dg_n (pg_name (i := 7) scm_mean.nd rfl (by first | exact .inl rfl | exact .inr rfl))) (dgsC (dg_n (pg_name (i := 6) scm_mean.nd rfl (by first | exact .inl rfl | exact .inr rfl))) dgs_nil (fun a b => pgs_cons a b)) (fun a b => pgs_cons a b)) (fun a => pg_tup rfl a) (fun a => pg_lst rfl a))) (fun _ _ _ _ _ => dts_nil) (fun _ _ _ _ _ => (de_op op_mulA opd_mul (de_var (pv 7)) (de_var (pv 6)))))) da_nil)) cd_sumA) (da_cons (de_op op_mulA opd_mul (de_cb (pe_callB (call_sumB rfl) rfl T.b_sum (by decide +kernel) (da_cons (de_var (pv 0)) da_nil)) cd_sumA) (de_var (pv 2))) da_nil))))))))
abbrev sm_sums_ahead : Stmt := topS 30
theorem scm_sums_ahead : FnScope ["choices", "numbers", "cost", "weights"] ["choices", "numbers"] (defScope sm_sums_ahead) := ⟨rfl, rfl, rfl, by decide +kernel, rfl, by decide +kernel, by decide +kernel⟩
theorem goodm_sums_ahead (T : Tx P w K mg) (D : DefAt K mg "sums_ahead" "sums_ahead" sm_sums_ahead ["choices", "numbers"]) (Gplus : Good P w K mg base "plus" 5 ["a", "b"] m_plus) (Gmean : Good P w K mg base "mean" 4 ["weights", "fractions"] m_mean) : Good P w K mg base "sums_ahead" 6 ["choices", "numbers"] m_sums_ahead :=
  (D.good (N := ["choices", "numbers", "cost", "weights"]) scm_sums_ahead fun f cdv A outer s H E hr =>
  (dss_one (ds_ret (de_lc (by decide) (pe_lc (own := [("cost", 2), ("weights", 3)]) rfl scm_sums_ahead.nd (di_seq (de_var (pv 0))) (blkOk_by (N := ["choices", "numbers", "cost", "weights"]) (sc := (defScope sm_sums_ahead)) (by decide +kernel)) (fun _ _ _ _ _ => (dgT rfl (dgsC (dg_n (pg_name (i := 2) scm_sums_ahead.nd rfl (by first | exact .inl rfl | exact .inr rfl))) (dgsC (dg_n (pg_name (i := 3) scm_sums_ahead.nd rfl (by first | exact .inl rfl | exact .inr rfl))) dgs_nil (fun a b => pgs_cons a b)) (fun a b => pgs_cons a b)) (fun a => pg_tup rfl a) (fun a => pg_lst rfl a))) (fun _ _ _ _ _ => dts_nil) (fun _ _ _ _ _ => (dc takes0 Gplus (hr.mono (by decide)) rfl rfl ((aCons_len (aCons_len aNil_len))) (da_cons (de_tup (da_cons (de_var (pv 2)) (da_cons de_int da_nil))) (da_cons (dc takes0 Gmean (hr.mono (by decide)) rfl rfl ((aCons_len (aCons_len aNil_len))) (da_cons (de_var (pv 3)) (da_cons (de_var (pv 1)) da_nil))) da_nil)))))))))
abbrev sm_less : Stmt := topS 15
theorem scm_less : FnScope ["a", "b"] ["a", "b"] (defScope sm_less) := ⟨rfl, rfl, rfl, by decide +kernel, rfl, by decide +kernel, by decide +kernel⟩
theorem goodm_less (T : Tx P w K mg) (D : DefAt K mg "less" "less" sm_less ["a", "b"]) (G_look : Good P w K mg base "_look" 4 ["a", "b"] m_look) : Good P w K mg base "less" 5 ["a", "b"] m_less :=
  (D.good (N := ["a", "b"]) scm_less fun f cdv A outer s H E hr =>
  (dss_cons (ds_drop (dc (takes_of rfl rfl rfl rfl) G_look (hr.mono (by decide)) rfl rfl ((aCons_len (aCons_len aNil_len))) (da_cons (de_var (pv 0)) (da_cons (de_var (pv 1)) da_nil))))
  (dss_one (ds_ret (de_cmp op_ltA opd_ord (de_op op_mulA opd_mul (de_ix ix_seq opd_ix (de_var (pv 0)) de_int (fun _ _ => rfl)) (de_ix ix_seq opd_ix (de_var (pv 1)) de_int (fun _ _ => rfl))) (de_op op_mulA opd_mul (de_ix ix_seq opd_ix (de_var (pv 1)) de_int (fun _ _ => rfl)) (de_ix ix_seq opd_ix (de_var (pv 0)) de_int (fun _ _ => rfl))) rfl)))))
abbrev sm_first_least : Stmt := topS 19
theorem scm_first_least : FnScope ["fractions", "found", "at"] ["fractions"] (defScope sm_first_least) := ⟨rfl, rfl, rfl, by decide +kernel, rfl, by decide +kernel, by decide +kernel⟩
theorem goodm_first_least (T : Tx P w K mg) (D : DefAt K mg "first_least" "first_least" sm_first_least ["fractions"]) (Gless : Good P w K mg base "less" 5 ["a", "b"] m_less) : Good P w K mg base "first_least" 6 ["fractions"] m_first_least :=
  (D.good (N := ["fractions", "found", "at"]) scm_first_least fun f cdv A outer s H E hr =>
  (dss_cons (ds_set (ps_set (i := 1) scm_first_least.nd rfl (by first | exact .inl rfl | exact .inr rfl) de_int))
  (dss_cons (ds_for (ps_for (passes_of rfl) rfl (di_rg2 (pi_range2 rfl T.b_range (da_cons de_int (da_cons (de_cb (pe_callB call_lenA rfl T.b_len (by decide +kernel) (da_cons (de_var (pv 0)) da_nil)) cd_len) da_nil)))) (dg_n (pg_name (i := 2) scm_first_least.nd rfl (by first | exact .inl rfl | exact .inr rfl)))
    (dss_one (ds_if (dt_tru (dc (takes_of rfl rfl rfl rfl) Gless (hr.mono (by decide)) rfl rfl ((aCons_len (aCons_len aNil_len))) (da_cons (de_ix ix_seq opd_ix (de_var (pv 0)) (de_var (pv 2)) (fun _ _ => rfl)) (da_cons (de_ix ix_seq opd_ix (de_var (pv 0)) (de_var (pv 1)) (fun _ _ => rfl)) da_nil))))
      (dss_one (ds_set (ps_set (i := 1) scm_first_least.nd rfl (by first | exact .inl rfl | exact .inr rfl) (de_var (pv 2)))))
      dss_nil))))
  (dss_one (ds_ret (de_var (pv 1)))))))
abbrev sm_proves : Stmt := topS 33
theorem scm_proves : FnScope ["model", "policy", "gain", "numbers", "choices", "at", "number", "sums", "least"] ["model", "policy", "gain", "numbers"] (defScope sm_proves) := ⟨rfl, rfl, rfl, by decide +kernel, rfl, by decide +kernel, by decide +kernel⟩
theorem goodm_proves (T : Tx P w K mg) (D : DefAt K mg "proves" "proves" sm_proves ["model", "policy", "gain", "numbers"]) (Gcheck_proof : Good P w K mg base "check_proof" 6 ["model", "policy", "gain", "numbers"] m_check_proof) (Gsums_ahead : Good P w K mg base "sums_ahead" 6 ["choices", "numbers"] m_sums_ahead) (Gfirst_least : Good P w K mg base "first_least" 6 ["fractions"] m_first_least) (Gplus : Good P w K mg base "plus" 5 ["a", "b"] m_plus) : Good P w K mg base "proves" 7 ["model", "policy", "gain", "numbers"] m_proves :=
  (D.good (N := ["model", "policy", "gain", "numbers", "choices", "at", "number", "sums", "least"]) scm_proves fun f cdv A outer s H E hr =>
  (dss_cons (ds_drop (dc (takes_of rfl rfl rfl rfl) Gcheck_proof (hr.mono (by decide)) rfl rfl ((aCons_len (aCons_len (aCons_len (aCons_len aNil_len))))) (da_cons (de_var (pv 0)) (da_cons (de_var (pv 1)) (da_cons (de_var (pv 2)) (da_cons (de_var (pv 3)) da_nil))))))
  (dss_cons (ds_for (ps_for (passes_of rfl) rfl (di_zip3 (pi_zpB3 rfl T.b_zip (da_cons (de_var (pv 0)) (da_cons (de_var (pv 1)) (da_cons (de_var (pv 3)) da_nil))))) (dgT rfl (dgsC (dg_n (pg_name (i := 4) scm_proves.nd rfl (by first | exact .inl rfl | exact .inr rfl))) (dgsC (dg_n (pg_name (i := 5) scm_proves.nd rfl (by first | exact .inl rfl | exact .inr rfl))) (dgsC (dg_n (pg_name (i := 6) scm_proves.nd rfl (by first | exact .inl rfl | exact .inr rfl))) dgs_nil (fun a b => pgs_cons a b)) (fun a b => pgs_cons a b)) (fun a b => pgs_cons a b)) (fun a => pg_tup rfl a) (fun a => pg_lst rfl a))
    (dss_cons (ds_set (ps_set (i := 7) scm_proves.nd rfl (by first | exact .inl rfl | exact .inr rfl) (dc (takes_of rfl rfl rfl rfl) Gsums_ahead (hr.mono (by decide)) rfl rfl ((aCons_len (aCons_len aNil_len))) (da_cons (de_var (pv 4)) (da_cons (de_var (pv 3)) da_nil)))))
    (dss_cons (ds_set (ps_set (i := 8) scm_proves.nd rfl (by first | exact .inl rfl | exact .inr rfl) (de_ix ix_seq opd_ix (de_var (pv 7)) (dc (takes_of rfl rfl rfl rfl) Gfirst_least (hr.mono (by decide)) rfl rfl ((aCons_len aNil_len)) (da_cons (de_var (pv 7)) da_nil)) (fun _ _ => rfl))))
    (dss_one (ds_if (PW.pt (dw_or (dt_cmp (op_neA (hu_of64 hr)) opd_eqA (dc (takes_of rfl rfl rfl rfl) Gplus (hr.mono (by decide)) rfl rfl ((aCons_len (aCons_len aNil_len))) (da_cons (de_var (pv 6)) (da_cons (de_var (pv 2)) da_nil))) (de_var (pv 8)) rfl) (dw_or1 (dt_cmp (op_neA (hu_of64 hr)) opd_eqA (de_ix ix_seq opd_ix (de_var (pv 7)) (de_var (pv 5)) (fun _ _ => rfl)) (de_var (pv 8)) rfl))))
      (dss_one (ds_ret de_bl))
      dss_nil))))))
  (dss_one (ds_ret de_bl)))))
abbrev sm_law_inner : Stmt := topS 50
theorem scm_law_inner : FnScope ["row", "spot", "low"] ["row", "spot"] (defScope sm_law_inner) := ⟨rfl, rfl, rfl, by decide +kernel, rfl, by decide +kernel, by decide +kernel⟩
theorem goodm_law_inner (T : Tx P w K mg) (D : DefAt K mg "_law_inner" "_law_inner" sm_law_inner ["row", "spot"]) (G_law_red : ∀ n, Good P w K mg base "_law_red" (2 + n) ["n", "d"] (m_law_red n)) (G_law_take : Good P w K mg base "_law_take" 2 ["row", "spot", "limit"] m_law_take) : Good P w K mg base "_law_inner" 27 ["row", "spot"] m_law_inner :=
  (D.good (N := ["row", "spot", "low"]) scm_law_inner fun f cdv A outer s H E hr =>
  (dss_cons (ds_set (ps_set (i := 2) scm_law_inner.nd rfl (by first | exact .inl rfl | exact .inr rfl) (de_op op_addA opd_add de_int (dc (takes_of rfl rfl rfl rfl) G_law_take (hr.mono (by decide)) rfl rfl ((aCons_len (aCons_len (aCons_len aNil_len)))) (da_cons (de_var (pv 0)) (da_cons (de_var (pv 1)) (da_cons de_int da_nil)))))))
  (dss_one (ds_ret (dc (takes_of rfl rfl rfl rfl) (G_law_red 24) (hr.mono (by decide)) rfl rfl ((aCons_len (aCons_len aNil_len))) (da_cons (de_op op_addA opd_add de_int (dc (takes_of rfl rfl rfl rfl) G_law_take (hr.mono (by decide)) rfl rfl ((aCons_len (aCons_len (aCons_len aNil_len)))) (da_cons (de_var (pv 0)) (da_cons (de_var (pv 1)) (da_cons (de_op op_sub opd_sub (de_var (pv 2)) de_int) da_nil))))) (da_cons (de_var (pv 2)) da_nil)))))))
abbrev sm_law_listed : Stmt := topS 40
theorem scm_law_listed : FnScope ["value", "one"] ["value"] (defScope sm_law_listed) := ⟨rfl, rfl, rfl, by decide +kernel, rfl, by decide +kernel, by decide +kernel⟩
theorem goodm_law_listed (T : Tx P w K mg) (D : DefAt K mg "_law_listed" "_law_listed" sm_law_listed ["value"])  : ∀ n, Good P w K mg base "_law_listed" (1 + n) ["value"] (m_law_listed n)
  | 0 => (D.none scm_law_listed).mono (by omega)
  | n + 1 => have G := goodm_law_listed T D  n
  (D.good (N := ["value", "one"]) scm_law_listed fun f cdv A outer s H E hr =>
  (dss_cons (ds_if (dt_tru (de_cb (pe_callB call_isi rfl T.b_isinstance (by decide +kernel) (da_cons (de_var (pv 0)) (da_cons (de_bty rfl T.b_tuple (by decide +kernel)) da_nil))) cd_is))
    (dss_one (ds_ret (de_lc (by decide) (pe_lc (own := [("one", 1)]) rfl scm_law_listed.nd (di_seq (de_var (pv 0))) (blkOk_by (N := ["value", "one"]) (sc := (defScope sm_law_listed)) (by decide +kernel)) (fun _ _ _ _ _ => (dg_n (pg_name (i := 1) scm_law_listed.nd rfl (by first | exact .inl rfl | exact .inr rfl)))) (fun _ _ _ _ _ => dts_nil) (fun _ _ _ _ _ => (dc takes0 G (hr.mono (by first | omega | (simp only [Nat.add_eq]; omega))) rfl rfl ((aCons_len aNil_len)) (da_cons (de_var (pv 1)) da_nil)))))))
    dss_nil)
  (dss_one (ds_ret (de_var (pv 0))))))
abbrev sm_law_handed : Stmt := topS 41
theorem scm_law_handed : FnScope ["row", "spot", "value"] ["row", "spot", "value"] (defScope sm_law_handed) := ⟨rfl, rfl, rfl, by decide +kernel, rfl, by decide +kernel, by decide +kernel⟩
theorem goodm_law_handed (T : Tx P w K mg) (D : DefAt K mg "_law_handed" "_law_handed" sm_law_handed ["row", "spot", "value"]) (G_law_listed : ∀ n, Good P w K mg base "_law_listed" (1 + n) ["value"] (m_law_listed n)) (G_law_take : Good P w K mg base "_law_take" 2 ["row", "spot", "limit"] m_law_take) : Good P w K mg base "_law_handed" 26 ["row", "spot", "value"] m_law_handed :=
  (D.good (N := ["row", "spot", "value"]) scm_law_handed fun f cdv A outer s H E hr =>
  (dss_one (ds_ret (de_if (dt_cmp (op_eqA (hu_of64 hr)) opd_eqA (dc (takes_of rfl rfl rfl rfl) G_law_take (hr.mono (by decide)) rfl rfl ((aCons_len (aCons_len (aCons_len aNil_len)))) (da_cons (de_var (pv 0)) (da_cons (de_var (pv 1)) (da_cons de_int da_nil)))) de_int rfl) (dc (takes_of rfl rfl rfl rfl) (G_law_listed 24) (hr.mono (by decide)) rfl rfl ((aCons_len aNil_len)) (da_cons (de_var (pv 2)) da_nil)) (de_var (pv 2))))))
abbrev sm_law : Stmt := topS 62
theorem scm_law : FnScope ["script", "row", "spot", "model", "policy", "own", "good", "by", "moved", "at", "hurt", "tries", "one", "meant"] ["script"] (defScope sm_law) := ⟨rfl, rfl, rfl, by decide +kernel, rfl, by decide +kernel, by decide +kernel⟩
theorem goodm_law {cL PL : Addr} (T : Tx P w K mg) (D : DefAtC K mg "law" "law" sm_law ["script"] cL) (TB : LawTab K mg base cL PL) (G_law_numbers : Good P w K mg base "_law_numbers" 1 ["script"] m_law_numbers) (G_law_model : Good P w K mg base "_law_model" 4 ["row", "spot", "most"] m_law_model) (G_law_policy : Good P w K mg base "_law_policy" 3 ["row", "spot", "model"] m_law_policy) (G_law_gain : Good P w K mg base "_law_gain" 29 ["model", "policy"] m_law_gain) (G_law_best : Good P w K mg base "_law_best" 32 ["model"] m_law_best) (G_law_frac : Good P w K mg base "_law_frac" 27 ["row", "spot"] m_law_frac) (G_law_take : Good P w K mg base "_law_take" 2 ["row", "spot", "limit"] m_law_take) (G_law_so : ∀ n, Good P w K mg base "_law_so" (1 + n) ["found", "meant"] (m_law_so n)) (G_law_proves : Good P w K mg base "_law_proves" 31 ["model", "policy", "rate", "nums"] m_law_proves) (Gproves : Good P w K mg base "proves" 7 ["model", "policy", "gain", "numbers"] m_proves) (G_law_add : Good P w K mg base "_law_add" 27 ["one", "other"] m_law_add) (G_law_inner : Good P w K mg base "_law_inner" 27 ["row", "spot"] m_law_inner) (G_law_handed : Good P w K mg base "_law_handed" 26 ["row", "spot", "value"] m_law_handed) : Good P w K mg base "law" 33 ["script"] m_law :=
  (D.good (N := ["script", "row", "spot", "model", "policy", "own", "good", "by", "moved", "at", "hurt", "tries", "one", "meant"]) scm_law fun f A outer s H E hr =>
  (dss_cons (ds_set (ps_set (i := 1) scm_law.nd rfl (by first | exact .inl rfl | exact .inr rfl) (dc (takes_of rfl rfl rfl rfl) G_law_numbers (hr.mono (by decide)) rfl rfl ((aCons_len aNil_len)) (da_cons (de_var (pv 0)) da_nil))))
  (dss_cons (ds_set (ps_set (i := 2) scm_law.nd rfl (by first | exact .inl rfl | exact .inr rfl) (de_cell (da_cons de_int da_nil))))
  (dss_cons (ds_set (ps_set (i := 3) scm_law.nd rfl (by first | exact .inl rfl | exact .inr rfl) (dc (takes_of rfl rfl rfl rfl) G_law_model (hr.mono (by decide)) rfl rfl ((aCons_len (aCons_len (aCons_len aNil_len)))) (da_cons (de_var (pv 1)) (da_cons (de_var (pv 2)) (da_cons de_int da_nil))))))
  (dss_cons (ds_set (ps_set (i := 4) scm_law.nd rfl (by first | exact .inl rfl | exact .inr rfl) (dc (takes_of rfl rfl rfl rfl) G_law_policy (hr.mono (by decide)) rfl rfl ((aCons_len (aCons_len (aCons_len aNil_len)))) (da_cons (de_var (pv 1)) (da_cons (de_var (pv 2)) (da_cons (de_var (pv 3)) da_nil))))))
  (dss_cons (ds_set (ps_set (i := 5) scm_law.nd rfl (by first | exact .inl rfl | exact .inr rfl) (dc (takes_of rfl rfl rfl rfl) G_law_gain (hr.mono (by decide)) rfl rfl ((aCons_len (aCons_len aNil_len))) (da_cons (de_var (pv 3)) (da_cons (de_var (pv 4)) da_nil)))))
  (dss_cons (ds_set (ps_set (i := 6) scm_law.nd rfl (by first | exact .inl rfl | exact .inr rfl) (dc (takes_of rfl rfl rfl rfl) G_law_best (hr.mono (by decide)) rfl rfl ((aCons_len aNil_len)) (da_cons (de_var (pv 3)) da_nil))))
  (dss_cons (ds_set (ps_set (i := 7) scm_law.nd rfl (by first | exact .inl rfl | exact .inr rfl) (dc (takes_of rfl rfl rfl rfl) G_law_frac (hr.mono (by decide)) rfl rfl ((aCons_len (aCons_len aNil_len))) (da_cons (de_var (pv 1)) (da_cons (de_var (pv 2)) da_nil)))))
  (dss_cons (ds_set (ps_set (i := 8) scm_law.nd rfl (by first | exact .inl rfl | exact .inr rfl) (de_cb (pe_callTy call_tuple_of rfl T.b_tuple (by decide +kernel) (da_cons (de_lc (by decide) (pe_lc (own := [("one", 12)]) rfl scm_law.nd (di_seq (de_ix ix_seq opd_ix (de_var (pv 6)) de_int (fun _ _ => rfl))) (blkOk_by (N := ["script", "row", "spot", "model", "policy", "own", "good", "by", "moved", "at", "hurt", "tries", "one", "meant"]) (sc := (defScope sm_law)) (by decide +kernel)) (fun _ _ _ _ _ => (dg_n (pg_name (i := 12) scm_law.nd rfl (by first | exact .inl rfl | exact .inr rfl)))) (fun _ _ _ _ _ => dts_nil) (fun _ _ _ _ _ => (dc takes0 G_law_add (hr.mono (by decide)) rfl rfl ((aCons_len (aCons_len aNil_len))) (da_cons (de_var (pv 12)) (da_cons (de_var (pv 7)) da_nil)))))) da_nil)) cd_tuple)))
  (dss_cons (ds_set (ps_set (i := 9) scm_law.nd rfl (by first | exact .inl rfl | exact .inr rfl) (dc (takes_of rfl rfl rfl rfl) G_law_take (hr.mono (by decide)) rfl rfl ((aCons_len (aCons_len (aCons_len aNil_len)))) (da_cons (de_var (pv 1)) (da_cons (de_var (pv 2)) (da_cons (de_cb (pe_callB call_lenA rfl T.b_len (by decide +kernel) (da_cons (de_var (pv 3)) da_nil)) cd_len) da_nil))))))
  (dss_cons (ds_set (ps_set (i := 10) scm_law.nd rfl (by first | exact .inl rfl | exact .inr rfl) (de_op op_addA opd_add (de_op op_addA opd_add (de_sl (pe_slice sl_all (de_ix ix_seq opd_ix (de_var (pv 6)) de_int (fun _ _ => rfl)) do_none (do_some (de_var (pv 9)))) sld_f) (de_tup (da_cons (dc (takes_of rfl rfl rfl rfl) G_law_add (hr.mono (by decide)) rfl rfl ((aCons_len (aCons_len aNil_len))) (da_cons (de_ix ix_seq opd_ix (de_ix ix_seq opd_ix (de_var (pv 6)) de_int (fun _ _ => rfl)) (de_var (pv 9)) (fun _ _ => rfl)) (da_cons (dc (takes_of rfl rfl rfl rfl) G_law_inner (hr.mono (by decide)) rfl rfl ((aCons_len (aCons_len aNil_len))) (da_cons (de_var (pv 1)) (da_cons (de_var (pv 2)) da_nil))) da_nil))) da_nil))) (de_sl (pe_slice sl_all (de_ix ix_seq opd_ix (de_var (pv 6)) de_int (fun _ _ => rfl)) (do_some (de_op op_addA opd_add (de_var (pv 9)) de_int)) do_none) sld_f))))
  (dss_cons (ds_set (ps_set (i := 11) scm_law.nd rfl (by first | exact .inl rfl | exact .inr rfl) (de_cell (da_cons (de_tup (da_cons (de_var (pv 4)) (da_cons (de_ix ix_seq opd_ix (de_var (pv 5)) de_int (fun _ _ => rfl)) (da_cons (de_ix ix_seq opd_ix (de_var (pv 5)) de_int (fun _ _ => rfl)) da_nil)))) (da_cons (de_tup (da_cons (de_ix ix_seq opd_ix (de_var (pv 6)) de_int (fun _ _ => rfl)) (da_cons (de_ix ix_seq opd_ix (de_var (pv 6)) de_int (fun _ _ => rfl)) (da_cons (de_ix ix_seq opd_ix (de_var (pv 6)) de_int (fun _ _ => rfl)) da_nil)))) (da_cons (de_tup (da_cons (de_var (pv 4)) (da_cons (de_ix ix_seq opd_ix (de_var (pv 6)) de_int (fun _ _ => rfl)) (da_cons (de_ix ix_seq opd_ix (de_var (pv 6)) de_int (fun _ _ => rfl)) da_nil)))) (da_cons (de_tup (da_cons (de_ix ix_seq opd_ix (de_var (pv 6)) de_int (fun _ _ => rfl)) (da_cons (de_ix ix_seq opd_ix (de_var (pv 6)) de_int (fun _ _ => rfl)) (da_cons (de_var (pv 8)) da_nil)))) da_nil)))))))
  (dss_cons (ds_set (ps_set (i := 11) scm_law.nd rfl (by first | exact .inl rfl | exact .inr rfl) (de_op op_addA opd_add (de_var (pv 11)) (de_lst (da_cons (de_tup (da_cons (de_ix ix_seq opd_ix (de_var (pv 6)) de_int (fun _ _ => rfl)) (da_cons (dc (takes_of rfl rfl rfl rfl) G_law_add (hr.mono (by decide)) rfl rfl ((aCons_len (aCons_len aNil_len))) (da_cons (de_ix ix_seq opd_ix (de_var (pv 6)) de_int (fun _ _ => rfl)) (da_cons (de_tup (da_cons de_int (da_cons de_int da_nil))) da_nil))) (da_cons (de_ix ix_seq opd_ix (de_var (pv 6)) de_int (fun _ _ => rfl)) da_nil)))) (da_cons (de_tup (da_cons (de_ix ix_seq opd_ix (de_var (pv 6)) de_int (fun _ _ => rfl)) (da_cons (de_ix ix_seq opd_ix (de_var (pv 6)) de_int (fun _ _ => rfl)) (da_cons (de_var (pv 10)) da_nil)))) da_nil))))))
  (dss_cons (ds_for (ps_for (passes_of rfl) rfl (di_seq (de_var (pv 11))) (dg_n (pg_name (i := 12) scm_law.nd rfl (by first | exact .inl rfl | exact .inr rfl)))
    (dss_cons (ds_set (ps_set (i := 13) scm_law.nd rfl (by first | exact .inl rfl | exact .inr rfl) (dc (takes_of rfl rfl rfl rfl) G_law_proves (hr.mono (by decide)) rfl rfl ((aCons_len (aCons_len (aCons_len (aCons_len aNil_len))))) (da_cons (de_var (pv 3)) (da_cons (de_ix ix_seq opd_ix (de_var (pv 12)) de_int (fun _ _ => rfl)) (da_cons (de_ix ix_seq opd_ix (de_var (pv 12)) de_int (fun _ _ => rfl)) (da_cons (de_ix ix_seq opd_ix (de_var (pv 12)) de_int (fun _ _ => rfl)) da_nil)))))))
    (dss_one (ds_if (dt_not (dt_tru (dc (takes_of rfl rfl rfl rfl) (G_law_so 24) (hr.mono (by decide)) rfl rfl ((aCons_len (aCons_len aNil_len))) (da_cons (dc (takes_of rfl rfl rfl rfl) Gproves (hr.mono (by decide)) rfl rfl ((aCons_len (aCons_len (aCons_len (aCons_len aNil_len))))) (da_cons (de_var (pv 3)) (da_cons (dc (takes_of rfl rfl rfl rfl) G_law_handed (hr.mono (by decide)) rfl rfl ((aCons_len (aCons_len (aCons_len aNil_len)))) (da_cons (de_var (pv 1)) (da_cons (de_var (pv 2)) (da_cons (de_ix ix_seq opd_ix (de_var (pv 12)) de_int (fun _ _ => rfl)) da_nil)))) (da_cons (de_ix ix_seq opd_ix (de_var (pv 12)) de_int (fun _ _ => rfl)) (da_cons (dc (takes_of rfl rfl rfl rfl) G_law_handed (hr.mono (by decide)) rfl rfl ((aCons_len (aCons_len (aCons_len aNil_len)))) (da_cons (de_var (pv 1)) (da_cons (de_var (pv 2)) (da_cons (de_ix ix_seq opd_ix (de_var (pv 12)) de_int (fun _ _ => rfl)) da_nil)))) da_nil))))) (da_cons (de_var (pv 13)) da_nil)))))
      (dss_one (ds_ret de_bl))
      dss_nil)))))
  (dss_one (ds_ret (dc (takes_of rfl rfl rfl rfl) (G_law_so 24) (hr.mono (by decide)) rfl rfl ((aCons_len (aCons_len aNil_len))) (da_cons (dc (takes_of rfl rfl rfl rfl) Gproves (hr.mono (by decide)) rfl rfl ((aCons_len (aCons_len (aCons_len (aCons_len aNil_len))))) (da_cons (de_var (pv 3)) (da_cons (de_ix ix_seq opd_ix (de_var (pv 6)) de_int (fun _ _ => rfl)) (da_cons (de_ix ix_seq opd_ix (de_var (pv 6)) de_int (fun _ _ => rfl)) (da_cons (de_var (pv 8)) da_nil))))) (da_cons de_bl da_nil)))))))))))))))))))
end
end Mp
namespace Mp
open PySem PySem.Spec PyProof.Rows L2
theorem all_mk {l : PySem.W.OpenLaw} {w : World} {K : PySem.W.Frag} {h : Heap} {mg : Str → Option Value} {fa cL PL f1 f2 f3 f4 f5 f6 f7 f8 f9 f10 f11 f12 f13 f14 f15 f16 f17 f18 f19 f20 f21 f22 f23 f24 f25 f26 f27 f28 f29 f30 f31 f32 f33 f34 f35 f36 f37 f38 f39 f40 f41 f42 f43 f44 f45 f46 f47 f48 f49 : Addr} (X : K.In h) (G : h.Ns mainGlobals mg) (hfa : mg "law" = some (.ref fa))
    {od1 an1 od2 an2 od3 an3 od4 an4 od5 an5 od6 an6 od7 an7 od8 an8 od9 an9 od10 an10 od11 an11 od12 an12 od13 an13 od14 an14 od15 an15 od16 an16 od17 an17 od18 an18 od19 an19 od20 an20 od21 an21 od22 an22 od23 an23 od24 an24 od25 an25 od26 an26 od27 an27 od28 an28 od29 an29 od30 an30 od31 an31 od32 an32 od33 an33 od34 an34 od35 an35 od36 an36 od37 an37 od38 an38 od39 an39 od40 an40 od41 an41 od42 an42 od43 an43 od44 an44 od45 an45 od46 an46 od47 an47 od48 an48 od49 an49 odL : Option Addr} {sl1 sl2 sl3 sl4 sl5 sl6 sl7 sl8 sl9 sl10 sl11 sl12 sl13 sl14 sl15 sl16 sl17 sl18 sl19 sl20 sl21 sl22 sl23 sl24 sl25 sl26 sl27 sl28 sl29 sl30 sl31 sl32 sl33 sl34 sl35 sl36 sl37 sl38 sl39 sl40 sl41 sl42 sl43 sl44 sl45 sl46 sl47 sl48 sl49 slL : Array (Option Value)} {oc1 kV1 dc1 pm1 ct1 oc2 kV2 dc2 pm2 ct2 oc3 kV3 dc3 pm3 ct3 oc4 kV4 dc4 pm4 ct4 oc5 kV5 dc5 pm5 ct5 oc6 kV6 dc6 pm6 ct6 oc7 kV7 dc7 pm7 ct7 oc8 kV8 dc8 pm8 ct8 oc9 kV9 dc9 pm9 ct9 oc10 kV10 dc10 pm10 ct10 oc11 kV11 dc11 pm11 ct11 oc12 kV12 dc12 pm12 ct12 oc13 kV13 dc13 pm13 ct13 oc14 kV14 dc14 pm14 ct14 oc15 kV15 dc15 pm15 ct15 oc16 kV16 dc16 pm16 ct16 oc17 kV17 dc17 pm17 ct17 oc18 kV18 dc18 pm18 ct18 oc19 kV19 dc19 pm19 ct19 oc20 kV20 dc20 pm20 ct20 oc21 kV21 dc21 pm21 ct21 oc22 kV22 dc22 pm22 ct22 oc23 kV23 dc23 pm23 ct23 oc24 kV24 dc24 pm24 ct24 oc25 kV25 dc25 pm25 ct25 oc26 kV26 dc26 pm26 ct26 oc27 kV27 dc27 pm27 ct27 oc28 kV28 dc28 pm28 ct28 oc29 kV29 dc29 pm29 ct29 oc30 kV30 dc30 pm30 ct30 oc31 kV31 dc31 pm31 ct31 oc32 kV32 dc32 pm32 ct32 oc33 kV33 dc33 pm33 ct33 oc34 kV34 dc34 pm34 ct34 oc35 kV35 dc35 pm35 ct35 oc36 kV36 dc36 pm36 ct36 oc37 kV37 dc37 pm37 ct37 oc38 kV38 dc38 pm38 ct38 oc39 kV39 dc39 pm39 ct39 oc40 kV40 dc40 pm40 ct40 oc41 kV41 dc41 pm41 ct41 oc42 kV42 dc42 pm42 ct42 oc43 kV43 dc43 pm43 ct43 oc44 kV44 dc44 pm44 ct44 oc45 kV45 dc45 pm45 ct45 oc46 kV46 dc46 pm46 ct46 oc47 kV47 dc47 pm47 ct47 oc48 kV48 dc48 pm48 ct48 oc49 kV49 dc49 pm49 ct49 cd1 cd2 cd3 cd4 cd5 cd6 cd7 cd8 cd9 cd10 cd11 cd12 cd13 cd14 cd15 cd16 cd17 cd18 cd19 cd20 cd21 cd22 cd23 cd24 cd25 cd26 cd27 cd28 cd29 cd30 cd31 cd32 cd33 cd34 cd35 cd36 cd37 cd38 cd39 cd40 cd41 cd42 cd43 cd44 cd45 cd46 cd47 cd48 ocL : Value} {vsL : Array Value} {t_MOST_COST : Tok} {t_MOST_WEIGHT : Tok} {t_MOST_CHOICES : Tok} {t_MOST_STATES : Tok} {Cx_BadValue : Addr} {fx_BadValue Nx_BadValue : Addr} {nmx_BadValue qx_BadValue : Str} {bsx_BadValue mrx_BadValue sbx_BadValue : List Value} {snx_BadValue : List Str} {abx_BadValue : Bool} {colx_BadValue : Option Bool} {ddx_BadValue odx_BadValue anx_BadValue : Option Addr} {k0x_BadValue k1x_BadValue k2x_BadValue k3x_BadValue k5x_BadValue : Option Value} {ocx_BadValue kVx_BadValue dcx_BadValue pmx_BadValue cdx_BadValue ctx_BadValue : Value} {slx_BadValue : Array (Option Value)}
    (a1 : PySem.W.nsIn K mainGlobals "_law_numbers" = some (some (.ref f1))) (l1 : K.lookup f1 = some ⟨oc1, od1, .func (PySem.W.fnOf "_law_numbers" "_law_numbers" (defArgs sm_law_numbers) (defBody sm_law_numbers) (defScope sm_law_numbers) .none kV1 dc1 pm1 an1 cd1 ct1), sl1⟩) (c1 : PySem.W.codeIn K cd1 "_law_numbers" = true) (k1 : PySem.W.keepIn K (.ref f1) = true)
    (a2 : PySem.W.nsIn K mainGlobals "_law_draw" = some (some (.ref f2))) (l2 : K.lookup f2 = some ⟨oc2, od2, .func (PySem.W.fnOf "_law_draw" "_law_draw" (defArgs sm_law_draw) (defBody sm_law_draw) (defScope sm_law_draw) .none kV2 dc2 pm2 an2 cd2 ct2), sl2⟩) (c2 : PySem.W.codeIn K cd2 "_law_draw" = true) (k2 : PySem.W.keepIn K (.ref f2) = true)
    (a3 : PySem.W.nsIn K mainGlobals "_law_take" = some (some (.ref f3))) (l3 : K.lookup f3 = some ⟨oc3, od3, .func (PySem.W.fnOf "_law_take" "_law_take" (defArgs sm_law_take) (defBody sm_law_take) (defScope sm_law_take) .none kV3 dc3 pm3 an3 cd3 ct3), sl3⟩) (c3 : PySem.W.codeIn K cd3 "_law_take" = true) (k3 : PySem.W.keepIn K (.ref f3) = true)
    (a4 : PySem.W.nsIn K mainGlobals "_law_pick" = some (some (.ref f4))) (l4 : K.lookup f4 = some ⟨oc4, od4, .func (PySem.W.fnOf "_law_pick" "_law_pick" (defArgs sm_law_pick) (defBody sm_law_pick) (defScope sm_law_pick) .none kV4 dc4 pm4 an4 cd4 ct4), sl4⟩) (c4 : PySem.W.codeIn K cd4 "_law_pick" = true) (k4 : PySem.W.keepIn K (.ref f4) = true)
    (a5 : PySem.W.nsIn K mainGlobals "_law_model" = some (some (.ref f5))) (l5 : K.lookup f5 = some ⟨oc5, od5, .func (PySem.W.fnOf "_law_model" "_law_model" (defArgs sm_law_model) (defBody sm_law_model) (defScope sm_law_model) .none kV5 dc5 pm5 an5 cd5 ct5), sl5⟩) (c5 : PySem.W.codeIn K cd5 "_law_model" = true) (k5 : PySem.W.keepIn K (.ref f5) = true)
    (a6 : PySem.W.nsIn K mainGlobals "_law_policy" = some (some (.ref f6))) (l6 : K.lookup f6 = some ⟨oc6, od6, .func (PySem.W.fnOf "_law_policy" "_law_policy" (defArgs sm_law_policy) (defBody sm_law_policy) (defScope sm_law_policy) .none kV6 dc6 pm6 an6 cd6 ct6), sl6⟩) (c6 : PySem.W.codeIn K cd6 "_law_policy" = true) (k6 : PySem.W.keepIn K (.ref f6) = true)
    (a7 : PySem.W.nsIn K mainGlobals "_law_gcd" = some (some (.ref f7))) (l7 : K.lookup f7 = some ⟨oc7, od7, .func (PySem.W.fnOf "_law_gcd" "_law_gcd" (defArgs sm_law_gcd) (defBody sm_law_gcd) (defScope sm_law_gcd) .none kV7 dc7 pm7 an7 cd7 ct7), sl7⟩) (c7 : PySem.W.codeIn K cd7 "_law_gcd" = true) (k7 : PySem.W.keepIn K (.ref f7) = true)
    (a8 : PySem.W.nsIn K mainGlobals "_law_red" = some (some (.ref f8))) (l8 : K.lookup f8 = some ⟨oc8, od8, .func (PySem.W.fnOf "_law_red" "_law_red" (defArgs sm_law_red) (defBody sm_law_red) (defScope sm_law_red) .none kV8 dc8 pm8 an8 cd8 ct8), sl8⟩) (c8 : PySem.W.codeIn K cd8 "_law_red" = true) (k8 : PySem.W.keepIn K (.ref f8) = true)
    (a9 : PySem.W.nsIn K mainGlobals "_law_div" = some (some (.ref f9))) (l9 : K.lookup f9 = some ⟨oc9, od9, .func (PySem.W.fnOf "_law_div" "_law_div" (defArgs sm_law_div) (defBody sm_law_div) (defScope sm_law_div) .none kV9 dc9 pm9 an9 cd9 ct9), sl9⟩) (c9 : PySem.W.codeIn K cd9 "_law_div" = true) (k9 : PySem.W.keepIn K (.ref f9) = true)
    (a10 : PySem.W.nsIn K mainGlobals "_law_sub" = some (some (.ref f10))) (l10 : K.lookup f10 = some ⟨oc10, od10, .func (PySem.W.fnOf "_law_sub" "_law_sub" (defArgs sm_law_sub) (defBody sm_law_sub) (defScope sm_law_sub) .none kV10 dc10 pm10 an10 cd10 ct10), sl10⟩) (c10 : PySem.W.codeIn K cd10 "_law_sub" = true) (k10 : PySem.W.keepIn K (.ref f10) = true)
    (a11 : PySem.W.nsIn K mainGlobals "_law_mul" = some (some (.ref f11))) (l11 : K.lookup f11 = some ⟨oc11, od11, .func (PySem.W.fnOf "_law_mul" "_law_mul" (defArgs sm_law_mul) (defBody sm_law_mul) (defScope sm_law_mul) .none kV11 dc11 pm11 an11 cd11 ct11), sl11⟩) (c11 : PySem.W.codeIn K cd11 "_law_mul" = true) (k11 : PySem.W.keepIn K (.ref f11) = true)
    (a12 : PySem.W.nsIn K mainGlobals "_law_solve" = some (some (.ref f12))) (l12 : K.lookup f12 = some ⟨oc12, od12, .func (PySem.W.fnOf "_law_solve" "_law_solve" (defArgs sm_law_solve) (defBody sm_law_solve) (defScope sm_law_solve) .none kV12 dc12 pm12 an12 cd12 ct12), sl12⟩) (c12 : PySem.W.codeIn K cd12 "_law_solve" = true) (k12 : PySem.W.keepIn K (.ref f12) = true)
    (a13 : PySem.W.nsIn K mainGlobals "_law_gain" = some (some (.ref f13))) (l13 : K.lookup f13 = some ⟨oc13, od13, .func (PySem.W.fnOf "_law_gain" "_law_gain" (defArgs sm_law_gain) (defBody sm_law_gain) (defScope sm_law_gain) .none kV13 dc13 pm13 an13 cd13 ct13), sl13⟩) (c13 : PySem.W.codeIn K cd13 "_law_gain" = true) (k13 : PySem.W.keepIn K (.ref f13) = true)
    (a14 : PySem.W.nsIn K mainGlobals "_law_policies" = some (some (.ref f14))) (l14 : K.lookup f14 = some ⟨oc14, od14, .func (PySem.W.fnOf "_law_policies" "_law_policies" (defArgs sm_law_policies) (defBody sm_law_policies) (defScope sm_law_policies) .none kV14 dc14 pm14 an14 cd14 ct14), sl14⟩) (c14 : PySem.W.codeIn K cd14 "_law_policies" = true) (k14 : PySem.W.keepIn K (.ref f14) = true)
    (a15 : PySem.W.nsIn K mainGlobals "_law_less" = some (some (.ref f15))) (l15 : K.lookup f15 = some ⟨oc15, od15, .func (PySem.W.fnOf "_law_less" "_law_less" (defArgs sm_law_less) (defBody sm_law_less) (defScope sm_law_less) .none kV15 dc15 pm15 an15 cd15 ct15), sl15⟩) (c15 : PySem.W.codeIn K cd15 "_law_less" = true) (k15 : PySem.W.keepIn K (.ref f15) = true)
    (a16 : PySem.W.nsIn K mainGlobals "_law_add" = some (some (.ref f16))) (l16 : K.lookup f16 = some ⟨oc16, od16, .func (PySem.W.fnOf "_law_add" "_law_add" (defArgs sm_law_add) (defBody sm_law_add) (defScope sm_law_add) .none kV16 dc16 pm16 an16 cd16 ct16), sl16⟩) (c16 : PySem.W.codeIn K cd16 "_law_add" = true) (k16 : PySem.W.keepIn K (.ref f16) = true)
    (a17 : PySem.W.nsIn K mainGlobals "_law_mean" = some (some (.ref f17))) (l17 : K.lookup f17 = some ⟨oc17, od17, .func (PySem.W.fnOf "_law_mean" "_law_mean" (defArgs sm_law_mean) (defBody sm_law_mean) (defScope sm_law_mean) .none kV17 dc17 pm17 an17 cd17 ct17), sl17⟩) (c17 : PySem.W.codeIn K cd17 "_law_mean" = true) (k17 : PySem.W.keepIn K (.ref f17) = true)
    (a18 : PySem.W.nsIn K mainGlobals "_law_value" = some (some (.ref f18))) (l18 : K.lookup f18 = some ⟨oc18, od18, .func (PySem.W.fnOf "_law_value" "_law_value" (defArgs sm_law_value) (defBody sm_law_value) (defScope sm_law_value) .none kV18 dc18 pm18 an18 cd18 ct18), sl18⟩) (c18 : PySem.W.codeIn K cd18 "_law_value" = true) (k18 : PySem.W.keepIn K (.ref f18) = true)
    (a19 : PySem.W.nsIn K mainGlobals "_law_firsts" = some (some (.ref f19))) (l19 : K.lookup f19 = some ⟨oc19, od19, .func (PySem.W.fnOf "_law_firsts" "_law_firsts" (defArgs sm_law_firsts) (defBody sm_law_firsts) (defScope sm_law_firsts) .none kV19 dc19 pm19 an19 cd19 ct19), sl19⟩) (c19 : PySem.W.codeIn K cd19 "_law_firsts" = true) (k19 : PySem.W.keepIn K (.ref f19) = true)
    (a20 : PySem.W.nsIn K mainGlobals "_law_proves" = some (some (.ref f20))) (l20 : K.lookup f20 = some ⟨oc20, od20, .func (PySem.W.fnOf "_law_proves" "_law_proves" (defArgs sm_law_proves) (defBody sm_law_proves) (defScope sm_law_proves) .none kV20 dc20 pm20 an20 cd20 ct20), sl20⟩) (c20 : PySem.W.codeIn K cd20 "_law_proves" = true) (k20 : PySem.W.keepIn K (.ref f20) = true)
    (a21 : PySem.W.nsIn K mainGlobals "_law_best" = some (some (.ref f21))) (l21 : K.lookup f21 = some ⟨oc21, od21, .func (PySem.W.fnOf "_law_best" "_law_best" (defArgs sm_law_best) (defBody sm_law_best) (defScope sm_law_best) .none kV21 dc21 pm21 an21 cd21 ct21), sl21⟩) (c21 : PySem.W.codeIn K cd21 "_law_best" = true) (k21 : PySem.W.keepIn K (.ref f21) = true)
    (a22 : PySem.W.nsIn K mainGlobals "_law_wide" = some (some (.ref f22))) (l22 : K.lookup f22 = some ⟨oc22, od22, .func (PySem.W.fnOf "_law_wide" "_law_wide" (defArgs sm_law_wide) (defBody sm_law_wide) (defScope sm_law_wide) .none kV22 dc22 pm22 an22 cd22 ct22), sl22⟩) (c22 : PySem.W.codeIn K cd22 "_law_wide" = true) (k22 : PySem.W.keepIn K (.ref f22) = true)
    (a23 : PySem.W.nsIn K mainGlobals "_law_frac" = some (some (.ref f23))) (l23 : K.lookup f23 = some ⟨oc23, od23, .func (PySem.W.fnOf "_law_frac" "_law_frac" (defArgs sm_law_frac) (defBody sm_law_frac) (defScope sm_law_frac) .none kV23 dc23 pm23 an23 cd23 ct23), sl23⟩) (c23 : PySem.W.codeIn K cd23 "_law_frac" = true) (k23 : PySem.W.keepIn K (.ref f23) = true)
    (a24 : PySem.W.nsIn K mainGlobals "_law_so" = some (some (.ref f24))) (l24 : K.lookup f24 = some ⟨oc24, od24, .func (PySem.W.fnOf "_law_so" "_law_so" (defArgs sm_law_so) (defBody sm_law_so) (defScope sm_law_so) .none kV24 dc24 pm24 an24 cd24 ct24), sl24⟩) (c24 : PySem.W.codeIn K cd24 "_law_so" = true) (k24 : PySem.W.keepIn K (.ref f24) = true)
    (a25 : PySem.W.nsIn K mainGlobals "is_sequence" = some (some (.ref f25))) (l25 : K.lookup f25 = some ⟨oc25, od25, .func (PySem.W.fnOf "is_sequence" "is_sequence" (defArgs sm_is_sequence) (defBody sm_is_sequence) (defScope sm_is_sequence) .none kV25 dc25 pm25 an25 cd25 ct25), sl25⟩) (c25 : PySem.W.codeIn K cd25 "is_sequence" = true) (k25 : PySem.W.keepIn K (.ref f25) = true)
    (a26 : PySem.W.nsIn K mainGlobals "is_row" = some (some (.ref f26))) (l26 : K.lookup f26 = some ⟨oc26, od26, .func (PySem.W.fnOf "is_row" "is_row" (defArgs sm_is_row) (defBody sm_is_row) (defScope sm_is_row) .none kV26 dc26 pm26 an26 cd26 ct26), sl26⟩) (c26 : PySem.W.codeIn K cd26 "is_row" = true) (k26 : PySem.W.keepIn K (.ref f26) = true)
    (a27 : PySem.W.nsIn K mainGlobals "is_integer" = some (some (.ref f27))) (l27 : K.lookup f27 = some ⟨oc27, od27, .func (PySem.W.fnOf "is_integer" "is_integer" (defArgs sm_is_integer) (defBody sm_is_integer) (defScope sm_is_integer) .none kV27 dc27 pm27 an27 cd27 ct27), sl27⟩) (c27 : PySem.W.codeIn K cd27 "is_integer" = true) (k27 : PySem.W.keepIn K (.ref f27) = true)
    (a28 : PySem.W.nsIn K mainGlobals "is_within" = some (some (.ref f28))) (l28 : K.lookup f28 = some ⟨oc28, od28, .func (PySem.W.fnOf "is_within" "is_within" (defArgs sm_is_within) (defBody sm_is_within) (defScope sm_is_within) .none kV28 dc28 pm28 an28 cd28 ct28), sl28⟩) (c28 : PySem.W.codeIn K cd28 "is_within" = true) (k28 : PySem.W.keepIn K (.ref f28) = true)
    (a29 : PySem.W.nsIn K mainGlobals "is_choice" = some (some (.ref f29))) (l29 : K.lookup f29 = some ⟨oc29, od29, .func (PySem.W.fnOf "is_choice" "is_choice" (defArgs sm_is_choice) (defBody sm_is_choice) (defScope sm_is_choice) .none kV29 dc29 pm29 an29 cd29 ct29), sl29⟩) (c29 : PySem.W.codeIn K cd29 "is_choice" = true) (k29 : PySem.W.keepIn K (.ref f29) = true)
    (a30 : PySem.W.nsIn K mainGlobals "is_state" = some (some (.ref f30))) (l30 : K.lookup f30 = some ⟨oc30, od30, .func (PySem.W.fnOf "is_state" "is_state" (defArgs sm_is_state) (defBody sm_is_state) (defScope sm_is_state) .none kV30 dc30 pm30 an30 cd30 ct30), sl30⟩) (c30 : PySem.W.codeIn K cd30 "is_state" = true) (k30 : PySem.W.keepIn K (.ref f30) = true)
    (a31 : PySem.W.nsIn K mainGlobals "is_model" = some (some (.ref f31))) (l31 : K.lookup f31 = some ⟨oc31, od31, .func (PySem.W.fnOf "is_model" "is_model" (defArgs sm_is_model) (defBody sm_is_model) (defScope sm_is_model) .none kV31 dc31 pm31 an31 cd31 ct31), sl31⟩) (c31 : PySem.W.codeIn K cd31 "is_model" = true) (k31 : PySem.W.keepIn K (.ref f31) = true)
    (a32 : PySem.W.nsIn K mainGlobals "is_policy" = some (some (.ref f32))) (l32 : K.lookup f32 = some ⟨oc32, od32, .func (PySem.W.fnOf "is_policy" "is_policy" (defArgs sm_is_policy) (defBody sm_is_policy) (defScope sm_is_policy) .none kV32 dc32 pm32 an32 cd32 ct32), sl32⟩) (c32 : PySem.W.codeIn K cd32 "is_policy" = true) (k32 : PySem.W.keepIn K (.ref f32) = true)
    (a33 : PySem.W.nsIn K mainGlobals "is_fraction" = some (some (.ref f33))) (l33 : K.lookup f33 = some ⟨oc33, od33, .func (PySem.W.fnOf "is_fraction" "is_fraction" (defArgs sm_is_fraction) (defBody sm_is_fraction) (defScope sm_is_fraction) .none kV33 dc33 pm33 an33 cd33 ct33), sl33⟩) (c33 : PySem.W.codeIn K cd33 "is_fraction" = true) (k33 : PySem.W.keepIn K (.ref f33) = true)
    (a34 : PySem.W.nsIn K mainGlobals "fits" = some (some (.ref f34))) (l34 : K.lookup f34 = some ⟨oc34, od34, .func (PySem.W.fnOf "fits" "fits" (defArgs sm_fits) (defBody sm_fits) (defScope sm_fits) .none kV34 dc34 pm34 an34 cd34 ct34), sl34⟩) (c34 : PySem.W.codeIn K cd34 "fits" = true) (k34 : PySem.W.keepIn K (.ref f34) = true)
    (a35 : PySem.W.nsIn K mainGlobals "check_proof" = some (some (.ref f35))) (l35 : K.lookup f35 = some ⟨oc35, od35, .func (PySem.W.fnOf "check_proof" "check_proof" (defArgs sm_check_proof) (defBody sm_check_proof) (defScope sm_check_proof) .none kV35 dc35 pm35 an35 cd35 ct35), sl35⟩) (c35 : PySem.W.codeIn K cd35 "check_proof" = true) (k35 : PySem.W.keepIn K (.ref f35) = true)
    (a36 : PySem.W.nsIn K mainGlobals "_look" = some (some (.ref f36))) (l36 : K.lookup f36 = some ⟨oc36, od36, .func (PySem.W.fnOf "_look" "_look" (defArgs sm_look) (defBody sm_look) (defScope sm_look) .none kV36 dc36 pm36 an36 cd36 ct36), sl36⟩) (c36 : PySem.W.codeIn K cd36 "_look" = true) (k36 : PySem.W.keepIn K (.ref f36) = true)
    (a37 : PySem.W.nsIn K mainGlobals "lowest" = some (some (.ref f37))) (l37 : K.lookup f37 = some ⟨oc37, od37, .func (PySem.W.fnOf "lowest" "lowest" (defArgs sm_lowest) (defBody sm_lowest) (defScope sm_lowest) .none kV37 dc37 pm37 an37 cd37 ct37), sl37⟩) (c37 : PySem.W.codeIn K cd37 "lowest" = true) (k37 : PySem.W.keepIn K (.ref f37) = true)
    (a38 : PySem.W.nsIn K mainGlobals "plus" = some (some (.ref f38))) (l38 : K.lookup f38 = some ⟨oc38, od38, .func (PySem.W.fnOf "plus" "plus" (defArgs sm_plus) (defBody sm_plus) (defScope sm_plus) .none kV38 dc38 pm38 an38 cd38 ct38), sl38⟩) (c38 : PySem.W.codeIn K cd38 "plus" = true) (k38 : PySem.W.keepIn K (.ref f38) = true)
    (a39 : PySem.W.nsIn K mainGlobals "common_bottom" = some (some (.ref f39))) (l39 : K.lookup f39 = some ⟨oc39, od39, .func (PySem.W.fnOf "common_bottom" "common_bottom" (defArgs sm_common_bottom) (defBody sm_common_bottom) (defScope sm_common_bottom) .none kV39 dc39 pm39 an39 cd39 ct39), sl39⟩) (c39 : PySem.W.codeIn K cd39 "common_bottom" = true) (k39 : PySem.W.keepIn K (.ref f39) = true)
    (a40 : PySem.W.nsIn K mainGlobals "reduced" = some (some (.ref f40))) (l40 : K.lookup f40 = some ⟨oc40, od40, .func (PySem.W.fnOf "reduced" "reduced" (defArgs sm_reduced) (defBody sm_reduced) (defScope sm_reduced) .none kV40 dc40 pm40 an40 cd40 ct40), sl40⟩) (c40 : PySem.W.codeIn K cd40 "reduced" = true) (k40 : PySem.W.keepIn K (.ref f40) = true)
    (a41 : PySem.W.nsIn K mainGlobals "mean" = some (some (.ref f41))) (l41 : K.lookup f41 = some ⟨oc41, od41, .func (PySem.W.fnOf "mean" "mean" (defArgs sm_mean) (defBody sm_mean) (defScope sm_mean) .none kV41 dc41 pm41 an41 cd41 ct41), sl41⟩) (c41 : PySem.W.codeIn K cd41 "mean" = true) (k41 : PySem.W.keepIn K (.ref f41) = true)
    (a42 : PySem.W.nsIn K mainGlobals "sums_ahead" = some (some (.ref f42))) (l42 : K.lookup f42 = some ⟨oc42, od42, .func (PySem.W.fnOf "sums_ahead" "sums_ahead" (defArgs sm_sums_ahead) (defBody sm_sums_ahead) (defScope sm_sums_ahead) .none kV42 dc42 pm42 an42 cd42 ct42), sl42⟩) (c42 : PySem.W.codeIn K cd42 "sums_ahead" = true) (k42 : PySem.W.keepIn K (.ref f42) = true)
    (a43 : PySem.W.nsIn K mainGlobals "less" = some (some (.ref f43))) (l43 : K.lookup f43 = some ⟨oc43, od43, .func (PySem.W.fnOf "less" "less" (defArgs sm_less) (defBody sm_less) (defScope sm_less) .none kV43 dc43 pm43 an43 cd43 ct43), sl43⟩) (c43 : PySem.W.codeIn K cd43 "less" = true) (k43 : PySem.W.keepIn K (.ref f43) = true)
    (a44 : PySem.W.nsIn K mainGlobals "first_least" = some (some (.ref f44))) (l44 : K.lookup f44 = some ⟨oc44, od44, .func (PySem.W.fnOf "first_least" "first_least" (defArgs sm_first_least) (defBody sm_first_least) (defScope sm_first_least) .none kV44 dc44 pm44 an44 cd44 ct44), sl44⟩) (c44 : PySem.W.codeIn K cd44 "first_least" = true) (k44 : PySem.W.keepIn K (.ref f44) = true)
    (a45 : PySem.W.nsIn K mainGlobals "proves" = some (some (.ref f45))) (l45 : K.lookup f45 = some ⟨oc45, od45, .func (PySem.W.fnOf "proves" "proves" (defArgs sm_proves) (defBody sm_proves) (defScope sm_proves) .none kV45 dc45 pm45 an45 cd45 ct45), sl45⟩) (c45 : PySem.W.codeIn K cd45 "proves" = true) (k45 : PySem.W.keepIn K (.ref f45) = true)
    (a46 : PySem.W.nsIn K mainGlobals "_law_inner" = some (some (.ref f46))) (l46 : K.lookup f46 = some ⟨oc46, od46, .func (PySem.W.fnOf "_law_inner" "_law_inner" (defArgs sm_law_inner) (defBody sm_law_inner) (defScope sm_law_inner) .none kV46 dc46 pm46 an46 cd46 ct46), sl46⟩) (c46 : PySem.W.codeIn K cd46 "_law_inner" = true) (k46 : PySem.W.keepIn K (.ref f46) = true)
    (a47 : PySem.W.nsIn K mainGlobals "_law_listed" = some (some (.ref f47))) (l47 : K.lookup f47 = some ⟨oc47, od47, .func (PySem.W.fnOf "_law_listed" "_law_listed" (defArgs sm_law_listed) (defBody sm_law_listed) (defScope sm_law_listed) .none kV47 dc47 pm47 an47 cd47 ct47), sl47⟩) (c47 : PySem.W.codeIn K cd47 "_law_listed" = true) (k47 : PySem.W.keepIn K (.ref f47) = true)
    (a48 : PySem.W.nsIn K mainGlobals "_law_handed" = some (some (.ref f48))) (l48 : K.lookup f48 = some ⟨oc48, od48, .func (PySem.W.fnOf "_law_handed" "_law_handed" (defArgs sm_law_handed) (defBody sm_law_handed) (defScope sm_law_handed) .none kV48 dc48 pm48 an48 cd48 ct48), sl48⟩) (c48 : PySem.W.codeIn K cd48 "_law_handed" = true) (k48 : PySem.W.keepIn K (.ref f48) = true)
    (a49 : PySem.W.nsIn K mainGlobals "law" = some (some (.ref f49))) (l49 : K.lookup f49 = some ⟨oc49, od49, .func (PySem.W.fnOf "law" "law" (defArgs sm_law) (defBody sm_law) (defScope sm_law) .none kV49 dc49 pm49 an49 (.ref cL) ct49), sl49⟩) (c49 : PySem.W.codeIn K (.ref cL) "law" = true) (k49 : PySem.W.keepIn K (.ref f49) = true)
    (lL : K.lookup cL = some ⟨ocL, odL, .fields vsL, slL⟩) (vL : vsL[11]? = some (.ref PL)) (nL : K.lookup PL = none)
    (zb_range : PySem.W.nsIn K mainGlobals "range" = some none)
    (zb_int : PySem.W.nsIn K mainGlobals "int" = some none)
    (zb_len : PySem.W.nsIn K mainGlobals "len" = some none)
    (zb_tuple : PySem.W.nsIn K mainGlobals "tuple" = some none)
    (zb_list : PySem.W.nsIn K mainGlobals "list" = some none)
    (zb_sum : PySem.W.nsIn K mainGlobals "sum" = some none)
    (zb_isinstance : PySem.W.nsIn K mainGlobals "isinstance" = some none)
    (zb_bool : PySem.W.nsIn K mainGlobals "bool" = some none)
    (zb_str : PySem.W.nsIn K mainGlobals "str" = some none)
    (zb_all : PySem.W.nsIn K mainGlobals "all" = some none)
    (zb_zip : PySem.W.nsIn K mainGlobals "zip" = some none)
    (zi_gcd : PySem.W.nsIn K mainGlobals "gcd" = some (some (.builtin "math.gcd")))
    (zi_lcm : PySem.W.nsIn K mainGlobals "lcm" = some (some (.builtin "math.lcm")))
    (zc_MOST_COST : PySem.W.nsIn K mainGlobals "MOST_COST" = some (some (.int 1000 t_MOST_COST)))
    (zc_MOST_WEIGHT : PySem.W.nsIn K mainGlobals "MOST_WEIGHT" = some (some (.int 9 t_MOST_WEIGHT)))
    (zc_MOST_CHOICES : PySem.W.nsIn K mainGlobals "MOST_CHOICES" = some (some (.int 3 t_MOST_CHOICES)))
    (zc_MOST_STATES : PySem.W.nsIn K mainGlobals "MOST_STATES" = some (some (.int 5 t_MOST_STATES)))
    (ax_BadValue : PySem.W.nsIn K mainGlobals "BadValue" = some (some (.ref Cx_BadValue))) (ex_BadValue : PySem.W.subIn K (.ref Cx_BadValue) (.type "BaseException") = some true)
    (nx_BadValue_at : PySem.W.findIn K (.ref Cx_BadValue) "at" = some none)
    (lx_BadValue : K.lookup Cx_BadValue = some (excClassObj nmx_BadValue qx_BadValue Cx_BadValue Nx_BadValue bsx_BadValue mrx_BadValue true snx_BadValue sbx_BadValue abx_BadValue colx_BadValue ddx_BadValue k0x_BadValue k1x_BadValue k2x_BadValue k3x_BadValue k5x_BadValue "Exception.__new__")) (mx_BadValue : refsE mrx_BadValue = true) (sx__BadValue : PySem.W.findIn K (.ref Cx_BadValue) "__setattr__" = some (some (.builtin "object.__setattr__"))) (tx_BadValue : PySem.W.typeIn K (.ref Cx_BadValue) = some (.type "type")) (kx_BadValue : PySem.W.keepIn K (.ref Cx_BadValue) = true)
    (ix_BadValue : PySem.W.findIn K (.ref Cx_BadValue) "__init__" = some (some (.ref fx_BadValue))) (jx_BadValue : PySem.W.typeIn K (.ref fx_BadValue) = some (.type "function")) (ux_BadValue : K.lookup fx_BadValue = some ⟨ocx_BadValue, odx_BadValue, .func (PySem.W.fnOf "__init__" "BadValue.__init__" (defArgs sx_BadValue) (defBody sx_BadValue) (defScope sx_BadValue) .none kVx_BadValue dcx_BadValue pmx_BadValue anx_BadValue cdx_BadValue ctx_BadValue), slx_BadValue⟩) (cx_BadValue : PySem.W.codeIn K cdx_BadValue "BadValue.__init__" = true) (wx_BadValue : PySem.W.keepIn K (.ref fx_BadValue) = true)
    (hlaw : ∀ (b : Bool) (ns : List Int), ns.length ≤ 63 → ∃ h, m_law [scD b (ns.map D.int)] [] = .ok (.bl true) h) :
    ∃ (fd : FuncData) (c P : Addr), PySem.W.tabIn K "law" = some (c, P) ∧ K.lookup P = none ∧ (∀ (s : Shared) (v : Value), BindsTo s fd ⟨[v], []⟩ [("script", v)]) ∧ ∀ base : Heap, K.In base → base.Ns mainGlobals mg → LawTab K mg base c P → FnOk l.prog w K mg base (L2.CX l.prog w) 33 fa fd ["script"] (spTrue K) := by
  have e : fa = f49 := by
    have z := hfa.symm.trans (PySem.W.mg_of X G a49)
    cases z; rfl
  rw [e]
  have Fx_BadValue := fun_mk (st := sx_BadValue) ux_BadValue cx_BadValue wx_BadValue
  have T : Tx l.prog w K mg := { ok := trivial, b_range := PySem.W.mg_none_of X G zb_range, b_int := PySem.W.mg_none_of X G zb_int, b_len := PySem.W.mg_none_of X G zb_len, b_tuple := PySem.W.mg_none_of X G zb_tuple, b_list := PySem.W.mg_none_of X G zb_list, b_sum := PySem.W.mg_none_of X G zb_sum, b_isinstance := PySem.W.mg_none_of X G zb_isinstance, b_bool := PySem.W.mg_none_of X G zb_bool, b_str := PySem.W.mg_none_of X G zb_str, b_all := PySem.W.mg_none_of X G zb_all, b_zip := PySem.W.mg_none_of X G zb_zip, i_gcd := PySem.W.mg_of X G zi_gcd, i_lcm := PySem.W.mg_of X G zi_lcm, c_MOST_COST := ⟨_, .int 1000, PySem.W.mg_of X G zc_MOST_COST, ⟨_, rfl⟩, fun _ => int_rd⟩, c_MOST_WEIGHT := ⟨_, .int 9, PySem.W.mg_of X G zc_MOST_WEIGHT, ⟨_, rfl⟩, fun _ => int_rd⟩, c_MOST_CHOICES := ⟨_, .int 3, PySem.W.mg_of X G zc_MOST_CHOICES, ⟨_, rfl⟩, fun _ => int_rd⟩, c_MOST_STATES := ⟨_, .int 5, PySem.W.mg_of X G zc_MOST_STATES, ⟨_, rfl⟩, fun _ => int_rd⟩, x_BadValue := ⟨Cx_BadValue, fx_BadValue, _, PySem.W.mg_of X G ax_BadValue, ⟨⟨_, _, _, _, _, _, _, _, _, _, _, _, _, _, _, lx_BadValue, mx_BadValue⟩, sx__BadValue, ex_BadValue, tx_BadValue, kx_BadValue⟩, ix_BadValue, jx_BadValue, Fx_BadValue.binds (ps := ["self", "at"]) (fun _ _ _ _ _ _ us hl => match us, hl with | [_, _], _ => rfl), fun base => init_BadValue Fx_BadValue, (fun f hf => (List.mem_singleton.mp hf) ▸ nx_BadValue_at)⟩ }
  have F1 := fun_mk (st := sm_law_numbers) l1 c1 k1
  have D1 : DefAt K mg "_law_numbers" "_law_numbers" sm_law_numbers ["script"] := ⟨f1, _, PySem.W.mg_of X G a1, F1, F1.binds (ps := ["script"]) fun _ _ _ _ _ _ us hl => match us, hl with | [_], _ => rfl⟩
  have F2 := fun_mk (st := sm_law_draw) l2 c2 k2
  have D2 : DefAt K mg "_law_draw" "_law_draw" sm_law_draw ["row", "at", "limit"] := ⟨f2, _, PySem.W.mg_of X G a2, F2, F2.binds (ps := ["row", "at", "limit"]) fun _ _ _ _ _ _ us hl => match us, hl with | [_, _, _], _ => rfl⟩
  have F3 := fun_mk (st := sm_law_take) l3 c3 k3
  have D3 : DefAt K mg "_law_take" "_law_take" sm_law_take ["row", "spot", "limit"] := ⟨f3, _, PySem.W.mg_of X G a3, F3, F3.binds (ps := ["row", "spot", "limit"]) fun _ _ _ _ _ _ us hl => match us, hl with | [_, _, _], _ => rfl⟩
  have F4 := fun_mk (st := sm_law_pick) l4 c4 k4
  have D4 : DefAt K mg "_law_pick" "_law_pick" sm_law_pick ["row", "spot", "things"] := ⟨f4, _, PySem.W.mg_of X G a4, F4, F4.binds (ps := ["row", "spot", "things"]) fun _ _ _ _ _ _ us hl => match us, hl with | [_, _, _], _ => rfl⟩
  have F5 := fun_mk (st := sm_law_model) l5 c5 k5
  have D5 : DefAt K mg "_law_model" "_law_model" sm_law_model ["row", "spot", "most"] := ⟨f5, _, PySem.W.mg_of X G a5, F5, F5.binds (ps := ["row", "spot", "most"]) fun _ _ _ _ _ _ us hl => match us, hl with | [_, _, _], _ => rfl⟩
  have F6 := fun_mk (st := sm_law_policy) l6 c6 k6
  have D6 : DefAt K mg "_law_policy" "_law_policy" sm_law_policy ["row", "spot", "model"] := ⟨f6, _, PySem.W.mg_of X G a6, F6, F6.binds (ps := ["row", "spot", "model"]) fun _ _ _ _ _ _ us hl => match us, hl with | [_, _, _], _ => rfl⟩
  have F7 := fun_mk (st := sm_law_gcd) l7 c7 k7
  have D7 : DefAt K mg "_law_gcd" "_law_gcd" sm_law_gcd ["one", "other"] := ⟨f7, _, PySem.W.mg_of X G a7, F7, F7.binds (ps := ["one", "other"]) fun _ _ _ _ _ _ us hl => match us, hl with | [_, _], _ => rfl⟩
  have F8 := fun_mk (st := sm_law_red) l8 c8 k8
  have D8 : DefAt K mg "_law_red" "_law_red" sm_law_red ["n", "d"] := ⟨f8, _, PySem.W.mg_of X G a8, F8, F8.binds (ps := ["n", "d"]) fun _ _ _ _ _ _ us hl => match us, hl with | [_, _], _ => rfl⟩
  have F9 := fun_mk (st := sm_law_div) l9 c9 k9
  have D9 : DefAt K mg "_law_div" "_law_div" sm_law_div ["one", "other"] := ⟨f9, _, PySem.W.mg_of X G a9, F9, F9.binds (ps := ["one", "other"]) fun _ _ _ _ _ _ us hl => match us, hl with | [_, _], _ => rfl⟩
  have F10 := fun_mk (st := sm_law_sub) l10 c10 k10
  have D10 : DefAt K mg "_law_sub" "_law_sub" sm_law_sub ["one", "other"] := ⟨f10, _, PySem.W.mg_of X G a10, F10, F10.binds (ps := ["one", "other"]) fun _ _ _ _ _ _ us hl => match us, hl with | [_, _], _ => rfl⟩
  have F11 := fun_mk (st := sm_law_mul) l11 c11 k11
  have D11 : DefAt K mg "_law_mul" "_law_mul" sm_law_mul ["one", "other"] := ⟨f11, _, PySem.W.mg_of X G a11, F11, F11.binds (ps := ["one", "other"]) fun _ _ _ _ _ _ us hl => match us, hl with | [_, _], _ => rfl⟩
  have F12 := fun_mk (st := sm_law_solve) l12 c12 k12
  have D12 : DefAt K mg "_law_solve" "_law_solve" sm_law_solve ["rows"] := ⟨f12, _, PySem.W.mg_of X G a12, F12, F12.binds (ps := ["rows"]) fun _ _ _ _ _ _ us hl => match us, hl with | [_], _ => rfl⟩
  have F13 := fun_mk (st := sm_law_gain) l13 c13 k13
  have D13 : DefAt K mg "_law_gain" "_law_gain" sm_law_gain ["model", "policy"] := ⟨f13, _, PySem.W.mg_of X G a13, F13, F13.binds (ps := ["model", "policy"]) fun _ _ _ _ _ _ us hl => match us, hl with | [_, _], _ => rfl⟩
  have F14 := fun_mk (st := sm_law_policies) l14 c14 k14
  have D14 : DefAt K mg "_law_policies" "_law_policies" sm_law_policies ["model"] := ⟨f14, _, PySem.W.mg_of X G a14, F14, F14.binds (ps := ["model"]) fun _ _ _ _ _ _ us hl => match us, hl with | [_], _ => rfl⟩
  have F15 := fun_mk (st := sm_law_less) l15 c15 k15
  have D15 : DefAt K mg "_law_less" "_law_less" sm_law_less ["one", "other"] := ⟨f15, _, PySem.W.mg_of X G a15, F15, F15.binds (ps := ["one", "other"]) fun _ _ _ _ _ _ us hl => match us, hl with | [_, _], _ => rfl⟩
  have F16 := fun_mk (st := sm_law_add) l16 c16 k16
  have D16 : DefAt K mg "_law_add" "_law_add" sm_law_add ["one", "other"] := ⟨f16, _, PySem.W.mg_of X G a16, F16, F16.binds (ps := ["one", "other"]) fun _ _ _ _ _ _ us hl => match us, hl with | [_, _], _ => rfl⟩
  have F17 := fun_mk (st := sm_law_mean) l17 c17 k17
  have D17 : DefAt K mg "_law_mean" "_law_mean" sm_law_mean ["weights", "values"] := ⟨f17, _, PySem.W.mg_of X G a17, F17, F17.binds (ps := ["weights", "values"]) fun _ _ _ _ _ _ us hl => match us, hl with | [_, _], _ => rfl⟩
  have F18 := fun_mk (st := sm_law_value) l18 c18 k18
  have D18 : DefAt K mg "_law_value" "_law_value" sm_law_value ["choice", "nums"] := ⟨f18, _, PySem.W.mg_of X G a18, F18, F18.binds (ps := ["choice", "nums"]) fun _ _ _ _ _ _ us hl => match us, hl with | [_, _], _ => rfl⟩
  have F19 := fun_mk (st := sm_law_firsts) l19 c19 k19
  have D19 : DefAt K mg "_law_firsts" "_law_firsts" sm_law_firsts ["model", "nums"] := ⟨f19, _, PySem.W.mg_of X G a19, F19, F19.binds (ps := ["model", "nums"]) fun _ _ _ _ _ _ us hl => match us, hl with | [_, _], _ => rfl⟩
  have F20 := fun_mk (st := sm_law_proves) l20 c20 k20
  have D20 : DefAt K mg "_law_proves" "_law_proves" sm_law_proves ["model", "policy", "rate", "nums"] := ⟨f20, _, PySem.W.mg_of X G a20, F20, F20.binds (ps := ["model", "policy", "rate", "nums"]) fun _ _ _ _ _ _ us hl => match us, hl with | [_, _, _, _], _ => rfl⟩
  have F21 := fun_mk (st := sm_law_best) l21 c21 k21
  have D21 : DefAt K mg "_law_best" "_law_best" sm_law_best ["model"] := ⟨f21, _, PySem.W.mg_of X G a21, F21, F21.binds (ps := ["model"]) fun _ _ _ _ _ _ us hl => match us, hl with | [_], _ => rfl⟩
  have F22 := fun_mk (st := sm_law_wide) l22 c22 k22
  have D22 : DefAt K mg "_law_wide" "_law_wide" sm_law_wide ["row", "spot", "limit"] := ⟨f22, _, PySem.W.mg_of X G a22, F22, F22.binds (ps := ["row", "spot", "limit"]) fun _ _ _ _ _ _ us hl => match us, hl with | [_, _, _], _ => rfl⟩
  have F23 := fun_mk (st := sm_law_frac) l23 c23 k23
  have D23 : DefAt K mg "_law_frac" "_law_frac" sm_law_frac ["row", "spot"] := ⟨f23, _, PySem.W.mg_of X G a23, F23, F23.binds (ps := ["row", "spot"]) fun _ _ _ _ _ _ us hl => match us, hl with | [_, _], _ => rfl⟩
  have F24 := fun_mk (st := sm_law_so) l24 c24 k24
  have D24 : DefAt K mg "_law_so" "_law_so" sm_law_so ["found", "meant"] := ⟨f24, _, PySem.W.mg_of X G a24, F24, F24.binds (ps := ["found", "meant"]) fun _ _ _ _ _ _ us hl => match us, hl with | [_, _], _ => rfl⟩
  have F25 := fun_mk (st := sm_is_sequence) l25 c25 k25
  have D25 : DefAt K mg "is_sequence" "is_sequence" sm_is_sequence ["x"] := ⟨f25, _, PySem.W.mg_of X G a25, F25, F25.binds (ps := ["x"]) fun _ _ _ _ _ _ us hl => match us, hl with | [_], _ => rfl⟩
  have F26 := fun_mk (st := sm_is_row) l26 c26 k26
  have D26 : DefAt K mg "is_row" "is_row" sm_is_row ["x", "least", "most"] := ⟨f26, _, PySem.W.mg_of X G a26, F26, F26.binds (ps := ["x", "least", "most"]) fun _ _ _ _ _ _ us hl => match us, hl with | [_, _, _], _ => rfl⟩
  have F27 := fun_mk (st := sm_is_integer) l27 c27 k27
  have D27 : DefAt K mg "is_integer" "is_integer" sm_is_integer ["x"] := ⟨f27, _, PySem.W.mg_of X G a27, F27, F27.binds (ps := ["x"]) fun _ _ _ _ _ _ us hl => match us, hl with | [_], _ => rfl⟩
  have F28 := fun_mk (st := sm_is_within) l28 c28 k28
  have D28 : DefAt K mg "is_within" "is_within" sm_is_within ["x", "low", "high"] := ⟨f28, _, PySem.W.mg_of X G a28, F28, F28.binds (ps := ["x", "low", "high"]) fun _ _ _ _ _ _ us hl => match us, hl with | [_, _, _], _ => rfl⟩
  have F29 := fun_mk (st := sm_is_choice) l29 c29 k29
  have D29 : DefAt K mg "is_choice" "is_choice" sm_is_choice ["choice", "many"] := ⟨f29, _, PySem.W.mg_of X G a29, F29, F29.binds (ps := ["choice", "many"]) fun _ _ _ _ _ _ us hl => match us, hl with | [_, _], _ => rfl⟩
  have F30 := fun_mk (st := sm_is_state) l30 c30 k30
  have D30 : DefAt K mg "is_state" "is_state" sm_is_state ["state", "many"] := ⟨f30, _, PySem.W.mg_of X G a30, F30, F30.binds (ps := ["state", "many"]) fun _ _ _ _ _ _ us hl => match us, hl with | [_, _], _ => rfl⟩
  have F31 := fun_mk (st := sm_is_model) l31 c31 k31
  have D31 : DefAt K mg "is_model" "is_model" sm_is_model ["model"] := ⟨f31, _, PySem.W.mg_of X G a31, F31, F31.binds (ps := ["model"]) fun _ _ _ _ _ _ us hl => match us, hl with | [_], _ => rfl⟩
  have F32 := fun_mk (st := sm_is_policy) l32 c32 k32
  have D32 : DefAt K mg "is_policy" "is_policy" sm_is_policy ["policy"] := ⟨f32, _, PySem.W.mg_of X G a32, F32, F32.binds (ps := ["policy"]) fun _ _ _ _ _ _ us hl => match us, hl with | [_], _ => rfl⟩
  have F33 := fun_mk (st := sm_is_fraction) l33 c33 k33
  have D33 : DefAt K mg "is_fraction" "is_fraction" sm_is_fraction ["x"] := ⟨f33, _, PySem.W.mg_of X G a33, F33, F33.binds (ps := ["x"]) fun _ _ _ _ _ _ us hl => match us, hl with | [_], _ => rfl⟩
  have F34 := fun_mk (st := sm_fits) l34 c34 k34
  have D34 : DefAt K mg "fits" "fits" sm_fits ["model", "policy"] := ⟨f34, _, PySem.W.mg_of X G a34, F34, F34.binds (ps := ["model", "policy"]) fun _ _ _ _ _ _ us hl => match us, hl with | [_, _], _ => rfl⟩
  have F35 := fun_mk (st := sm_check_proof) l35 c35 k35
  have D35 : DefAt K mg "check_proof" "check_proof" sm_check_proof ["model", "policy", "gain", "numbers"] := ⟨f35, _, PySem.W.mg_of X G a35, F35, F35.binds (ps := ["model", "policy", "gain", "numbers"]) fun _ _ _ _ _ _ us hl => match us, hl with | [_, _, _, _], _ => rfl⟩
  have F36 := fun_mk (st := sm_look) l36 c36 k36
  have D36 : DefAt K mg "_look" "_look" sm_look ["a", "b"] := ⟨f36, _, PySem.W.mg_of X G a36, F36, F36.binds (ps := ["a", "b"]) fun _ _ _ _ _ _ us hl => match us, hl with | [_, _], _ => rfl⟩
  have F37 := fun_mk (st := sm_lowest) l37 c37 k37
  have D37 : DefAt K mg "lowest" "lowest" sm_lowest ["n", "d"] := ⟨f37, _, PySem.W.mg_of X G a37, F37, F37.binds (ps := ["n", "d"]) fun _ _ _ _ _ _ us hl => match us, hl with | [_, _], _ => rfl⟩
  have F38 := fun_mk (st := sm_plus) l38 c38 k38
  have D38 : DefAt K mg "plus" "plus" sm_plus ["a", "b"] := ⟨f38, _, PySem.W.mg_of X G a38, F38, F38.binds (ps := ["a", "b"]) fun _ _ _ _ _ _ us hl => match us, hl with | [_, _], _ => rfl⟩
  have F39 := fun_mk (st := sm_common_bottom) l39 c39 k39
  have D39 : DefAt K mg "common_bottom" "common_bottom" sm_common_bottom ["bottoms"] := ⟨f39, _, PySem.W.mg_of X G a39, F39, F39.binds (ps := ["bottoms"]) fun _ _ _ _ _ _ us hl => match us, hl with | [_], _ => rfl⟩
  have F40 := fun_mk (st := sm_reduced) l40 c40 k40
  have D40 : DefAt K mg "reduced" "reduced" sm_reduced ["n", "d"] := ⟨f40, _, PySem.W.mg_of X G a40, F40, F40.binds (ps := ["n", "d"]) fun _ _ _ _ _ _ us hl => match us, hl with | [_, _], _ => rfl⟩
  have F41 := fun_mk (st := sm_mean) l41 c41 k41
  have D41 : DefAt K mg "mean" "mean" sm_mean ["weights", "fractions"] := ⟨f41, _, PySem.W.mg_of X G a41, F41, F41.binds (ps := ["weights", "fractions"]) fun _ _ _ _ _ _ us hl => match us, hl with | [_, _], _ => rfl⟩
  have F42 := fun_mk (st := sm_sums_ahead) l42 c42 k42
  have D42 : DefAt K mg "sums_ahead" "sums_ahead" sm_sums_ahead ["choices", "numbers"] := ⟨f42, _, PySem.W.mg_of X G a42, F42, F42.binds (ps := ["choices", "numbers"]) fun _ _ _ _ _ _ us hl => match us, hl with | [_, _], _ => rfl⟩
  have F43 := fun_mk (st := sm_less) l43 c43 k43
  have D43 : DefAt K mg "less" "less" sm_less ["a", "b"] := ⟨f43, _, PySem.W.mg_of X G a43, F43, F43.binds (ps := ["a", "b"]) fun _ _ _ _ _ _ us hl => match us, hl with | [_, _], _ => rfl⟩
  have F44 := fun_mk (st := sm_first_least) l44 c44 k44
  have D44 : DefAt K mg "first_least" "first_least" sm_first_least ["fractions"] := ⟨f44, _, PySem.W.mg_of X G a44, F44, F44.binds (ps := ["fractions"]) fun _ _ _ _ _ _ us hl => match us, hl with | [_], _ => rfl⟩
  have F45 := fun_mk (st := sm_proves) l45 c45 k45
  have D45 : DefAt K mg "proves" "proves" sm_proves ["model", "policy", "gain", "numbers"] := ⟨f45, _, PySem.W.mg_of X G a45, F45, F45.binds (ps := ["model", "policy", "gain", "numbers"]) fun _ _ _ _ _ _ us hl => match us, hl with | [_, _, _, _], _ => rfl⟩
  have F46 := fun_mk (st := sm_law_inner) l46 c46 k46
  have D46 : DefAt K mg "_law_inner" "_law_inner" sm_law_inner ["row", "spot"] := ⟨f46, _, PySem.W.mg_of X G a46, F46, F46.binds (ps := ["row", "spot"]) fun _ _ _ _ _ _ us hl => match us, hl with | [_, _], _ => rfl⟩
  have F47 := fun_mk (st := sm_law_listed) l47 c47 k47
  have D47 : DefAt K mg "_law_listed" "_law_listed" sm_law_listed ["value"] := ⟨f47, _, PySem.W.mg_of X G a47, F47, F47.binds (ps := ["value"]) fun _ _ _ _ _ _ us hl => match us, hl with | [_], _ => rfl⟩
  have F48 := fun_mk (st := sm_law_handed) l48 c48 k48
  have D48 : DefAt K mg "_law_handed" "_law_handed" sm_law_handed ["row", "spot", "value"] := ⟨f48, _, PySem.W.mg_of X G a48, F48, F48.binds (ps := ["row", "spot", "value"]) fun _ _ _ _ _ _ us hl => match us, hl with | [_, _, _], _ => rfl⟩
  have F49 := fun_mk (st := sm_law) l49 c49 k49
  have D49 : DefAtC K mg "law" "law" sm_law ["script"] cL := ⟨f49, _, PySem.W.mg_of X G a49, F49, F49.binds (ps := ["script"]) (fun _ _ _ _ _ _ us hl => match us, hl with | [_], _ => rfl), rfl⟩
  refine ⟨PySem.W.fnOf "law" "law" (defArgs sm_law) (defBody sm_law) (defScope sm_law) .none kV49 dc49 pm49 an49 (.ref cL) ct49, cL, PL, tabIn_mk a49 l49 rfl lL vL, nL, fun s v => .of_eq rfl, fun base _ _ TB => ?_⟩
  have GL : Good l.prog w K mg base "law" 33 ["script"] m_law := by
    have gm_law_numbers : Good l.prog w K mg base "_law_numbers" 1 ["script"] m_law_numbers := goodm_law_numbers T D1 
    have gm_law_draw : Good l.prog w K mg base "_law_draw" 1 ["row", "at", "limit"] m_law_draw := goodm_law_draw T D2 
    have gm_law_take : Good l.prog w K mg base "_law_take" 2 ["row", "spot", "limit"] m_law_take := goodm_law_take T D3 gm_law_draw
    have gm_law_pick : Good l.prog w K mg base "_law_pick" 3 ["row", "spot", "things"] m_law_pick := goodm_law_pick T D4 gm_law_take
    have gm_law_model : Good l.prog w K mg base "_law_model" 4 ["row", "spot", "most"] m_law_model := goodm_law_model T D5 gm_law_take gm_law_pick
    have gm_law_policy : Good l.prog w K mg base "_law_policy" 3 ["row", "spot", "model"] m_law_policy := goodm_law_policy T D6 gm_law_take
    have gm_law_gcd : Good l.prog w K mg base "_law_gcd" 1 ["one", "other"] m_law_gcd := goodm_law_gcd T D7 
    have gm_law_red : ∀ n, Good l.prog w K mg base "_law_red" (2 + n) ["n", "d"] (m_law_red n) := goodm_law_red T D8 gm_law_gcd
    have gm_law_div : Good l.prog w K mg base "_law_div" 27 ["one", "other"] m_law_div := goodm_law_div T D9 gm_law_red
    have gm_law_sub : Good l.prog w K mg base "_law_sub" 27 ["one", "other"] m_law_sub := goodm_law_sub T D10 gm_law_red
    have gm_law_mul : Good l.prog w K mg base "_law_mul" 27 ["one", "other"] m_law_mul := goodm_law_mul T D11 gm_law_red
    have gm_law_solve : Good l.prog w K mg base "_law_solve" 28 ["rows"] m_law_solve := goodm_law_solve T D12 gm_law_div gm_law_sub gm_law_mul
    have gm_law_gain : Good l.prog w K mg base "_law_gain" 29 ["model", "policy"] m_law_gain := goodm_law_gain T D13 gm_law_solve gm_law_red gm_law_sub
    have gm_law_policies : Good l.prog w K mg base "_law_policies" 1 ["model"] m_law_policies := goodm_law_policies T D14 
    have gm_law_less : Good l.prog w K mg base "_law_less" 1 ["one", "other"] m_law_less := goodm_law_less T D15 
    have gm_law_add : Good l.prog w K mg base "_law_add" 27 ["one", "other"] m_law_add := goodm_law_add T D16 gm_law_red
    have gm_law_mean : Good l.prog w K mg base "_law_mean" 28 ["weights", "values"] m_law_mean := goodm_law_mean T D17 gm_law_div gm_law_add gm_law_mul
    have gm_law_value : Good l.prog w K mg base "_law_value" 29 ["choice", "nums"] m_law_value := goodm_law_value T D18 gm_law_add gm_law_mean
    have gm_law_firsts : Good l.prog w K mg base "_law_firsts" 30 ["model", "nums"] m_law_firsts := goodm_law_firsts T D19 gm_law_less gm_law_value
    have gm_law_proves : Good l.prog w K mg base "_law_proves" 31 ["model", "policy", "rate", "nums"] m_law_proves := goodm_law_proves T D20 gm_law_firsts gm_law_value gm_law_add
    have gm_law_best : Good l.prog w K mg base "_law_best" 32 ["model"] m_law_best := goodm_law_best T D21 gm_law_policies gm_law_gain gm_law_proves gm_law_firsts
    have gm_law_wide : Good l.prog w K mg base "_law_wide" 3 ["row", "spot", "limit"] m_law_wide := goodm_law_wide T D22 gm_law_take
    have gm_law_frac : Good l.prog w K mg base "_law_frac" 27 ["row", "spot"] m_law_frac := goodm_law_frac T D23 gm_law_red gm_law_take gm_law_wide
    have gm_law_so : ∀ n, Good l.prog w K mg base "_law_so" (1 + n) ["found", "meant"] (m_law_so n) := goodm_law_so T D24 
    have gm_is_sequence : Good l.prog w K mg base "is_sequence" 1 ["x"] m_is_sequence := goodm_is_sequence T D25 
    have gm_is_row : Good l.prog w K mg base "is_row" 2 ["x", "least", "most"] m_is_row := goodm_is_row T D26 gm_is_sequence
    have gm_is_integer : Good l.prog w K mg base "is_integer" 1 ["x"] m_is_integer := goodm_is_integer T D27 
    have gm_is_within : Good l.prog w K mg base "is_within" 2 ["x", "low", "high"] m_is_within := goodm_is_within T D28 gm_is_integer
    have gm_is_choice : Good l.prog w K mg base "is_choice" 3 ["choice", "many"] m_is_choice := goodm_is_choice T D29 gm_is_row gm_is_within
    have gm_is_state : Good l.prog w K mg base "is_state" 4 ["state", "many"] m_is_state := goodm_is_state T D30 gm_is_row gm_is_choice
    have gm_is_model : Good l.prog w K mg base "is_model" 5 ["model"] m_is_model := goodm_is_model T D31 gm_is_row gm_is_state
    have gm_is_policy : Good l.prog w K mg base "is_policy" 2 ["policy"] m_is_policy := goodm_is_policy T D32 gm_is_sequence gm_is_integer
    have gm_is_fraction : Good l.prog w K mg base "is_fraction" 3 ["x"] m_is_fraction := goodm_is_fraction T D33 gm_is_row gm_is_integer
    have gm_fits : Good l.prog w K mg base "fits" 1 ["model", "policy"] m_fits := goodm_fits T D34 
    have gm_check_proof : Good l.prog w K mg base "check_proof" 6 ["model", "policy", "gain", "numbers"] m_check_proof := goodm_check_proof T D35 gm_is_model gm_is_policy gm_is_fraction gm_fits gm_is_sequence
    have gm_look : Good l.prog w K mg base "_look" 4 ["a", "b"] m_look := goodm_look T D36 gm_is_fraction
    have gm_lowest : Good l.prog w K mg base "lowest" 1 ["n", "d"] m_lowest := goodm_lowest T D37 
    have gm_plus : Good l.prog w K mg base "plus" 5 ["a", "b"] m_plus := goodm_plus T D38 gm_look gm_lowest
    have gm_common_bottom : Good l.prog w K mg base "common_bottom" 1 ["bottoms"] m_common_bottom := goodm_common_bottom T D39 
    have gm_reduced : Good l.prog w K mg base "reduced" 3 ["n", "d"] m_reduced := goodm_reduced T D40 gm_lowest gm_is_integer
    have gm_mean : Good l.prog w K mg base "mean" 4 ["weights", "fractions"] m_mean := goodm_mean T D41 gm_common_bottom gm_reduced
    have gm_sums_ahead : Good l.prog w K mg base "sums_ahead" 6 ["choices", "numbers"] m_sums_ahead := goodm_sums_ahead T D42 gm_plus gm_mean
    have gm_less : Good l.prog w K mg base "less" 5 ["a", "b"] m_less := goodm_less T D43 gm_look
    have gm_first_least : Good l.prog w K mg base "first_least" 6 ["fractions"] m_first_least := goodm_first_least T D44 gm_less
    have gm_proves : Good l.prog w K mg base "proves" 7 ["model", "policy", "gain", "numbers"] m_proves := goodm_proves T D45 gm_check_proof gm_sums_ahead gm_first_least gm_plus
    have gm_law_inner : Good l.prog w K mg base "_law_inner" 27 ["row", "spot"] m_law_inner := goodm_law_inner T D46 gm_law_red gm_law_take
    have gm_law_listed : ∀ n, Good l.prog w K mg base "_law_listed" (1 + n) ["value"] (m_law_listed n) := goodm_law_listed T D47 
    have gm_law_handed : Good l.prog w K mg base "_law_handed" 26 ["row", "spot", "value"] m_law_handed := goodm_law_handed T D48 gm_law_listed gm_law_take
    exact goodm_law T D49 TB gm_law_numbers gm_law_model gm_law_policy gm_law_gain gm_law_best gm_law_frac gm_law_take gm_law_so gm_law_proves gm_proves gm_law_add gm_law_inner gm_law_handed
  obtain ⟨fz, fdz, gz, _, _, ⟨o1, o2, o3, lk⟩, Fz⟩ := GL
  have e1 : fz = f49 := by
    have z := gz.symm.trans (PySem.W.mg_of X G a49)
    cases z; rfl
  rw [e1] at lk Fz
  have e2 := lk.symm.trans l49
  cases e2
  exact Fz.imp fun vs H Q E z => law_sp hlaw z
end Mp
open PySem PySem.W PyProof.Rows
set_option maxRecDepth 100000 in
set_option maxHeartbeats 0 in
theorem PySem.Challenge.cw_mendplan_k34_proofs_of_policies_holds : PySem.Challenge.rw_mendplan_k34_proofs_of_policies.Holds := by
  w_on; o_law; k_head; (case hw => w_witness2)
  k_fill
  refine Mp.walk_law (l := PySem.Challenge.rw_mendplan_k34_proofs_of_policies) (k := 33) rfl rfl ⟨rfl, by decide, by decide⟩ (fun w h Y => PySem.W.kIn_of Y) ⟨_, rfl⟩ ?F
  case F =>
    intro w mg fa h KX G hmg
    refine' Mp.all_mk KX G hmg ?a1 ?l1 ?c1 ?k1 ?a2 ?l2 ?c2 ?k2 ?a3 ?l3 ?c3 ?k3 ?a4 ?l4 ?c4 ?k4 ?a5 ?l5 ?c5 ?k5 ?a6 ?l6 ?c6 ?k6 ?a7 ?l7 ?c7 ?k7 ?a8 ?l8 ?c8 ?k8 ?a9 ?l9 ?c9 ?k9 ?a10 ?l10 ?c10 ?k10 ?a11 ?l11 ?c11 ?k11 ?a12 ?l12 ?c12 ?k12 ?a13 ?l13 ?c13 ?k13 ?a14 ?l14 ?c14 ?k14 ?a15 ?l15 ?c15 ?k15 ?a16 ?l16 ?c16 ?k16 ?a17 ?l17 ?c17 ?k17 ?a18 ?l18 ?c18 ?k18 ?a19 ?l19 ?c19 ?k19 ?a20 ?l20 ?c20 ?k20 ?a21 ?l21 ?c21 ?k21 ?a22 ?l22 ?c22 ?k22 ?a23 ?l23 ?c23 ?k23 ?a24 ?l24 ?c24 ?k24 ?a25 ?l25 ?c25 ?k25 ?a26 ?l26 ?c26 ?k26 ?a27 ?l27 ?c27 ?k27 ?a28 ?l28 ?c28 ?k28 ?a29 ?l29 ?c29 ?k29 ?a30 ?l30 ?c30 ?k30 ?a31 ?l31 ?c31 ?k31 ?a32 ?l32 ?c32 ?k32 ?a33 ?l33 ?c33 ?k33 ?a34 ?l34 ?c34 ?k34 ?a35 ?l35 ?c35 ?k35 ?a36 ?l36 ?c36 ?k36 ?a37 ?l37 ?c37 ?k37 ?a38 ?l38 ?c38 ?k38 ?a39 ?l39 ?c39 ?k39 ?a40 ?l40 ?c40 ?k40 ?a41 ?l41 ?c41 ?k41 ?a42 ?l42 ?c42 ?k42 ?a43 ?l43 ?c43 ?k43 ?a44 ?l44 ?c44 ?k44 ?a45 ?l45 ?c45 ?k45 ?a46 ?l46 ?c46 ?k46 ?a47 ?l47 ?c47 ?k47 ?a48 ?l48 ?c48 ?k48 ?a49 ?l49 ?c49 ?k49 ?lL ?vL ?nL ?zb_range ?zb_int ?zb_len ?zb_tuple ?zb_list ?zb_sum ?zb_isinstance ?zb_bool ?zb_str ?zb_all ?zb_zip ?zi_gcd ?zi_lcm ?zc_MOST_COST ?zc_MOST_WEIGHT ?zc_MOST_CHOICES ?zc_MOST_STATES ?ax_BadValue ?ex_BadValue ?nx_BadValue_at ?lx_BadValue ?mx_BadValue ?sx__BadValue ?tx_BadValue ?kx_BadValue ?ix_BadValue ?jx_BadValue ?ux_BadValue ?cx_BadValue ?wx_BadValue Mp.law_ok
    (case a1 => k_is)
    (case l1 => k_is)
    (case c1 => k_is)
    (case k1 => k_is)
    (case a2 => k_is)
    (case l2 => k_is)
    (case c2 => k_is)
    (case k2 => k_is)
    (case a3 => k_is)
    (case l3 => k_is)
    (case c3 => k_is)
    (case k3 => k_is)
    (case a4 => k_is)
    (case l4 => k_is)
    (case c4 => k_is)
    (case k4 => k_is)
    (case a5 => k_is)
    (case l5 => k_is)
    (case c5 => k_is)
    (case k5 => k_is)
    (case a6 => k_is)
    (case l6 => k_is)
    (case c6 => k_is)
    (case k6 => k_is)
    (case a7 => k_is)
    (case l7 => k_is)
    (case c7 => k_is)
    (case k7 => k_is)
    (case a8 => k_is)
    (case l8 => k_is)
    (case c8 => k_is)
    (case k8 => k_is)
    (case a9 => k_is)
    (case l9 => k_is)
    (case c9 => k_is)
    (case k9 => k_is)
    (case a10 => k_is)
    (case l10 => k_is)
    (case c10 => k_is)
    (case k10 => k_is)
    (case a11 => k_is)
    (case l11 => k_is)
    (case c11 => k_is)
    (case k11 => k_is)
    (case a12 => k_is)
    (case l12 => k_is)
    (case c12 => k_is)
    (case k12 => k_is)
    (case a13 => k_is)
    (case l13 => k_is)
    (case c13 => k_is)
    (case k13 => k_is)
    (case a14 => k_is)
    (case l14 => k_is)
    (case c14 => k_is)
    (case k14 => k_is)
    (case a15 => k_is)
    (case l15 => k_is)
    (case c15 => k_is)
    (case k15 => k_is)
    (case a16 => k_is)
    (case l16 => k_is)
    (case c16 => k_is)
    (case k16 => k_is)
    (case a17 => k_is)
    (case l17 => k_is)
    (case c17 => k_is)
    (case k17 => k_is)
    (case a18 => k_is)
    (case l18 => k_is)
    (case c18 => k_is)
    (case k18 => k_is)
    (case a19 => k_is)
    (case l19 => k_is)
    (case c19 => k_is)
    (case k19 => k_is)
    (case a20 => k_is)
    (case l20 => k_is)
    (case c20 => k_is)
    (case k20 => k_is)
    (case a21 => k_is)
    (case l21 => k_is)
    (case c21 => k_is)
    (case k21 => k_is)
    (case a22 => k_is)
    (case l22 => k_is)
    (case c22 => k_is)
    (case k22 => k_is)
    (case a23 => k_is)
    (case l23 => k_is)
    (case c23 => k_is)
    (case k23 => k_is)
    (case a24 => k_is)
    (case l24 => k_is)
    (case c24 => k_is)
    (case k24 => k_is)
    (case a25 => k_is)
    (case l25 => k_is)
    (case c25 => k_is)
    (case k25 => k_is)
    (case a26 => k_is)
    (case l26 => k_is)
    (case c26 => k_is)
    (case k26 => k_is)
    (case a27 => k_is)
    (case l27 => k_is)
    (case c27 => k_is)
    (case k27 => k_is)
    (case a28 => k_is)
    (case l28 => k_is)
    (case c28 => k_is)
    (case k28 => k_is)
    (case a29 => k_is)
    (case l29 => k_is)
    (case c29 => k_is)
    (case k29 => k_is)
    (case a30 => k_is)
    (case l30 => k_is)
    (case c30 => k_is)
    (case k30 => k_is)
    (case a31 => k_is)
    (case l31 => k_is)
    (case c31 => k_is)
    (case k31 => k_is)
    (case a32 => k_is)
    (case l32 => k_is)
    (case c32 => k_is)
    (case k32 => k_is)
    (case a33 => k_is)
    (case l33 => k_is)
    (case c33 => k_is)
    (case k33 => k_is)
    (case a34 => k_is)
    (case l34 => k_is)
    (case c34 => k_is)
    (case k34 => k_is)
    (case a35 => k_is)
    (case l35 => k_is)
    (case c35 => k_is)
    (case k35 => k_is)
    (case a36 => k_is)
    (case l36 => k_is)
    (case c36 => k_is)
    (case k36 => k_is)
    (case a37 => k_is)
    (case l37 => k_is)
    (case c37 => k_is)
    (case k37 => k_is)
    (case a38 => k_is)
    (case l38 => k_is)
    (case c38 => k_is)
    (case k38 => k_is)
    (case a39 => k_is)
    (case l39 => k_is)
    (case c39 => k_is)
    (case k39 => k_is)
    (case a40 => k_is)
    (case l40 => k_is)
    (case c40 => k_is)
    (case k40 => k_is)
    (case a41 => k_is)
    (case l41 => k_is)
    (case c41 => k_is)
    (case k41 => k_is)
    (case a42 => k_is)
    (case l42 => k_is)
    (case c42 => k_is)
    (case k42 => k_is)
    (case a43 => k_is)
    (case l43 => k_is)
    (case c43 => k_is)
    (case k43 => k_is)
    (case a44 => k_is)
    (case l44 => k_is)
    (case c44 => k_is)
    (case k44 => k_is)
    (case a45 => k_is)
    (case l45 => k_is)
    (case c45 => k_is)
    (case k45 => k_is)
    (case a46 => k_is)
    (case l46 => k_is)
    (case c46 => k_is)
    (case k46 => k_is)
    (case a47 => k_is)
    (case l47 => k_is)
    (case c47 => k_is)
    (case k47 => k_is)
    (case a48 => k_is)
    (case l48 => k_is)
    (case c48 => k_is)
    (case k48 => k_is)
    (case a49 => k_is)
    (case l49 => k_is)
    (case c49 => k_is)
    (case k49 => k_is)
    (case lL => k_is)
    (case vL => exact rfl)
    (case nL => exact rfl)
    (case zb_range => k_is)
    (case zb_int => k_is)
    (case zb_len => k_is)
    (case zb_tuple => k_is)
    (case zb_list => k_is)
    (case zb_sum => k_is)
    (case zb_isinstance => k_is)
    (case zb_bool => k_is)
    (case zb_str => k_is)
    (case zb_all => k_is)
    (case zb_zip => k_is)
    (case zi_gcd => k_is)
    (case zi_lcm => k_is)
    (case zc_MOST_COST => k_is)
    (case zc_MOST_WEIGHT => k_is)
    (case zc_MOST_CHOICES => k_is)
    (case zc_MOST_STATES => k_is)
    (case ax_BadValue => k_is)
    (case ex_BadValue => k_is)
    (case nx_BadValue_at => k_is)
    (case lx_BadValue => k_is)
    (case mx_BadValue => exact (by decide +kernel))
    (case sx__BadValue => k_is)
    (case tx_BadValue => k_is)
    (case kx_BadValue => k_is)
    (case ix_BadValue => k_is)
    (case jx_BadValue => k_is)
    (case ux_BadValue => k_is)
    (case cx_BadValue => k_is)
    (case wx_BadValue => k_is)
