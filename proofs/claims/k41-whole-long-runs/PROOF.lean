import PyProof.Rows.All
import Wide.All
import OpenK.AllK
import Wide.FinOn
import HandS.ForMost
import HandS.ForExc
import HandS.Lambda
import KE.KNest
import HandS.Wide
import HandS.WideBits
import HandS.IsInst
import HandS.Gcd
import HandS.TupAny
import HandS.Codes
import HandS.Zip
import HandS.SortInts
import HandS.EndTab
import KE.GoesEnum
import KE.KMathGC
import KE.GoesZip
import HandS.DictComp
import HandS.More
import HandS.Iter
import HandS.ExcInit
import HandS.ExcSuper
import HandS.ExcField
import HandS.TryMany
import HandS.Flow
import HandS.Style
import KE.GoesMore
import HandS.Deep
import PySem.Challenge.RW_mendplan_k41_whole_long_runs
set_option Elab.async false
set_option linter.all false
set_option maxRecDepth 100000
set_option maxHeartbeats 4000000
/-! LayA: data, cells, worlds; what a value of the program stands for. -/
namespace Mp
open PySem PySem.Spec PyProof.Rows L2

inductive D where
  | non | bl (b : Bool) | int (i : Int) | str (x : Str) | tup (xs : List D) | lst (xs : List D) | scr (xs : List D) | dct (ks : List Key) (ds : List D) | ref (n : Nat) | ty (n : String)
  deriving Inhabited
inductive C where
  | lst (xs : List D) | dct (ks : List Key) (ds : List D)
  deriving Inhabited
abbrev Hc := List C
abbrev Sl := List (Option D)
/-- what an expression comes to -/
inductive R (α : Type) where
  | ok (a : α) (h : Hc) | ex (x : Str) (fs : List Str) (ds : List D) (h : Hc) | bad
def R.bd {α β : Type} (r : R α) (f : α → Hc → R β) : R β := match r with
  | .ok a h => f a h
  | .ex x fs ds h => .ex x fs ds h
  | .bad => .bad
@[simp] theorem R.bd_ok {α β : Type} (a : α) (h : Hc) (f : α → Hc → R β) : (R.ok a h).bd f = f a h := Eq.trans rfl rfl
/-- where the law's table of code objects stands -/
def tabT (K : PySem.W.Frag) : List (Addr × Str) := match PySem.W.tabIn K "law" with
  | some (_, P) => [(P, "law.<locals>.<lambda>")]
  | none => []
abbrev TabsK (K : PySem.W.Frag) (H : Hp) : Prop := LamX.Tabs (tabT K) H
/-- a world: the addresses that may change, where the cells stand, how many, the tracked heap -/
structure Wo where
  A : Addr → Prop
  β : Nat → Addr
  n : Nat
  H : Hp
structure Ext (ω ω' : Wo) : Prop where
  n : ω.n ≤ ω'.n
  b : ∀ i, i < ω.n → ω'.β i = ω.β i
  a : ∀ q, ω.A q → ω'.A q
  aN : ∀ q, ω'.A q → ω.A q ∨ ω.H q = none
  nw : ∀ i, ω.n ≤ i → i < ω'.n → ω.H (ω'.β i) = none
  dom : ∀ q, ω'.H q = none → ω.H q = none
  keep : ∀ q o, ω.H q = some o → (∀ ps, o ≠ .tbl ps) → (∀ i, i < ω.n → ω.β i ≠ q) → ω'.H q = some o
theorem Ext.refl (ω : Wo) : Ext ω ω := ⟨Nat.le_refl _, fun _ _ => rfl, fun _ h => h, fun _ h => .inl h, fun i h1 h2 => absurd h2 (Nat.not_lt.mpr h1), fun _ h => h, fun _ _ h _ _ => h⟩
theorem Ext.trans {ω ω1 ω2 : Wo} (x : Ext ω ω1) (y : Ext ω1 ω2) : Ext ω ω2 where
  n := Nat.le_trans x.n y.n
  b := fun i h => (y.b i (Nat.lt_of_lt_of_le h x.n)).trans (x.b i h)
  a := fun q h => y.a q (x.a q h)
  aN := fun q h => by
    rcases y.aN q h with z | z
    · exact x.aN q z
    · exact .inr (x.dom q z)
  nw := fun i h1 h2 => by
    by_cases h : i < ω1.n
    · rw [y.b i h]; exact x.nw i h1 h
    · exact x.dom _ (y.nw i (Nat.not_lt.mp h) h2)
  dom := fun q h => x.dom q (y.dom q h)
  keep := fun q o h nt hb => y.keep q o (x.keep q o h nt hb) nt fun i hi e => by
    by_cases h' : i < ω.n
    · rw [x.b i h'] at e; exact hb i h' e
    · have z := x.nw i (Nat.not_lt.mp h') hi
      rw [e, h] at z; cases z

section
variable (K : PySem.W.Frag)
/-- a written list -/
def WrL (p : Addr) (vs : List V) : Prop :=
  ∃ (o : Obj) (its : Array Value) (n : Nat), K.lookup p = some o ∧ o.cls = .type "list" ∧ o.dict = none ∧ o.data = .seq its n ∧ its.size ≤ sizeLine ∧ Vals vs its.toList
/-- a list that nobody changes any more; one that is locked or written -/
def FzL (ω : Wo) (p : Addr) (vs : List V) : Prop := ω.H p = some (.lst vs) ∧ ¬ ω.A p
def LkL (ω : Wo) (p : Addr) (vs : List V) : Prop := (∃ o, ω.H p = some (.frz o (.lst vs))) ∨ WrL K p vs
theorem LkL.sq {K : PySem.W.Frag} {ω : Wo} {p : Addr} {vs : List V} (h : LkL K ω p vs) : SqL K ω.H p vs := by
  rcases h with ⟨o, h⟩ | h
  · exact .inl (.inr ⟨o, h⟩)
  · exact .inr h
mutual
def RelD (ω : Wo) : D → V → Prop
  | .non, v => v = .non
  | .bl b, v => v = .bl b
  | .int i, v => v = .int i
  | .str x, v => v = .str x
  | .ty t, v => v = .ty t
  | .tup ds, v => ∃ p vs, v = .ref p ∧ SqT K ω.H p vs ∧ RelL ω ds vs
  | .lst ds, v => ∃ p vs, v = .ref p ∧ FzL ω p vs ∧ RelL ω ds vs
  | .scr ds, v => ∃ p vs, v = .ref p ∧ LkL K ω p vs ∧ RelL ω ds vs
  | .dct ks ds, v => ∃ p vs, v = .ref p ∧ (ω.H p = some (.dK (ks.zip vs)) ∧ ¬ ω.A p) ∧ ks.length = vs.length ∧ RelL ω ds vs
  | .ref i, v => i < ω.n ∧ v = .ref (ω.β i)
def RelL (ω : Wo) : List D → List V → Prop
  | [], vs => vs = []
  | d :: ds, vs => ∃ v ws, vs = v :: ws ∧ RelD ω d v ∧ RelL ω ds ws
end
def RelC (ω : Wo) (p : Addr) : C → Prop
  | .lst ds => ∃ vs, ω.H p = some (.lst vs) ∧ RelL K ω ds vs
  | .dct ks ds => ∃ vs, ω.H p = some (.dK (ks.zip vs)) ∧ ks.length = vs.length ∧ RelL K ω ds vs
structure Rel (ω : Wo) (h : Hc) : Prop where
  n : ω.n = h.length
  inj : ∀ i j, i < ω.n → j < ω.n → ω.β i = ω.β j → i = j
  inA : ∀ i, i < ω.n → ω.A (ω.β i)
  sub : ∀ q, ω.A q → ω.H q ≠ none
  cel : ∀ i c, h[i]? = some c → RelC K ω (ω.β i) c
  tabs : TabsK K ω.H
def RelS (ω : Wo) (ds : Sl) (σ : L2.St) : Prop := ds.length = σ.length ∧ ∀ (i : Nat) (d : D), ds[i]? = some (some d) → ∃ v, σ[i]? = some (some v) ∧ RelD K ω d v
end
section
variable {K : PySem.W.Frag} {ω ω' : Wo} {h h' : Hc} {d : D} {v : V} {ds : List D} {vs : List V} {p : Addr}
theorem Rel.mut (r : Rel K ω h) {i : Nat} (hi : i < ω.n) : ∃ o, ω.H (ω.β i) = some o ∧ ((∃ xs, o = .lst xs) ∨ ∃ xs, o = .dK xs) := by
  rw [r.n] at hi
  have c := r.cel i h[i] (List.getElem?_eq_getElem hi)
  cases e : h[i] with
  | lst xs => rw [e] at c; obtain ⟨vs, e, _⟩ := c; exact ⟨_, e, .inl ⟨_, rfl⟩⟩
  | dct ks xs => rw [e] at c; obtain ⟨vs, e, _⟩ := c; exact ⟨_, e, .inr ⟨_, rfl⟩⟩
theorem Rel.kept (r : Rel K ω h) (e : Ext ω ω') {p : Addr} {o : HO} (h1 : ω.H p = some o) (h2 : ¬ ω.A p ∨ ¬ ((∃ xs, o = .lst xs) ∨ ∃ xs, o = .dK xs)) (nt : ∀ ps, o ≠ .tbl ps := by intro _ z; cases z) : ω'.H p = some o :=
  e.keep p o h1 nt fun i hi eq => by
    rcases h2 with h2 | h2
    · exact h2 (eq ▸ r.inA i hi)
    · obtain ⟨o', e1, e2⟩ := r.mut hi
      rw [eq, h1] at e1; cases e1
      exact h2 e2
theorem Rel.offA (r : Rel K ω h) (e : Ext ω ω') {p : Addr} {o : HO} (h1 : ω.H p = some o) (h2 : ¬ ω.A p) : ¬ ω'.A p := fun z => by
  rcases e.aN p z with z | z
  · exact h2 z
  · rw [h1] at z; cases z
theorem Rel.sqT (r : Rel K ω h) (e : Ext ω ω') (x : SqT K ω.H p vs) : SqT K ω'.H p vs := by
  rcases x with (x | ⟨o, x⟩) | x
  · exact .inl (.inl (r.kept e x (.inr (by rintro (⟨_, q⟩ | ⟨_, q⟩) <;> cases q))))
  · exact .inl (.inr ⟨o, r.kept e x (.inr (by rintro (⟨_, q⟩ | ⟨_, q⟩) <;> cases q))⟩)
  · exact .inr x
theorem Rel.fzd (r : Rel K ω h) (e : Ext ω ω') {o : HO} (x : ω.H p = some o) (n : ¬ ω.A p) (nt : ∀ ps, o ≠ .tbl ps := by intro _ z; cases z) : ω'.H p = some o ∧ ¬ ω'.A p := ⟨r.kept e x (.inl n) nt, r.offA e x n⟩
theorem Rel.lk (r : Rel K ω h) (e : Ext ω ω') (x : LkL K ω p vs) : LkL K ω' p vs := by
  rcases x with ⟨o, x⟩ | x
  · exact .inl ⟨o, r.kept e x (.inr (by rintro (⟨_, q⟩ | ⟨_, q⟩) <;> cases q))⟩
  · exact .inr x
mutual
theorem mono (r : Rel K ω h) (e : Ext ω ω') : ∀ (d : D) (v : V), RelD K ω d v → RelD K ω' d v
  | .non, v, x => by unfold RelD at x ⊢; exact x
  | .bl b, v, x => by unfold RelD at x ⊢; exact x
  | .int i, v, x => by unfold RelD at x ⊢; exact x
  | .str s, v, x => by unfold RelD at x ⊢; exact x
  | .ty t, v, x => by unfold RelD at x ⊢; exact x
  | .tup ds, v, x => by
    unfold RelD at x ⊢
    obtain ⟨p, vs, e1, e2, e3⟩ := x
    exact ⟨p, vs, e1, r.sqT e e2, monoL r e ds vs e3⟩
  | .lst ds, v, x => by
    unfold RelD at x ⊢
    obtain ⟨p, vs, e1, e2, e3⟩ := x
    exact ⟨p, vs, e1, r.fzd e e2.1 e2.2, monoL r e ds vs e3⟩
  | .scr ds, v, x => by
    unfold RelD at x ⊢
    obtain ⟨p, vs, e1, e2, e3⟩ := x
    exact ⟨p, vs, e1, r.lk e e2, monoL r e ds vs e3⟩
  | .dct ks ds, v, x => by
    unfold RelD at x ⊢
    obtain ⟨p, vs, e1, e2, e3, e4⟩ := x
    exact ⟨p, vs, e1, r.fzd e e2.1 e2.2, e3, monoL r e ds vs e4⟩
  | .ref i, v, x => by
    unfold RelD at x ⊢
    exact ⟨Nat.lt_of_lt_of_le x.1 e.n, by rw [x.2, e.b i x.1]⟩
theorem monoL (r : Rel K ω h) (e : Ext ω ω') : ∀ (ds : List D) (vs : List V), RelL K ω ds vs → RelL K ω' ds vs
  | [], vs, x => by unfold RelL at x ⊢; exact x
  | d :: ds, vs, x => by
    unfold RelL at x ⊢
    obtain ⟨v, ws, e1, e2, e3⟩ := x
    exact ⟨v, ws, e1, mono r e d v e2, monoL r e ds ws e3⟩
end
theorem monoS (r : Rel K ω h) (e : Ext ω ω') {ds : Sl} {σ : L2.St} (x : RelS K ω ds σ) : RelS K ω' ds σ :=
  ⟨x.1, fun i d hd => let ⟨v, e1, e2⟩ := x.2 i d hd; ⟨v, e1, mono r e d v e2⟩⟩
/-! ### lists of data -/
theorem RelL.nil : RelL K ω [] [] := by unfold RelL; rfl
theorem RelL.cons (a : RelD K ω d v) (b : RelL K ω ds vs) : RelL K ω (d :: ds) (v :: vs) := by
  show RelL K ω (d :: ds) (v :: vs)
  unfold RelL; exact ⟨v, vs, rfl, a, b⟩
theorem RelL.len : ∀ {ds : List D} {vs : List V}, RelL K ω ds vs → ds.length = vs.length
  | [], vs, x => by unfold RelL at x; subst x; rfl
  | d :: ds, vs, x => by
    unfold RelL at x
    obtain ⟨v, ws, e1, e2, e3⟩ := x
    rw [e1, List.length_cons, List.length_cons, RelL.len e3]
theorem RelL.get : ∀ {ds : List D} {vs : List V} {i : Nat} {d : D}, RelL K ω ds vs → ds[i]? = some d → ∃ v, vs[i]? = some v ∧ RelD K ω d v
  | [], vs, i, d, x, e => by simp at e
  | d :: ds, vs, 0, d', x, e => by
    unfold RelL at x
    obtain ⟨v, ws, rfl, e2, e3⟩ := x
    have e' : d = d' := by simpa using e
    subst e'
    exact ⟨v, rfl, e2⟩
  | d :: ds, vs, i + 1, d', x, e => by
    unfold RelL at x
    obtain ⟨v, ws, rfl, e2, e3⟩ := x
    obtain ⟨v', q1, q2⟩ := RelL.get (i := i) e3 (by simpa using e)
    exact ⟨v', by simpa using q1, q2⟩
theorem RelL.append : ∀ {ds es : List D} {vs ws : List V}, RelL K ω ds vs → RelL K ω es ws → RelL K ω (ds ++ es) (vs ++ ws)
  | [], es, vs, ws, x, y => by unfold RelL at x; subst x; exact y
  | d :: ds, es, vs, ws, x, y => by
    unfold RelL at x
    obtain ⟨v, us, rfl, e2, e3⟩ := x
    exact RelL.cons e2 (RelL.append e3 y)
theorem RelL.take : ∀ {ds : List D} {vs : List V} (n : Nat), RelL K ω ds vs → RelL K ω (ds.take n) (vs.take n)
  | _, _, 0, _ => by simpa using RelL.nil
  | [], vs, n + 1, x => by unfold RelL at x; subst x; simpa using RelL.nil
  | d :: ds, vs, n + 1, x => by
    unfold RelL at x
    obtain ⟨v, us, rfl, e2, e3⟩ := x
    exact RelL.cons e2 (RelL.take n e3)
theorem RelL.drop : ∀ {ds : List D} {vs : List V} (n : Nat), RelL K ω ds vs → RelL K ω (ds.drop n) (vs.drop n)
  | _, _, 0, x => by simpa using x
  | [], vs, n + 1, x => by unfold RelL at x; subst x; simpa using RelL.nil
  | d :: ds, vs, n + 1, x => by
    unfold RelL at x
    obtain ⟨v, us, rfl, e2, e3⟩ := x
    simpa using RelL.drop n e3
theorem RelL.set {d : D} {v : V} (r : RelD K ω d v) : ∀ {ds : List D} {vs : List V} (i : Nat), RelL K ω ds vs → RelL K ω (ds.set i d) (vs.set i v)
  | [], vs, i, x => by unfold RelL at x; subst x; simpa using RelL.nil
  | d' :: ds, vs, 0, x => by
    unfold RelL at x
    obtain ⟨v', us, rfl, e2, e3⟩ := x
    exact RelL.cons r e3
  | d' :: ds, vs, i + 1, x => by
    unfold RelL at x
    obtain ⟨v', us, rfl, e2, e3⟩ := x
    exact RelL.cons e2 (RelL.set r i e3)
theorem RelL.reverse : ∀ {ds : List D} {vs : List V}, RelL K ω ds vs → RelL K ω ds.reverse vs.reverse
  | [], vs, x => by unfold RelL at x; subst x; simpa using RelL.nil
  | d' :: ds, vs, x => by
    unfold RelL at x
    obtain ⟨v', us, rfl, e2, e3⟩ := x
    rw [List.reverse_cons, List.reverse_cons]
    exact RelL.append (RelL.reverse e3) (RelL.cons e2 RelL.nil)
theorem RelL.inv {vs : List V} (x : RelL K ω (d :: ds) vs) : ∃ v ws, vs = v :: ws ∧ RelD K ω d v ∧ RelL K ω ds ws := by unfold RelL at x; exact x
theorem RelL.inv0 {vs : List V} (x : RelL K ω [] vs) : vs = [] := by unfold RelL at x; exact x
theorem RelL.ints : ∀ {ns : List Int} {vs : List V}, RelL K ω (ns.map D.int) vs → vs = ns.map V.int
  | [], vs, x => x.inv0
  | n :: ns, vs, x => by
    obtain ⟨v, ws, rfl, e2, e3⟩ := x.inv
    unfold RelD at e2
    rw [e2, RelL.ints e3]; rfl
theorem RelL.of_ints : ∀ (ns : List Int), RelL K ω (ns.map D.int) (ns.map V.int)
  | [] => RelL.nil
  | n :: ns => RelL.cons (by unfold RelD; rfl) (RelL.of_ints ns)
theorem RelL.strs : ∀ {ns : List Str} {vs : List V}, RelL K ω (ns.map D.str) vs → vs = ns.map V.str
  | [], vs, x => x.inv0
  | n :: ns, vs, x => by
    obtain ⟨v, ws, rfl, e2, e3⟩ := x.inv
    unfold RelD at e2
    rw [e2, RelL.strs e3]; rfl
theorem RelL.of_strs : ∀ (ns : List Str), RelL K ω (ns.map D.str) (ns.map V.str)
  | [] => RelL.nil
  | n :: ns => RelL.cons (by unfold RelD; rfl) (RelL.of_strs ns)
theorem RelL.bls : ∀ {ns : List Bool} {vs : List V}, RelL K ω (ns.map D.bl) vs → vs = ns.map V.bl
  | [], vs, x => x.inv0
  | n :: ns, vs, x => by
    obtain ⟨v, ws, rfl, e2, e3⟩ := x.inv
    unfold RelD at e2
    rw [e2, RelL.bls e3]; rfl
/-- the tables stay where all but lists and dicts stay -/
theorem tabs_keep {K : PySem.W.Frag} {H H' : Hp} (t : TabsK K H) (k : ∀ b o, H b = some o → ¬ ((∃ xs, o = .lst xs) ∨ ∃ xs, o = .dK xs) → H' b = some o) : TabsK K H' := fun p hp => by
  obtain ⟨ps, h1, h2, h3⟩ := t p hp
  refine ⟨ps, k _ _ h1 (by rintro (⟨_, z⟩ | ⟨_, z⟩) <;> cases z), h2, fun pos cv hc => ?_⟩
  obtain ⟨c, e1, e2⟩ := h3 pos cv hc
  exact ⟨c, e1, k _ _ e2 (by unfold LamX.CodeO; rintro (⟨_, z⟩ | ⟨_, z⟩) <;> cases z)⟩
/-! ### new objects, changed cells -/
def Wo.up (ω : Wo) (p : Addr) (o : HO) : Wo := { ω with H := upd ω.H p o }
theorem Ext.up {o : HO} (hp : ω.H p = none) : Ext ω (ω.up p o) where
  n := Nat.le_refl _
  b := fun _ _ => rfl
  a := fun _ x => x
  aN := fun _ x => .inl x
  nw := fun i h1 h2 => absurd h2 (Nat.not_lt.mpr h1)
  dom := fun q x => by
    by_cases e : q = p
    · rw [e]; exact hp
    · have x' : upd ω.H p o q = none := x
      rw [upd_ne e] at x'; exact x'
  keep := fun q u x _ _ => by
    show upd ω.H p o q = some u
    rw [upd_ne (ne_of_none x hp)]; exact x
theorem Rel.ext1 (r : Rel K ω h) (e : Ext ω ω') (hn : ω'.n = ω.n) (hA : ∀ q, ω'.A q → ω'.H q ≠ none) (hc : ∀ i, i < ω.n → ω'.H (ω.β i) = ω.H (ω.β i)) (ht : TabsK K ω'.H) : Rel K ω' h where
  tabs := ht
  n := hn.trans r.n
  inj := fun i j hi hj q => by
    rw [hn] at hi hj
    rw [e.b i hi, e.b j hj] at q
    exact r.inj i j hi hj q
  inA := fun i hi => by rw [hn] at hi; rw [e.b i hi]; exact e.a _ (r.inA i hi)
  sub := hA
  cel := fun i c hi => by
    have hl : i < ω.n := by rw [r.n]; exact (List.getElem?_eq_some_iff.mp hi).1
    rw [e.b i hl]
    have x := r.cel i c hi
    cases c with
    | lst xs =>
      obtain ⟨vs, e1, e2⟩ := x
      exact ⟨vs, (hc i hl).trans e1, monoL r e _ _ e2⟩
    | dct ks xs =>
      obtain ⟨vs, e1, e3, e2⟩ := x
      exact ⟨vs, (hc i hl).trans e1, e3, monoL r e _ _ e2⟩
theorem Rel.ext0 (r : Rel K ω h) (e : Ext ω ω') (hn : ω'.n = ω.n) (hA : ∀ q, ω'.A q → ω.A q) (hc : ∀ i, i < ω.n → ω'.H (ω.β i) = ω.H (ω.β i)) (ht : TabsK K ω'.H) : Rel K ω' h :=
  r.ext1 e hn (fun q hq z => r.sub q (hA q hq) (e.dom q z)) hc ht
theorem Rel.up {o : HO} (r : Rel K ω h) (hp : ω.H p = none) : Rel K (ω.up p o) h :=
  r.ext0 (Ext.up hp) rfl (fun _ x => x) (fun i hi => by
    obtain ⟨u, e, _⟩ := r.mut hi
    show upd ω.H p o _ = _
    rw [upd_ne (ne_of_none e hp)]) (tabs_keep r.tabs fun b u e _ => by
    show upd ω.H p o b = some u
    rw [upd_ne (ne_of_none e hp)]; exact e)
theorem Rel.free (r : Rel K ω h) (hp : ω.H p = none) : ¬ ω.A p := fun z => r.sub p z hp
/-- a new cell at p -/
def Wo.cell (ω : Wo) (p : Addr) (o : HO) : Wo := ⟨fun q => ω.A q ∨ q = p, fun i => if i = ω.n then p else ω.β i, ω.n + 1, upd ω.H p o⟩
theorem Ext.cell {o : HO} (hp : ω.H p = none) : Ext ω (ω.cell p o) where
  n := Nat.le_succ _
  b := fun i hi => if_neg (Nat.ne_of_lt hi)
  a := fun _ x => .inl x
  aN := fun q x => by
    rcases x with x | x
    · exact .inl x
    · rw [x]; exact .inr hp
  nw := fun i h1 h2 => by
    have h2' : i < ω.n + 1 := h2
    have e : i = ω.n := Nat.le_antisymm (Nat.le_of_lt_succ h2') h1
    show ω.H (if i = ω.n then p else ω.β i) = none
    rw [if_pos e]; exact hp
  dom := (Ext.up (o := o) hp).dom
  keep := (Ext.up (o := o) hp).keep
theorem Wo.cell_at {o : HO} : (ω.cell p o).β ω.n = p := if_pos rfl
theorem Rel.cell {o : HO} {c : C} (r : Rel K ω h) (hp : ω.H p = none) (hc : RelC K (ω.cell p o) p c) : Rel K (ω.cell p o) (h ++ [c]) where
  tabs := tabs_keep r.tabs fun b u e _ => by
    show upd ω.H p o b = some u
    rw [upd_ne (ne_of_none e hp)]; exact e
  n := by rw [List.length_append, ← r.n]; rfl
  inj := fun i j hi hj q => by
    have hi' : i < ω.n + 1 := hi
    have hj' : j < ω.n + 1 := hj
    have q' : (if i = ω.n then p else ω.β i) = (if j = ω.n then p else ω.β j) := q
    by_cases e1 : i = ω.n
    · by_cases e2 : j = ω.n
      · omega
      · rw [if_pos e1, if_neg e2] at q'
        obtain ⟨u, z, _⟩ := r.mut (show j < ω.n by omega)
        rw [← q', hp] at z; cases z
    · by_cases e2 : j = ω.n
      · rw [if_neg e1, if_pos e2] at q'
        obtain ⟨u, z, _⟩ := r.mut (show i < ω.n by omega)
        rw [q', hp] at z; cases z
      · rw [if_neg e1, if_neg e2] at q'
        exact r.inj i j (by omega) (by omega) q'
  inA := fun i hi => by
    have hi' : i < ω.n + 1 := hi
    by_cases e1 : i = ω.n
    · exact .inr (if_pos e1)
    · refine .inl ?_
      show ω.A (if i = ω.n then p else ω.β i)
      rw [if_neg e1]; exact r.inA i (by omega)
  sub := fun q x z => by
    have z' : upd ω.H p o q = none := z
    by_cases e : q = p
    · rw [e, upd_same] at z'; cases z'
    · rw [upd_ne e] at z'
      rcases x with x | x
      · exact r.sub q x z'
      · exact e x
  cel := fun i c' hi => by
    by_cases e1 : i = ω.n
    · have e2 : i = h.length := e1.trans r.n
      rw [List.getElem?_append_right (by omega), e2, Nat.sub_self] at hi
      have e3 : c = c' := by simpa using hi
      subst e3
      have e4 : (ω.cell p o).β i = p := if_pos e1
      rw [e4]; exact hc
    · have hlt : i < ω.n := by
        have := (List.getElem?_eq_some_iff.mp hi).1
        rw [List.length_append, ← r.n] at this
        simp at this; omega
      rw [List.getElem?_append_left (by rw [← r.n]; exact hlt)] at hi
      have e4 : (ω.cell p o).β i = ω.β i := if_neg e1
      rw [e4]
      obtain ⟨u, z, _⟩ := r.mut hlt
      have ne : ω.β i ≠ p := ne_of_none z hp
      have x := r.cel i c' hi
      have e := Ext.cell (ω := ω) (p := p) (o := o) hp
      cases c' with
      | lst xs =>
        obtain ⟨vs, e1, e2⟩ := x
        exact ⟨vs, (upd_ne ne).trans e1, monoL r e _ _ e2⟩
      | dct ks xs =>
        obtain ⟨vs, e1, e3, e2⟩ := x
        exact ⟨vs, (upd_ne ne).trans e1, e3, monoL r e _ _ e2⟩
/-- cell i is changed -/
theorem Ext.put {o u : HO} {i : Nat} (hi : i < ω.n) (hu : ω.H (ω.β i) = some u) : Ext ω (ω.up (ω.β i) o) where
  n := Nat.le_refl _
  b := fun _ _ => rfl
  a := fun _ x => x
  aN := fun _ x => .inl x
  nw := fun i h1 h2 => absurd h2 (Nat.not_lt.mpr h1)
  dom := fun q x => by
    have x' : upd ω.H (ω.β i) o q = none := x
    by_cases e : q = ω.β i
    · rw [e, upd_same] at x'; cases x'
    · rw [upd_ne e] at x'; exact x'
  keep := fun q w x _ hb => by
    show upd ω.H (ω.β i) o q = some w
    rw [upd_ne (fun e => hb i hi e.symm)]; exact x
theorem Rel.put {o : HO} {c : C} {i : Nat} (r : Rel K ω h) (hi : i < ω.n) (hc : RelC K (ω.up (ω.β i) o) (ω.β i) c) : Rel K (ω.up (ω.β i) o) (h.set i c) := by
  obtain ⟨u, hu, _⟩ := r.mut hi
  have e := Ext.put (o := o) hi hu
  refine ⟨by rw [List.length_set]; exact r.n, r.inj, r.inA, fun q x z => r.sub q x (e.dom q z), fun j c' hj => ?_, tabs_keep r.tabs fun b w e1 nm => by
    show upd ω.H (ω.β i) o b = some w
    rw [upd_ne (fun z => nm (by
      obtain ⟨w', e2, m⟩ := r.mut hi
      rw [z, e2] at e1; cases e1
      exact m))]; exact e1⟩
  by_cases ej : j = i
  · subst ej
    rw [List.getElem?_set_self (by rw [← r.n]; exact hi)] at hj
    have e3 : c = c' := by simpa using hj
    subst e3
    exact hc
  · rw [List.getElem?_set_ne (Ne.symm ej)] at hj
    have hl : j < ω.n := by rw [r.n]; exact (List.getElem?_eq_some_iff.mp hj).1
    have ne : ω.β j ≠ ω.β i := fun q => ej (r.inj j i hl hi q)
    have x := r.cel j c' hj
    show RelC K (ω.up (ω.β i) o) (ω.β j) c'
    cases c' with
    | lst xs =>
      obtain ⟨vs, e1, e2⟩ := x
      exact ⟨vs, (upd_ne ne).trans e1, monoL r e _ _ e2⟩
    | dct ks xs =>
      obtain ⟨vs, e1, e3, e2⟩ := x
      exact ⟨vs, (upd_ne ne).trans e1, e3, monoL r e _ _ e2⟩
end
end Mp
/-! LayB: what an expression, a test, a statement means over data. -/
namespace Mp
open PySem PySem.Spec PyProof.Rows L2
abbrev SE := Sl → Hc → R D
abbrev SB := Sl → Hc → R Bool
abbrev SA := Sl → Hc → R (List D)
/-- an exception over data -/
def RelX (K : PySem.W.Frag) (mg : Str → Option Value) (ω : Wo) (x : Str) (fs : List Str) (ds : List D) (cls : Value) (dx : Option Addr) : Prop :=
  ∃ (C d : Addr) (vs : List V), cls = .ref C ∧ dx = some d ∧ mg x = some (.ref C) ∧ ω.H d = some (.xd (fs.zip vs)) ∧ fs.length = vs.length ∧ RelL K ω ds vs
def Post {α β : Type} (K : PySem.W.Frag) (mg : Str → Option Value) (W : WX) (σ : L2.St) (ω : Wo) (rel : Wo → α → β → Prop) (Q : β → Hp → Prop) : R α → Prop
  | .ok a h => ∀ b ω', Ext ω ω' → Rel K ω' h → rel ω' a b → Q b ω'.H
  | .ex x fs ds h => ∀ cls dx ω', Ext ω ω' → Rel K ω' h → RelX K mg ω' x fs ds cls dx → W cls dx σ ω'.H
  | .bad => False
section
variable {α β α' β' : Type} {K : PySem.W.Frag} {mg : Str → Option Value} {W : WX} {σ : L2.St} {ω ω' : Wo} {rel : Wo → α → β → Prop} {Q : β → Hp → Prop} {rel' : Wo → α' → β' → Prop} {Q' : β' → Hp → Prop}
theorem Post.bd {r : R α} {f : α → Hc → R α'} (hp : Post K mg W σ ω rel' Q' (r.bd f))
    (hq : ∀ a h b ω', Ext ω ω' → Rel K ω' h → rel ω' a b → Post K mg W σ ω' rel' Q' (f a h) → Q b ω'.H) : Post K mg W σ ω rel Q r := by
  cases r with
  | ok a h =>
    intro b ω' e r1 ra
    refine hq a h b ω' e r1 ra ?_
    have hp' : Post K mg W σ ω rel' Q' (f a h) := hp
    cases q : f a h with
    | ok a2 h2 => rw [q] at hp'; exact fun b2 ω2 e2 => hp' b2 ω2 (e.trans e2)
    | ex x fs ds h2 => rw [q] at hp'; exact fun c d ω2 e2 => hp' c d ω2 (e.trans e2)
    | bad => rw [q] at hp'; exact hp'
  | ex x fs ds h => exact hp
  | bad => exact hp
theorem Post.mono {r : R α} (hp : Post K mg W σ ω rel Q r) (e : Ext ω ω') : Post K mg W σ ω' rel Q r := by
  cases r with
  | ok a h => exact fun b2 ω2 e2 => hp b2 ω2 (e.trans e2)
  | ex x fs ds h2 => exact fun c d ω2 e2 => hp c d ω2 (e.trans e2)
  | bad => exact hp
end
/-- a reading by data -/
def tOf {α β : Type} (K : PySem.W.Frag) (mg : Str → Option Value) (W : WX) (rel : Wo → α → β → Prop) (m : Sl → Hc → R α) : L2.St → Hp → (β → Hp → Prop) → Prop := fun σ H Q =>
  ∃ ω h ds, ω.H = H ∧ Rel K ω h ∧ RelS K ω ds σ ∧ Post K mg W σ ω rel Q (m ds h)
def relB : Wo → Bool → Bool → Prop := fun _ a b => a = b
abbrev tE (X : Cx) (W : WX) (m : SE) : TE := tOf X.K X.mg W (RelD X.K) m
abbrev tT (X : Cx) (W : WX) (m : SB) : TT := tOf X.K X.mg W relB m
abbrev tA (X : Cx) (W : WX) (m : SA) : TA := tOf X.K X.mg W (RelL X.K) m
abbrev DE (X : Cx) (W : WX) (e : Expr) (m : SE) : Prop := PE X e (tE X W m)
abbrev DT (X : Cx) (W : WX) (e : Expr) (m : SB) : Prop := PT X e (tT X W m)
abbrev DW (X : Cx) (W : WX) (e : Expr) (m : SB) : Prop := PW X e (tT X W m)
abbrev DA (X : Cx) (W : WX) (es : List Expr) (m : SA) : Prop := PA X es (tA X W m)
section
variable {X : Cx} {W : WX} {e a b : Expr} {es : List Expr} {pos : Pos} {ma mb m : SE} {t u : SB} {as : SA} {t1 : TE}
theorem de_of (h : PE X e t1) (hw : ∀ σ H Q, tE X W m σ H Q → t1 σ H Q) : DE X W e m := ⟨fun pins s σ H Q I q => h.run pins s σ H Q I (hw σ H Q q)⟩
theorem dt_of {t1 : TT} (h : PT X e t1) (hw : ∀ σ H Q, tT X W t σ H Q → t1 σ H Q) : DT X W e t := ⟨fun pins s σ H Q I q => h.run pins s σ H Q I (hw σ H Q q)⟩
theorem dw_of {t1 : TT} (h : PW X e t1) (hw : ∀ σ H Q, tT X W t σ H Q → t1 σ H Q) : DW X W e t := ⟨fun wh pins s σ H Q I q => h.run wh pins s σ H Q I (hw σ H Q q)⟩
theorem da_of {t1 : TA} (h : PA X es t1) (hw : ∀ σ H Q, tA X W as σ H Q → t1 σ H Q) : DA X W es as := ⟨fun pos pins s σ H Q I q => h.run pos pins s σ H Q I (hw σ H Q q)⟩
/-! ### names, constants -/
def eVar (i : Nat) : SE := fun ds h => match ds[i]? with
  | some (some d) => .ok d h
  | _ => .bad
def eC (d : D) : SE := fun _ h => .ok d h
theorem de_var {i : Nat} (h : PE X e (tVar i)) : DE X W e (eVar i) := de_of h fun σ H Q ⟨ω, h, ds, e1, r, s, p⟩ => by
  subst e1
  unfold eVar at p
  cases q : ds[i]? with
  | none => rw [q] at p; exact False.elim p
  | some o =>
    cases o with
    | none => rw [q] at p; exact False.elim p
    | some d =>
      rw [q] at p
      obtain ⟨v, e2, rd⟩ := s.2 i d q
      exact ⟨v, e2, p v ω (Ext.refl ω) r rd⟩
/-- a constant: it stands for d in every world -/
theorem de_c {v : V} {d : D} (h : PE X e (tC v)) (hd : ∀ ω, RelD X.K ω d v) : DE X W e (eC d) := de_of h fun σ H Q ⟨ω, h, ds, e1, r, s, p⟩ => by
  subst e1
  exact p v ω (Ext.refl ω) r (hd ω)
theorem de_int {i : Int} {j : Nat} : DE X W (.Constant (.int i) j pos) (eC (.int i)) := de_c pe_int fun _ => by unfold RelD; rfl
theorem de_bl {b : Bool} {j : Nat} : DE X W (.Constant (.bool b) j pos) (eC (.bl b)) := de_c pe_bl fun _ => by unfold RelD; rfl
theorem de_non {j : Nat} : DE X W (.Constant .none j pos) (eC .non) := de_c pe_non fun _ => by unfold RelD; rfl
theorem de_str {x : Str} {j : Nat} : DE X W (.Constant (.str x) j pos) (eC (.str x)) := de_c pe_str fun _ => by unfold RelD; rfl
/-! ### operators by values -/
def OpD (X : Cx) (r : R2) (f : D → D → Hc → R D) : Prop := ∀ (W : WX) (σ : L2.St) (ω : Wo) (h : Hc) (x y : D) (v u : V) (Q : VK), Rel X.K ω h → RelD X.K ω x v → RelD X.K ω y u → Post X.K X.mg W σ ω (RelD X.K) Q (f x y h) → r v u ω.H Q
def eOp (f : D → D → Hc → R D) (ma mb : SE) : SE := fun ds h => (ma ds h).bd fun x h1 => (mb ds h1).bd fun y h2 => f x y h2
theorem opw {r : R2} {f : D → D → Hc → R D} (ho : OpD X r f) : ∀ σ H Q, tE X W (eOp f ma mb) σ H Q → tOp r (tE X W ma) (tE X W mb) σ H Q := fun σ H Q ⟨ω, h, ds, e1, r, s, p⟩ => by
  subst e1
  exact ⟨ω, h, ds, rfl, r, s, p.bd fun x h1 v ω1 e1 r1 d1 p1 => ⟨ω1, h1, ds, rfl, r1, monoS r e1 s, p1.bd fun y h2 u ω2 e2 r2 d2 p2 => ho W σ ω2 h2 x y v u Q r2 (mono r1 e2 _ _ d1) d2 p2⟩⟩
theorem de_op {op : Operator} {r : R2} {f : D → D → Hc → R D} (ho : OpR X (binaryOp op) r) (hd : OpD X r f) (ha : DE X W a ma) (hb : DE X W b mb) : DE X W (.BinOp a op b pos) (eOp f ma mb) := de_of (pe_op ho ha hb) (opw hd)
theorem de_cmp {op : CmpOp} {r : R2} {f : D → D → Hc → R D} (ho : OpR X (compareOp op) r) (hd : OpD X r f) (ha : DE X W a ma) (hb : DE X W b mb) (hm : behindInMarks op b = false) : DE X W (.Compare a [op] [b] pos) (eOp f ma mb) := de_of (pe_cmpR ho ha hb hm) (opw hd)
theorem de_ix {r : R2} {f : D → D → Hc → R D} (hr : IxR X r) (hd : OpD X r f) (ha : DE X W a ma) (hb : DE X W b mb) (hs : PlainIx b) : DE X W (.Subscript a b pos) (eOp f ma mb) := de_of (pe_ix hr ha hb hs) (opw hd)
def UnD (X : Cx) (r : V → Hp → VK → Prop) (f : D → Hc → R D) : Prop := ∀ (W : WX) (σ : L2.St) (ω : Wo) (h : Hc) (x : D) (v : V) (Q : VK), Rel X.K ω h → RelD X.K ω x v → Post X.K X.mg W σ ω (RelD X.K) Q (f x h) → r v ω.H Q
def eUn (f : D → Hc → R D) (ma : SE) : SE := fun ds h => (ma ds h).bd fun x h1 => f x h1
theorem de_un {op : UnaryOp} {r : V → Hp → VK → Prop} {f : D → Hc → R D} (ho : UnR X (unaryOp op) r) (hd : UnD X r f) (ha : DE X W a ma) : DE X W (.UnaryOp op a pos) (eUn f ma) := de_of (pe_un ho ha) fun σ H Q ⟨ω, h, ds, e1, r, s, p⟩ => by
  subst e1
  exact ⟨ω, h, ds, rfl, r, s, p.bd fun x h1 v ω1 e1 r1 d1 p1 => hd W σ ω1 h1 x v Q r1 d1 p1⟩
/-! ### and, or, not, if as values -/
def isBl : D → Option Bool
  | .bl b => some b
  | _ => none
theorem isBl_rel {K : PySem.W.Frag} {ω : Wo} {d : D} {v : V} {b : Bool} (h : isBl d = some b) (r : RelD K ω d v) : v = .bl b := by
  cases d <;> simp [isBl] at h
  subst h
  unfold RelD at r; exact r
def eAnd (ma mb : SE) : SE := fun ds h => (ma ds h).bd fun x h1 => match isBl x with
  | some true => mb ds h1
  | some false => .ok (.bl false) h1
  | none => .bad
def eOr (ma mb : SE) : SE := fun ds h => (ma ds h).bd fun x h1 => match isBl x with
  | some true => .ok (.bl true) h1
  | some false => mb ds h1
  | none => .bad
def eNot (ma : SE) : SE := fun ds h => (ma ds h).bd fun x h1 => match isBl x with
  | some b => .ok (.bl (!b)) h1
  | none => .bad
theorem de_one {op : BoolOp} (ha : DE X W a ma) : DE X W (.BoolOp op [a] pos) ma := pe_one ha
theorem de_and (ha : DE X W a ma) (hb : DE X W (.BoolOp .And (b :: es) pos) mb) : DE X W (.BoolOp .And (a :: b :: es) pos) (eAnd ma mb) := de_of (pe_and ha hb) fun σ H Q ⟨ω, h, ds, e1, r, s, p⟩ => by
  subst e1
  refine ⟨ω, h, ds, rfl, r, s, p.bd fun x h1 v ω1 e1 r1 d1 p1 => ?_⟩
  cases q : isBl x with
  | none => rw [q] at p1; exact False.elim p1
  | some b =>
    rw [q] at p1
    refine ⟨b, isBl_rel q d1, ?_⟩
    cases b with
    | true => rw [if_pos rfl]; exact ⟨ω1, h1, ds, rfl, r1, monoS r e1 s, p1⟩
    | false => rw [if_neg Bool.false_ne_true]; exact p1 _ ω1 (Ext.refl _) r1 (by unfold RelD; rfl)
theorem de_not (ha : DE X W a ma) : DE X W (.UnaryOp .Not a pos) (eNot ma) := de_of (pe_not ha) fun σ H Q ⟨ω, h, ds, e1, r, s, p⟩ => by
  subst e1
  refine ⟨ω, h, ds, rfl, r, s, p.bd fun x h1 v ω1 e1 r1 d1 p1 => ?_⟩
  cases q : isBl x with
  | none => rw [q] at p1; exact False.elim p1
  | some b => rw [q] at p1; exact ⟨b, isBl_rel q d1, p1 _ ω1 (Ext.refl _) r1 (by unfold RelD; rfl)⟩
def eIf (t : SB) (ma mb : SE) : SE := fun ds h => (t ds h).bd fun b h1 => if b = true then ma ds h1 else mb ds h1
theorem de_if {c : Expr} (hc : DT X W c t) (ha : DE X W a ma) (hb : DE X W b mb) : DE X W (.IfExp c a b pos) (eIf t ma mb) := de_of (pe_ifExp hc ha hb) fun σ H Q ⟨ω, h, ds, e1, r, s, p⟩ => by
  subst e1
  refine ⟨ω, h, ds, rfl, r, s, p.bd fun x h1 v ω1 e1 r1 d1 p1 => ?_⟩
  have d1' : x = v := d1
  subst d1'
  cases x with
  | true => exact ⟨ω1, h1, ds, rfl, r1, monoS r e1 s, p1⟩
  | false => exact ⟨ω1, h1, ds, rfl, r1, monoS r e1 s, p1⟩
/-! ### tests -/
def bEx (m : SE) : SB := fun ds h => (m ds h).bd fun x h1 => match isBl x with
  | some b => .ok b h1
  | none => .bad
theorem tBw : ∀ σ H Q, tT X W (bEx m) σ H Q → tB (tE X W m) σ H Q := fun σ H Q ⟨ω, h, ds, e1, r, s, p⟩ => by
  subst e1
  refine ⟨ω, h, ds, rfl, r, s, p.bd fun x h1 v ω1 e1 r1 d1 p1 => ?_⟩
  cases q : isBl x with
  | none => rw [q] at p1; exact False.elim p1
  | some b => rw [q] at p1; exact ⟨b, isBl_rel q d1, p1 b ω1 (Ext.refl _) r1 rfl⟩
theorem dt_cmp {op : CmpOp} {r : R2} {f : D → D → Hc → R D} (ho : OpR X (compareOp op) r) (hd : OpD X r f) (ha : DE X W a ma) (hb : DE X W b mb) (hm : behindInMarks op b = false) : DT X W (.Compare a [op] [b] pos) (bEx (eOp f ma mb)) :=
  dt_of (pt_cmpR ho ha hb hm) fun σ H Q h => by
    obtain ⟨ω, h, ds, e1, r, s, p⟩ := h
    subst e1
    have p' : Post X.K X.mg W σ ω relB Q ((ma ds h).bd fun x h1 => (mb ds h1).bd fun y h2 => (f x y h2).bd fun x h1 => match isBl x with
      | some b => .ok b h1
      | none => .bad) := by
      unfold bEx eOp at p
      cases q : ma ds h with
      | ok x h1 =>
        rw [q] at p
        simp only [R.bd_ok] at p ⊢
        cases q2 : mb ds h1 with
        | ok y h2 => rw [q2] at p; exact p
        | ex _ _ _ _ => rw [q2] at p; exact p
        | bad => rw [q2] at p; exact p
      | ex _ _ _ _ => rw [q] at p; exact p
      | bad => rw [q] at p; exact p
    refine ⟨ω, h, ds, rfl, r, s, p'.bd fun x h1 v ω1 e1 r1 d1 p1 => ⟨ω1, h1, ds, rfl, r1, monoS r e1 s, p1.bd fun y h2 u ω2 e2 r2 d2 p2 => hd W σ ω2 h2 x y v u _ r2 (mono r1 e2 _ _ d1) d2 ?_⟩⟩
    refine p2.bd fun z h3 w ω3 e3 r3 d3 p3 => ?_
    cases q : isBl z with
    | none => rw [q] at p3; exact False.elim p3
    | some b => rw [q] at p3; exact ⟨b, isBl_rel q d3, p3 b ω3 (Ext.refl _) r3 rfl⟩
def bAnd (t u : SB) : SB := fun ds h => (t ds h).bd fun b h1 => if b = true then u ds h1 else .ok false h1
def bOr (t u : SB) : SB := fun ds h => (t ds h).bd fun b h1 => if b = true then .ok true h1 else u ds h1
def bNot (t : SB) : SB := fun ds h => (t ds h).bd fun b h1 => .ok (!b) h1
theorem dw_and1 (ha : DT X W a t) : DW X W (.BoolOp .And [a] pos) t := pw_and1 ha
theorem dw_or1 (ha : DT X W a t) : DW X W (.BoolOp .Or [a] pos) t := pw_or1 ha
theorem dw_and (ha : DT X W a t) (hb : DW X W (.BoolOp .And (b :: es) pos) u) : DW X W (.BoolOp .And (a :: b :: es) pos) (bAnd t u) := dw_of (pw_and ha hb) fun σ H Q ⟨ω, h, ds, e1, r, s, p⟩ => by
  subst e1
  refine ⟨ω, h, ds, rfl, r, s, p.bd fun x h1 v ω1 e1 r1 d1 p1 => ?_⟩
  have d1' : x = v := d1
  subst d1'
  cases x with
  | true => exact ⟨ω1, h1, ds, rfl, r1, monoS r e1 s, p1⟩
  | false => exact p1 _ ω1 (Ext.refl _) r1 rfl
theorem dw_or (ha : DT X W a t) (hb : DW X W (.BoolOp .Or (b :: es) pos) u) : DW X W (.BoolOp .Or (a :: b :: es) pos) (bOr t u) := dw_of (pw_or ha hb) fun σ H Q ⟨ω, h, ds, e1, r, s, p⟩ => by
  subst e1
  refine ⟨ω, h, ds, rfl, r, s, p.bd fun x h1 v ω1 e1 r1 d1 p1 => ?_⟩
  have d1' : x = v := d1
  subst d1'
  cases x with
  | true => exact p1 _ ω1 (Ext.refl _) r1 rfl
  | false => exact ⟨ω1, h1, ds, rfl, r1, monoS r e1 s, p1⟩
theorem dt_not (ha : DT X W a t) : DT X W (.UnaryOp .Not a pos) (bNot t) := dt_of (pt_not ha) fun σ H Q ⟨ω, h, ds, e1, r, s, p⟩ => by
  subst e1
  refine ⟨ω, h, ds, rfl, r, s, p.bd fun x h1 v ω1 e1 r1 d1 p1 => ?_⟩
  have d1' : x = v := d1
  subst d1'
  exact p1 _ ω1 (Ext.refl _) r1 rfl
/-! ### arguments, displays -/
def aNil : SA := fun _ h => .ok [] h
def aCons (m : SE) (as : SA) : SA := fun ds h => (m ds h).bd fun x h1 => (as ds h1).bd fun xs h2 => .ok (x :: xs) h2
theorem da_nil : DA X W [] aNil := da_of pa_nil fun σ H Q ⟨ω, h, ds, e1, r, s, p⟩ => by
  subst e1
  exact p _ ω (Ext.refl _) r RelL.nil
theorem da_cons (ha : DE X W e m) (hr : DA X W es as) (hs : starEach (e :: es) X.env = (false, eval e X.env) :: starEach es X.env := by rfl) : DA X W (e :: es) (aCons m as) := da_of (pa_cons ha hr hs) fun σ H Q ⟨ω, h, ds, e1, r, s, p⟩ => by
  subst e1
  exact ⟨ω, h, ds, rfl, r, s, p.bd fun x h1 v ω1 e1 r1 d1 p1 => ⟨ω1, h1, ds, rfl, r1, monoS r e1 s, p1.bd fun xs h2 vs ω2 e2 r2 d2 p2 => p2 _ ω2 (Ext.refl _) r2 (RelL.cons (mono r1 e2 _ _ d1) d2)⟩⟩
def lim : Nat := 1000000
theorem lim_le {n : Nat} (h : n ≤ lim) : n ≤ sizeLine := Nat.le_trans h (by rw [sizeLine_eq]; decide)
theorem lim_lt {n : Nat} (h : n < lim) : n < sizeLine := Nat.lt_of_lt_of_le h (by rw [sizeLine_eq]; decide)
def eTup (as : SA) : SE := fun ds h => (as ds h).bd fun xs h1 => if xs.length ≤ lim then .ok (.tup xs) h1 else .bad
/-- a list display whose list is never changed -/
def eLst (as : SA) : SE := fun ds h => (as ds h).bd fun xs h1 => if xs.length ≤ lim then .ok (.lst xs) h1 else .bad
/-- a list display: a new cell -/
def eCell (as : SA) : SE := fun ds h => (as ds h).bd fun xs h1 => if xs.length ≤ lim then .ok (.ref h1.length) (h1 ++ [.lst xs]) else .bad
theorem de_tup {x1} (ha : DA X W es as) : DE X W (.Tuple es x1 pos) (eTup as) := de_of (pe_tup ha) fun σ H Q ⟨ω, h, ds, e1, r, s, p⟩ => by
  subst e1
  refine ⟨ω, h, ds, rfl, r, s, p.bd fun xs h1 vs ω1 e1 r1 d1 p1 => ?_⟩
  by_cases hl : xs.length ≤ lim
  · rw [if_pos hl] at p1
    refine ⟨by rw [← d1.len]; exact lim_le hl, fun q hq => p1 _ (ω1.up q (.tup vs)) (Ext.up hq) (r1.up hq) ?_⟩
    unfold RelD
    exact ⟨q, vs, rfl, .inl (.inl upd_same), monoL r1 (Ext.up hq) _ _ d1⟩
  · rw [if_neg hl] at p1; exact False.elim p1
theorem fz_new {K : PySem.W.Frag} {ω : Wo} {h : Hc} {q : Addr} {xs : List D} {vs : List V} (r : Rel K ω h) (hq : ω.H q = none) (d : RelL K ω xs vs) : RelD K (ω.up q (.lst vs)) (.lst xs) (.ref q) := by
  unfold RelD
  exact ⟨q, vs, rfl, ⟨upd_same, r.free hq⟩, monoL r (Ext.up hq) _ _ d⟩
theorem cell_new {K : PySem.W.Frag} {ω : Wo} {h : Hc} {q : Addr} {xs : List D} {vs : List V} (r : Rel K ω h) (hq : ω.H q = none) (d : RelL K ω xs vs) :
    Rel K (ω.cell q (.lst vs)) (h ++ [.lst xs]) ∧ RelD K (ω.cell q (.lst vs)) (.ref h.length) (.ref q) := by
  refine ⟨r.cell hq ⟨vs, upd_same, monoL r (Ext.cell hq) _ _ d⟩, ?_⟩
  unfold RelD
  rw [← r.n]
  exact ⟨Nat.lt_succ_self _, by rw [Wo.cell_at]⟩
theorem de_lst (ha : DA X W es as) : DE X W (.List es pos) (eLst as) := de_of (pe_lst ha) fun σ H Q ⟨ω, h, ds, e1, r, s, p⟩ => by
  subst e1
  refine ⟨ω, h, ds, rfl, r, s, p.bd fun xs h1 vs ω1 e1 r1 d1 p1 => ?_⟩
  by_cases hl : xs.length ≤ lim
  · rw [if_pos hl] at p1
    exact ⟨by rw [← d1.len]; exact lim_le hl, fun q hq => p1 _ (ω1.up q (.lst vs)) (Ext.up hq) (r1.up hq) (fz_new r1 hq d1)⟩
  · rw [if_neg hl] at p1; exact False.elim p1
theorem de_cell (ha : DA X W es as) : DE X W (.List es pos) (eCell as) := de_of (pe_lst ha) fun σ H Q ⟨ω, h, ds, e1, r, s, p⟩ => by
  subst e1
  refine ⟨ω, h, ds, rfl, r, s, p.bd fun xs h1 vs ω1 e1 r1 d1 p1 => ?_⟩
  by_cases hl : xs.length ≤ lim
  · rw [if_pos hl] at p1
    exact ⟨by rw [← d1.len]; exact lim_le hl, fun q hq => p1 _ (ω1.cell q (.lst vs)) (Ext.cell hq) (cell_new r1 hq d1).1 (cell_new r1 hq d1).2⟩
  · rw [if_neg hl] at p1; exact False.elim p1
end
/-! ### statements -/
inductive O where
  | nx (ds : Sl) (h : Hc) | rt (d : D) (h : Hc) | bk (ds : Sl) (h : Hc) | ct (ds : Sl) (h : Hc) | ex (x : Str) (fs : List Str) (vs : List D) (ds : Sl) (h : Hc) | bad
abbrev SS := Sl → Hc → O
def PostO (K : PySem.W.Frag) (mg : Str → Option Value) (W : WX) (ω : Wo) (E : Ends) : O → Prop
  | .nx ds h => ∀ σ' ω', Ext ω ω' → Rel K ω' h → RelS K ω' ds σ' → E.nx σ' ω'.H
  | .rt d h => ∀ v ω', Ext ω ω' → Rel K ω' h → RelD K ω' d v → E.rt v ω'.H
  | .bk ds h => ∀ σ' ω', Ext ω ω' → Rel K ω' h → RelS K ω' ds σ' → E.bk σ' ω'.H
  | .ct ds h => ∀ σ' ω', Ext ω ω' → Rel K ω' h → RelS K ω' ds σ' → E.ct σ' ω'.H
  | .ex x fs vs ds h => ∀ cls dx σ' ω', Ext ω ω' → Rel K ω' h → RelS K ω' ds σ' → RelX K mg ω' x fs vs cls dx → W cls dx σ' ω'.H
  | .bad => False
def tS (X : Cx) (W : WX) (m : SS) : TS := fun E σ H => ∃ ω h ds, ω.H = H ∧ Rel X.K ω h ∧ RelS X.K ω ds σ ∧ PostO X.K X.mg W ω E (m ds h)
abbrev DS (X : Cx) (W : WX) (st : Stmt) (m : SS) : Prop := PS X st (tS X W m)
abbrev DSs (X : Cx) (W : WX) (st : List Stmt) (m : SS) : Prop := PSs X st (tS X W m)
/-- behind an expression -/
def sBd {α : Type} (r : R α) (ds : Sl) (f : α → Hc → O) : O := match r with
  | .ok a h => f a h
  | .ex x fs vs h => .ex x fs vs ds h
  | .bad => .bad
@[simp] theorem sBd_ok {α : Type} (a : α) (h : Hc) (ds : Sl) (f : α → Hc → O) : sBd (.ok a h) ds f = f a h := Eq.trans rfl rfl
section
variable {X : Cx} {W : WX} {K : PySem.W.Frag} {mg : Str → Option Value} {E : Ends} {ω ω' : Wo} {σ : L2.St} {ds : Sl} {h : Hc}
theorem PostO.mono {o : O} (p : PostO K mg W ω E o) (e : Ext ω ω') : PostO K mg W ω' E o := by
  cases o with
  | nx ds h => exact fun s w x => p s w (e.trans x)
  | rt d h => exact fun s w x => p s w (e.trans x)
  | bk ds h => exact fun s w x => p s w (e.trans x)
  | ct ds h => exact fun s w x => p s w (e.trans x)
  | ex x fs vs ds h => exact fun c d s w x => p c d s w (e.trans x)
  | bad => exact p
theorem PostO.bd {α β : Type} {r : R α} {f : α → Hc → O} {rel : Wo → α → β → Prop} {Q : β → Hp → Prop} (hr : Rel K ω h) (hs : RelS K ω ds σ) (hp : PostO K mg W ω E (sBd r ds f))
    (hq : ∀ a h b ω', Ext ω ω' → Rel K ω' h → rel ω' a b → RelS K ω' ds σ → PostO K mg W ω' E (f a h) → Q b ω'.H) : Post K mg W σ ω rel Q r := by
  cases r with
  | ok a h1 => exact fun b ω' e r1 ra => hq a h1 b ω' e r1 ra (monoS hr e hs) (PostO.mono (o := f a h1) hp e)
  | ex x fs vs h1 => exact fun c d ω' e r1 rx => hp c d σ ω' e r1 (monoS hr e hs) rx
  | bad => exact hp
end
def sSeq (a b : SS) : SS := fun ds h => match a ds h with
  | .nx ds' h' => b ds' h'
  | o => o
def sNext : SS := fun ds h => .nx ds h
def sRet (m : SE) : SS := fun ds h => sBd (m ds h) ds fun d h1 => .rt d h1
def sDrop (m : SE) : SS := fun ds h => sBd (m ds h) ds fun _ h1 => .nx ds h1
def sIf (t : SB) (a b : SS) : SS := fun ds h => sBd (t ds h) ds fun c h1 => if c = true then a ds h1 else b ds h1
def sBad : SS := fun _ _ => .bad
section
variable {X : Cx} {W : WX} {st : Stmt} {rest sts : List Stmt} {a b m : SS} {me : SE} {t : SB} {e c : Expr} {pos : Pos}
theorem ds_of {t1 : TS} (h : PS X st t1) (hw : ∀ E σ H, tS X W m E σ H → t1 E σ H) : DS X W st m := ⟨fun pins s σ H E I q => h.run pins s σ H E I (hw E σ H q)⟩
theorem dss_of {t1 : TS} (h : PSs X sts t1) (hw : ∀ E σ H, tS X W m E σ H → t1 E σ H) : DSs X W sts m := ⟨fun pins s σ H E I q => h.run pins s σ H E I (hw E σ H q)⟩
theorem dss_nil : DSs X W [] sNext := dss_of pss_nil fun E σ H ⟨ω, h, ds, e1, r, s, p⟩ => by
  subst e1
  exact p σ ω (Ext.refl _) r s
theorem dss_one (h : DS X W st m) : DSs X W [st] m := pss_one h
theorem dss_cons (ha : DS X W st a) (hb : DSs X W rest b) : DSs X W (st :: rest) (sSeq a b) := dss_of (pss_cons ha hb) fun E σ H ⟨ω, h, ds, e1, r, s, p⟩ => by
  subst e1
  refine ⟨ω, h, ds, rfl, r, s, ?_⟩
  unfold sSeq at p
  cases q : a ds h with
  | nx ds' h' =>
    rw [q] at p
    exact fun σ' ω' e r' s' => ⟨ω', h', ds', rfl, r', s', PostO.mono (o := b ds' h') p e⟩
  | rt d h' => rw [q] at p; exact p
  | bk ds' h' => rw [q] at p; exact p
  | ct ds' h' => rw [q] at p; exact p
  | ex x fs vs ds' h' => rw [q] at p; exact p
  | bad => rw [q] at p; exact p
theorem ds_break : DS X W (.Break pos) (fun ds h => .bk ds h) := ds_of ps_break fun E σ H ⟨ω, h, ds, e1, r, s, p⟩ => by
  subst e1
  exact p σ ω (Ext.refl _) r s
theorem ds_ret (he : DE X W e me) : DS X W (.Return (some e) pos) (sRet me) := ds_of (ps_ret he) fun E σ H ⟨ω, h, ds, e1, r, s, p⟩ => by
  subst e1
  exact ⟨ω, h, ds, rfl, r, s, PostO.bd r s p fun d h1 v ω' e r1 rd s1 p1 => p1 v ω' (Ext.refl _) r1 rd⟩
theorem ds_drop (he : DE X W e me) (hs : swapsWith e none pos.line X.env = pure false := by rfl) : DS X W (.Expr e pos) (sDrop me) := ds_of (ps_expr he hs) fun E σ H ⟨ω, h, ds, e1, r, s, p⟩ => by
  subst e1
  exact ⟨ω, h, ds, rfl, r, s, PostO.bd r s p fun d h1 v ω' e r1 rd s1 p1 => p1 σ ω' (Ext.refl _) r1 s1⟩
theorem ds_if (hc : DT X W c t) (ha : DSs X W sts a) (hb : DSs X W rest b) : DS X W (.If c sts rest pos) (sIf t a b) := ds_of (ps_if hc ha hb) fun E σ H ⟨ω, h, ds, e1, r, s, p⟩ => by
  subst e1
  refine ⟨ω, h, ds, rfl, r, s, PostO.bd r s p fun x h1 v ω' e r1 rd s1 p1 => ?_⟩
  have rd' : x = v := rd
  subst rd'
  cases x with
  | true => exact ⟨ω', h1, ds, rfl, r1, s1, p1⟩
  | false => exact ⟨ω', h1, ds, rfl, r1, s1, p1⟩
/-! ### stores -/
theorem RelS.set {K : PySem.W.Frag} {ω : Wo} {ds : Sl} {σ : L2.St} {d : D} {v : V} (s : RelS K ω ds σ) (i : Nat) (r : RelD K ω d v) : RelS K ω (ds.set i (some d)) (σ.set i (some v)) := by
  refine ⟨by rw [List.length_set, List.length_set]; exact s.1, fun j d' hj => ?_⟩
  by_cases hi : i = j
  · subst hi
    have hl : i < ds.length := by
      have := (List.getElem?_eq_some_iff.mp hj).1
      rw [List.length_set] at this; exact this
    rw [List.getElem?_set_self hl] at hj
    have : d = d' := by simpa using hj
    subst this
    exact ⟨v, by rw [List.getElem?_set_self (by rw [← s.1]; exact hl)], r⟩
  · rw [List.getElem?_set_ne hi] at hj
    obtain ⟨v', e1, e2⟩ := s.2 j d' hj
    exact ⟨v', by rw [List.getElem?_set_ne hi]; exact e1, e2⟩
def sSet (i : Nat) (m : SE) : SS := fun ds h => sBd (m ds h) ds fun d h1 => .nx (ds.set i (some d)) h1
theorem ds_set {i : Nat} {tg : Expr} (h : PS X (.Assign [tg] e pos) (tAsg (tE X W me) (gName i))) : DS X W (.Assign [tg] e pos) (sSet i me) := ds_of h fun E σ H ⟨ω, h, ds, e1, r, s, p⟩ => by
  subst e1
  exact ⟨ω, h, ds, rfl, r, s, PostO.bd r s p fun d h1 v ω' e r1 rd s1 p1 => p1 _ ω' (Ext.refl _) r1 (s1.set i rd)⟩
end
end Mp
/-! LayC: loops, targets, comprehensions, calls, defs. -/
namespace Mp
open PySem PySem.Spec PyProof.Rows L2
/-! ### while -/
def wl (t : SB) (b : SS) : Nat → SS
  | 0 => sBad
  | n + 1 => fun ds h => sBd (t ds h) ds fun c h1 => if c = true then (match b ds h1 with
      | .nx ds' h' => wl t b n ds' h'
      | .ct ds' h' => wl t b n ds' h'
      | .bk ds' h' => .nx ds' h'
      | o => o) else .nx ds h1
section
variable {X : Cx} {W : WX} {sts : List Stmt} {b : SS} {t : SB} {c : Expr} {pos : Pos}
theorem ds_while (n : Nat) (hp : PassesOwn (model X.prog X.w) X.A X.env X.xe) (hc : DT X W c t) (hb : DSs X W sts b) : DS X W (.While c sts [] pos) (wl t b n) := ds_of (ps_while hp hc hb) fun E σ H ⟨ω, h, ds, e1, r, s, p⟩ => by
  subst e1
  refine ⟨fun m σ' H' => ∃ ω1 h1 ds1, ω1.H = H' ∧ Rel X.K ω1 h1 ∧ RelS X.K ω1 ds1 σ' ∧ PostO X.K X.mg W ω1 E (wl t b m ds1 h1), ⟨n, ω, h, ds, rfl, r, s, p⟩, ?_⟩
  rintro m σ' H' ⟨ω1, h1, ds1, rfl, r1, s1, p1⟩
  cases m with
  | zero => exact False.elim p1
  | succ m =>
    refine ⟨ω1, h1, ds1, rfl, r1, s1, PostO.bd r1 s1 p1 fun x h2 v ω2 e2 r2 d2 s2 p2 => ?_⟩
    have d2' : x = v := d2
    subst d2'
    cases x with
    | false => exact p2 σ' ω2 (Ext.refl _) r2 s2
    | true =>
      rw [if_pos rfl] at p2 ⊢
      refine ⟨fun σ3 H3 => ∃ ω3 h3 ds3, ω3.H = H3 ∧ Rel X.K ω3 h3 ∧ RelS X.K ω3 ds3 σ3 ∧ PostO X.K X.mg W ω3 E (wl t b m ds3 h3), fun σ3 H3 z => ⟨m, Nat.lt_succ_self m, z⟩, ω2, h2, ds1, rfl, r2, s2, ?_⟩
      cases q : b ds1 h2 with
      | nx ds' h' => rw [q] at p2; exact fun σ3 ω3 e3 r3 s3 => ⟨ω3, h', ds', rfl, r3, s3, PostO.mono (o := wl t b m ds' h') p2 e3⟩
      | ct ds' h' => rw [q] at p2; exact fun σ3 ω3 e3 r3 s3 => ⟨ω3, h', ds', rfl, r3, s3, PostO.mono (o := wl t b m ds' h') p2 e3⟩
      | bk ds' h' => rw [q] at p2; exact p2
      | rt d h' => rw [q] at p2; exact p2
      | ex x fs vs ds' h' => rw [q] at p2; exact p2
      | bad => rw [q] at p2; exact p2
end
/-! ### targets -/
inductive Pt where
  | n (i : Nat) | t (ps : List Pt)
mutual
def Pt.slots : Pt → List Nat
  | .n i => [i]
  | .t ps => Pt.slotsL ps
def Pt.slotsL : List Pt → List Nat
  | [] => []
  | p :: ps => p.slots ++ Pt.slotsL ps
end
/-- the items of a sequence -/
def seqD (h : Hc) : D → Option (List D)
  | .tup xs => some xs
  | .lst xs => some xs
  | .scr xs => some xs
  | .ref i => match h[i]? with
    | some (.lst xs) => some xs
    | _ => none
  | _ => none
mutual
def bindP (h : Hc) : Pt → D → Sl → Option Sl
  | .n i, d, ds => some (ds.set i (some d))
  | .t ps, d, ds => match seqD h d with
    | some xs => bindPs h ps xs ds
    | none => none
def bindPs (h : Hc) : List Pt → List D → Sl → Option Sl
  | [], [], ds => some ds
  | p :: ps, x :: xs, ds => match bindP h p x ds with
    | some ds1 => bindPs h ps xs ds1
    | none => none
  | _, _, _ => none
end
section
variable {K : PySem.W.Frag} {ω ω' : Wo} {h h' : Hc} {d : D} {v : V}
theorem seqD_rel {xs : List D} (r : Rel K ω h) (e : seqD h d = some xs) (x : RelD K ω d v) : ∃ p vs, v = .ref p ∧ (SqT K ω.H p vs ∨ SqL K ω.H p vs) ∧ RelL K ω xs vs := by
  cases d with
  | tup ys =>
    simp [seqD] at e; subst e
    unfold RelD at x
    obtain ⟨p, vs, e1, e2, e3⟩ := x
    exact ⟨p, vs, e1, .inl e2, e3⟩
  | lst ys =>
    simp [seqD] at e; subst e
    unfold RelD at x
    obtain ⟨p, vs, e1, e2, e3⟩ := x
    exact ⟨p, vs, e1, .inr (.inl (.inl e2.1)), e3⟩
  | scr ys =>
    simp [seqD] at e; subst e
    unfold RelD at x
    obtain ⟨p, vs, e1, e2, e3⟩ := x
    exact ⟨p, vs, e1, .inr e2.sq, e3⟩
  | ref i =>
    unfold RelD at x
    obtain ⟨hi, e1⟩ := x
    unfold seqD at e
    cases q : h[i]? with
    | none => simp [q] at e
    | some c =>
      cases c with
      | lst ys =>
        simp [q] at e; subst e
        obtain ⟨vs, e2, e3⟩ := r.cel i _ q
        exact ⟨_, vs, e1, .inr (.inl (.inl e2)), e3⟩
      | dct ks ys => simp [q] at e
  | _ => simp [seqD] at e
theorem wipe_set_out {σ : L2.St} {i : Nat} {x : Option V} : ∀ {ws : List Nat}, i ∉ ws → wipe (σ.set i x) ws = (wipe σ ws).set i x
  | [], _ => rfl
  | w :: ws, hn => by
    have h1 : i ≠ w := fun e => hn (by simp [e])
    have h2 : i ∉ ws := fun e => hn (by simp [e])
    unfold wipe
    rw [wipe_set_out h2, List.set_comm _ _ h1]
theorem wipe_set_in {σ : L2.St} {i : Nat} {x : Option V} : ∀ {ws : List Nat}, i ∈ ws → wipe (σ.set i x) ws = wipe σ ws
  | [], hi => by simp at hi
  | w :: ws, hi => by
    unfold wipe
    by_cases h2 : i ∈ ws
    · rw [wipe_set_in h2]
    · have e : i = w := by simpa [h2] using hi
      subst e
      rw [wipe_set_out h2, List.set_set]
end
/-- a target's reading -/
def tP (K : PySem.W.Frag) (p : Pt) : TG := fun v σ H Q => ∃ ω h ds d ds', ω.H = H ∧ Rel K ω h ∧ RelS K ω ds σ ∧ RelD K ω d v ∧ bindP h p d ds = some ds' ∧ ∀ σ', RelS K ω ds' σ' → (∀ ws, (∀ i ∈ p.slots, i ∈ ws) → wipe σ' ws = wipe σ ws) → Q σ' H
def tPs (K : PySem.W.Frag) (ps : List Pt) : TGs := fun vs σ H Q => ∃ ω h ds xs ds', ω.H = H ∧ Rel K ω h ∧ RelS K ω ds σ ∧ RelL K ω xs vs ∧ bindPs h ps xs ds = some ds' ∧ ∀ σ', RelS K ω ds' σ' → (∀ ws, (∀ i ∈ Pt.slotsL ps, i ∈ ws) → wipe σ' ws = wipe σ ws) → Q σ' H
abbrev DG (X : Cx) (tg : Expr) (p : Pt) : Prop := PG X tg (tP X.K p)
abbrev DGs (X : Cx) (tgs : List Expr) (ps : List Pt) : Prop := PGs X tgs (tPs X.K ps)
section
variable {X : Cx} {tg : Expr} {tgs es : List Expr} {p : Pt} {ps : List Pt} {pos : Pos} {k : Nat}
theorem dg_of {t1 : TG} (h : PG X tg t1) (hw : ∀ v σ H Q, tP X.K p v σ H Q → t1 v σ H Q) : DG X tg p := ⟨fun pins s σ H v u Q I r q => h.run pins s σ H v u Q I r (hw v σ H Q q)⟩
theorem dgs_of {t1 : TGs} (h : PGs X tgs t1) (hw : ∀ v σ H Q, tPs X.K ps v σ H Q → t1 v σ H Q) : DGs X tgs ps := ⟨fun pins s σ H v u Q I r q => h.run pins s σ H v u Q I r (hw v σ H Q q)⟩
theorem dg_n {i : Nat} (h : PG X tg (gName i)) : DG X tg (.n i) := dg_of h fun v σ H Q ⟨ω, h, ds, d, ds', e1, r, s, rd, eb, q⟩ => by
  subst e1
  simp [bindP] at eb; subst eb
  exact q _ (s.set i rd) fun ws hw => wipe_set_in (hw i (by simp [Pt.slots]))
theorem dgs_nil : DGs X [] [] := dgs_of pgs_nil fun v σ H Q ⟨ω, h, ds, xs, ds', e1, r, s, rd, eb, q⟩ => by
  subst e1
  cases xs with
  | nil =>
    simp [bindPs] at eb; subst eb
    exact ⟨rd.inv0, q σ s fun _ _ => rfl⟩
  | cons x xs => simp [bindPs] at eb
theorem dgs_cons {e : Expr} (h1 : DG X e p) (h2 : DGs X es ps) (h : PGs X (e :: es) (gCons (tP X.K p) (tPs X.K ps))) : DGs X (e :: es) (p :: ps) := dgs_of h fun v σ H Q ⟨ω, h, ds, xs, ds', e1, r, s, rd, eb, q⟩ => by
  subst e1
  cases xs with
  | nil => simp [bindPs] at eb
  | cons x xs =>
    obtain ⟨v1, ws, rfl, ra, rb⟩ := rd.inv
    unfold bindPs at eb
    cases q1 : bindP h p x ds with
    | none => simp [q1] at eb
    | some ds1 =>
      simp [q1] at eb
      exact ⟨v1, ws, rfl, ω, h, ds, x, ds1, rfl, r, s, ra, q1, fun σ' s' w' => ⟨ω, h, ds1, xs, ds', rfl, r, s', rb, eb, fun σ'' s'' w'' => q σ'' s'' fun ws' hw => (w'' ws' fun i hi => hw i (by simp [Pt.slotsL, hi])).trans (w' ws' fun i hi => hw i (by simp [Pt.slotsL, hi]))⟩⟩
theorem bindPs_len : ∀ {h : Hc} {ps : List Pt} {xs : List D} {ds ds' : Sl}, bindPs h ps xs ds = some ds' → xs.length = ps.length
  | _, [], [], _, _, _ => rfl
  | _, [], x :: xs, _, _, e => by simp [bindPs] at e
  | _, p :: ps, [], _, _, e => by simp [bindPs] at e
  | h, p :: ps, x :: xs, ds, ds', e => by
    unfold bindPs at e
    cases q1 : bindP h p x ds with
    | none => simp [q1] at e
    | some ds1 => simp [q1] at e; rw [List.length_cons, List.length_cons, bindPs_len e]
theorem pg_or {t1 t2 : TG} (h1 : PG X tg t1) (h2 : PG X tg t2) : PG X tg (fun v σ H Q => t1 v σ H Q ∨ t2 v σ H Q) :=
  ⟨fun pins s σ H v u Q I r q => q.elim (fun q => h1.run pins s σ H v u Q I r q) fun q => h2.run pins s σ H v u Q I r q⟩
theorem dg_t (hc : X.calm = true) (h : DGs X es ps)
    (h1 : PG X (.Tuple es k pos) (gTup X.K ps.length (tPs X.K ps))) (h2 : PG X (.Tuple es k pos) (gLst X.K ps.length (tPs X.K ps))) : DG X (.Tuple es k pos) (.t ps) :=
  dg_of (pg_or h1 h2) fun v σ H Q ⟨ω, h, ds, d, ds', e1, r, s, rd, eb, q⟩ => by
    subst e1
    unfold bindP at eb
    cases q1 : seqD h d with
    | none => simp [q1] at eb
    | some xs =>
      simp [q1] at eb
      obtain ⟨a, vs, rfl, sq, rl⟩ := seqD_rel r q1 rd
      have hl : vs.length = ps.length := by rw [← rl.len]; exact bindPs_len eb
      have q' : tPs X.K ps vs σ ω.H Q := ⟨ω, h, ds, xs, ds', rfl, r, s, rl, eb, fun σ' s' w' => q σ' s' fun ws hw => w' ws fun i hi => hw i (by simp [Pt.slots, hi])⟩
      rcases sq with sq | sq
      · exact .inl ⟨a, vs, rfl, sq, hl, q'⟩
      · exact .inr ⟨a, vs, rfl, sq, hl, q'⟩
end
/-- target = expression -/
def sAsg (p : Pt) (m : SE) : SS := fun ds h => sBd (m ds h) ds fun d h1 => match bindP h1 p d ds with
  | some ds' => .nx ds' h1
  | none => .bad
/-! ### what is walked -/
structure ItD where
  items : List D
  chk : Hc → Bool
abbrev SI := Sl → Hc → R ItD
def ItOk (K : PySem.W.Frag) (ω : Wo) (it : ItD) (J : It) : Prop := ∀ (i : Nat) (ω' : Wo) (h' : Hc), Ext ω ω' → Rel K ω' h' → it.chk h' = true →
  (∀ d, it.items[i]? = some d → J.go i ω'.H ∧ ∀ x H', J.yld i ω'.H x H' → ∃ ω2, ω2.H = H' ∧ Ext ω' ω2 ∧ Rel K ω2 h' ∧ RelD K ω2 d x) ∧ (it.items[i]? = none → J.stop i ω'.H)
abbrev tI (X : Cx) (W : WX) (m : SI) : TI := tOf X.K X.mg W (ItOk X.K) m
abbrev DI (X : Cx) (W : WX) (tg iter : Expr) (m : SI) : Prop := PI X tg iter (tI X W m)
section
variable {X : Cx} {W : WX} {tg iter e : Expr} {m : SE} {mi : SI}
theorem di_of {t1 : TI} (h : PI X tg iter t1) (hw : ∀ σ H R, tI X W mi σ H R → t1 σ H R) : DI X W tg iter mi := ⟨fun pins s σ H R I q => h.run pins s σ H R I (hw σ H R q)⟩
theorem pi_or {t1 t2 : TI} (h1 : PI X tg iter t1) (h2 : PI X tg iter t2) : PI X tg iter (fun σ H R => t1 σ H R ∨ t2 σ H R) :=
  ⟨fun pins s σ H R I q => q.elim (fun q => h1.run pins s σ H R I q) fun q => h2.run pins s σ H R I q⟩
end
def fl (chk : Hc → Bool) (p : Pt) (b : SS) : List D → SS
  | [] => fun ds h => if chk h = true then .nx ds h else .bad
  | d :: r => fun ds h => if chk h = true then (match bindP h p d ds with
      | some ds1 => (match b ds1 h with
        | .nx ds' h' => fl chk p b r ds' h'
        | .ct ds' h' => fl chk p b r ds' h'
        | .bk ds' h' => .nx ds' h'
        | o => o)
      | none => .bad) else .bad
def sFor (mi : SI) (p : Pt) (b : SS) : SS := fun ds h => sBd (mi ds h) ds fun it h1 => fl it.chk p b it.items ds h1
theorem PostO.if_ {K : PySem.W.Frag} {mg : Str → Option Value} {W : WX} {ω : Wo} {E : Ends} {c : Prop} [Decidable c] {o : O} (p : PostO K mg W ω E (if c then o else .bad)) : c ∧ PostO K mg W ω E o := by
  by_cases h : c
  · rw [if_pos h] at p; exact ⟨h, p⟩
  · rw [if_neg h] at p; exact False.elim p
theorem ds_for {X : Cx} {W : WX} {tg iter : Expr} {sts : List Stmt} {mi : SI} {p : Pt} {b : SS} {pos : Pos}
    (h : PS X (.For tg iter sts [] pos) (tFor (tI X W mi) (tP X.K p) (tS X W b))) : DS X W (.For tg iter sts [] pos) (sFor mi p b) := ds_of h fun E σ H ⟨ω, h, ds, e1, r, s, q⟩ => by
  subst e1
  refine ⟨ω, h, ds, rfl, r, s, PostO.bd r s q fun it h1 J ω1 ex1 r1 ok s1 p1 => ?_⟩
  refine ⟨fun i m σ' H' => ∃ ω2 h2 ds2, ω2.H = H' ∧ Ext ω1 ω2 ∧ Rel X.K ω2 h2 ∧ RelS X.K ω2 ds2 σ' ∧ m = (it.items.drop i).length ∧ PostO X.K X.mg W ω2 E (fl it.chk p b (it.items.drop i) ds2 h2), ⟨_, ω1, h1, ds, rfl, Ext.refl _, r1, s1, rfl, p1⟩, ?_⟩
  rintro i m σ' H' ⟨ω2, h2, ds2, rfl, e2, r2, s2, hm, p2⟩
  cases q1 : it.items.drop i with
  | nil =>
    rw [q1] at p2
    unfold fl at p2
    obtain ⟨hk, p2⟩ := p2.if_
    refine .inl ⟨(ok i ω2 h2 e2 r2 hk).2 ?_, p2 σ' ω2 (Ext.refl _) r2 s2⟩
    have : it.items.length ≤ i := List.drop_eq_nil_iff.mp q1
    exact List.getElem?_eq_none this
  | cons d rest =>
    rw [q1] at p2
    unfold fl at p2
    obtain ⟨hk, p2⟩ := p2.if_
    have hd : it.items[i]? = some d := by
      have := congrArg (fun l => l[0]?) q1
      simpa using this
    have hrest : it.items.drop (i + 1) = rest := by
      have := congrArg List.tail q1
      simpa using this
    obtain ⟨go, yl⟩ := (ok i ω2 h2 e2 r2 hk).1 d hd
    refine .inr ⟨go, fun σ3 H3 => ∃ ω3 h3 ds3, ω3.H = H3 ∧ Ext ω1 ω3 ∧ Rel X.K ω3 h3 ∧ RelS X.K ω3 ds3 σ3 ∧ PostO X.K X.mg W ω3 E (fl it.chk p b rest ds3 h3), fun σ3 H3 ⟨ω3, h3, ds3, a1, a2, a3, a4, a5⟩ => ⟨rest.length, by rw [hm, q1]; exact Nat.lt_succ_self _, ω3, h3, ds3, a1, a2, a3, a4, by rw [hrest], by rw [hrest]; exact a5⟩, fun x H' hy => ?_⟩
    obtain ⟨ω3, rfl, e3, r3, d3⟩ := yl x H' hy
    cases q2 : bindP h2 p d ds2 with
    | none => rw [q2] at p2; exact False.elim p2
    | some ds3 =>
      rw [q2] at p2
      refine ⟨ω3, h2, ds2, d, ds3, rfl, r3, monoS r2 e3 s2, d3, q2, fun σ4 s4 _ => ⟨ω3, h2, ds3, rfl, r3, s4, ?_⟩⟩
      have p3 := PostO.mono p2 e3
      cases q3 : b ds3 h2 with
      | nx ds' h' => simp only [q3] at p3; exact fun σ5 ω5 e5 r5 s5 => ⟨ω5, h', ds', rfl, (e2.trans e3).trans e5, r5, s5, PostO.mono (o := fl it.chk p b rest ds' h') p3 e5⟩
      | ct ds' h' => simp only [q3] at p3; exact fun σ5 ω5 e5 r5 s5 => ⟨ω5, h', ds', rfl, (e2.trans e3).trans e5, r5, s5, PostO.mono (o := fl it.chk p b rest ds' h') p3 e5⟩
      | bk ds' h' => simp only [q3] at p3; exact p3
      | rt d h' => simp only [q3] at p3; exact p3
      | ex x fs vs ds' h' => simp only [q3] at p3; exact p3
      | bad => simp only [q3] at p3; exact p3
/-! ### comprehensions -/
def R.nox {α : Type} : R α → R α
  | .ok a h => .ok a h
  | _ => .bad
@[simp] theorem R.nox_ok {α : Type} (a : α) (h : Hc) : (R.ok a h).nox = .ok a h := Eq.trans rfl rfl
def wipeD (ds : Sl) : List Nat → Sl
  | [] => ds
  | v :: vs => (wipeD ds vs).set v none
abbrev W0 : WX := fun _ _ _ _ => False
def lcR (chk : Hc → Bool) (p : Pt) (own : List Nat) (c : SB) (m : SE) (ds : Sl) : List D → List D → Hc → R (List D)
  | [], acc, h => if chk h = true then .ok acc h else .bad
  | d :: r, acc, h => if chk h = true then (match bindP h p d (wipeD ds own) with
      | some ds1 => (c ds1 h).nox.bd fun b h1 => if b = true then (m ds1 h1).nox.bd fun y h2 => if acc.length < lim then lcR chk p own c m ds r (acc ++ [y]) h2 else .bad else lcR chk p own c m ds r acc h1
      | none => .bad) else .bad
def eLc (mi : SI) (p : Pt) (own : List Nat) (c : SB) (m : SE) : SE := fun ds h => (mi ds h).bd fun it h1 => (lcR it.chk p own c m ds it.items [] h1).bd fun xs h2 => .ok (.lst xs) h2
def eLcC (mi : SI) (p : Pt) (own : List Nat) (c : SB) (m : SE) : SE := fun ds h => (mi ds h).bd fun it h1 => (lcR it.chk p own c m ds it.items [] h1).bd fun xs h2 => .ok (.ref h2.length) (h2 ++ [.lst xs])
section
variable {K : PySem.W.Frag} {ω ω' : Wo} {h h' : Hc} {ds : Sl} {σ : L2.St}
theorem RelS.wipe (s : RelS K ω ds σ) : ∀ own : List Nat, RelS K ω (wipeD ds own) (wipe σ own)
  | [] => s
  | v :: vs => by
    have ih := RelS.wipe s vs
    unfold wipeD L2.wipe
    refine ⟨by rw [List.length_set, List.length_set]; exact ih.1, fun j d hj => ?_⟩
    by_cases hv : v = j
    · subst hv
      have hl : v < (wipeD ds vs).length := by
        have := (List.getElem?_eq_some_iff.mp hj).1
        rw [List.length_set] at this; exact this
      rw [List.getElem?_set_self hl] at hj; cases hj
    · rw [List.getElem?_set_ne hv] at hj ⊢
      exact ih.2 j d hj
/-- the list at q, which is not read as data, grows -/
theorem hid (r : Rel K ω h) {q : Addr} {vs ws : List V} (hA : ω.A q) (hb : ∀ i, i < ω.n → ω.β i ≠ q) (hq : ω.H q = some (.lst vs)) :
    Rel K (ω.up q (.lst ws)) h ∧ (∀ d v, RelD K ω d v → RelD K (ω.up q (.lst ws)) d v) ∧ ∀ ds vs, RelL K ω ds vs → RelL K (ω.up q (.lst ws)) ds vs := by
  have stT : ∀ p vs', SqT K ω.H p vs' → SqT K (upd ω.H q (.lst ws)) p vs' := fun p vs' x => by
    have ne : ∀ o, ω.H p = some o → (∀ l, o ≠ .lst l) → p ≠ q := fun o z1 z2 e => by rw [e, hq] at z1; cases z1; exact z2 _ rfl
    rcases x with (x | ⟨o, x⟩) | x
    · exact .inl (.inl (by rw [upd_ne (ne _ x (by intro l z; cases z))]; exact x))
    · exact .inl (.inr ⟨o, by rw [upd_ne (ne _ x (by intro l z; cases z))]; exact x⟩)
    · exact .inr x
  have stR : ∀ p o, ω.H p = some o → ¬ ω.A p → (upd ω.H q (.lst ws)) p = some o := fun p o x n => by
    have ne : p ≠ q := fun e => n (e ▸ hA)
    rw [upd_ne ne]; exact x
  have stK : ∀ p vs', LkL K ω p vs' → LkL K (ω.up q (.lst ws)) p vs' := fun p vs' x => by
    rcases x with ⟨o, x⟩ | x
    · refine .inl ⟨o, ?_⟩
      show upd ω.H q (.lst ws) p = _
      rw [upd_ne (fun e => by rw [e, hq] at x; cases x)]; exact x
    · exact .inr x
  have key : (∀ d v, RelD K ω d v → RelD K (ω.up q (.lst ws)) d v) ∧ ∀ ds vs, RelL K ω ds vs → RelL K (ω.up q (.lst ws)) ds vs := by
    have aux := @D.rec (motive_1 := fun d => ∀ v, RelD K ω d v → RelD K (ω.up q (.lst ws)) d v) (motive_2 := fun ds => ∀ vs, RelL K ω ds vs → RelL K (ω.up q (.lst ws)) ds vs)
      (fun v x => by unfold RelD at x ⊢; exact x) (fun b v x => by unfold RelD at x ⊢; exact x) (fun i v x => by unfold RelD at x ⊢; exact x) (fun s v x => by unfold RelD at x ⊢; exact x)
      (fun ds ih v x => by unfold RelD at x ⊢; obtain ⟨p, vs', e1, e2, e3⟩ := x; exact ⟨p, vs', e1, stT p vs' e2, ih _ e3⟩)
      (fun ds ih v x => by unfold RelD at x ⊢; obtain ⟨p, vs', e1, ⟨e2, n⟩, e3⟩ := x; exact ⟨p, vs', e1, ⟨stR _ _ e2 n, n⟩, ih _ e3⟩)
      (fun ds ih v x => by unfold RelD at x ⊢; obtain ⟨p, vs', e1, e2, e3⟩ := x; exact ⟨p, vs', e1, stK _ _ e2, ih _ e3⟩)
      (fun ks ds ih v x => by unfold RelD at x ⊢; obtain ⟨p, vs', e1, ⟨e2, n⟩, e3, e4⟩ := x; exact ⟨p, vs', e1, ⟨stR _ _ e2 n, n⟩, e3, ih _ e4⟩)
      (fun i v x => by unfold RelD at x ⊢; exact x) (fun t v x => by unfold RelD at x ⊢; exact x)
      (fun vs x => by unfold RelL at x ⊢; exact x)
      (fun d ds ih1 ih2 vs x => by unfold RelL at x ⊢; obtain ⟨v, ws', e1, e2, e3⟩ := x; exact ⟨v, ws', e1, ih1 _ e2, ih2 _ e3⟩)
    refine ⟨aux, fun ds => ?_⟩
    induction ds with
    | nil => intro vs x; unfold RelL at x ⊢; exact x
    | cons d ds ih => intro vs x; obtain ⟨v, ws', rfl, e2, e3⟩ := x.inv; exact RelL.cons (aux d v e2) (ih _ e3)
  refine ⟨⟨r.n, r.inj, r.inA, fun p hp z => ?_, fun i c hi => ?_, tabs_keep r.tabs fun b u e nm => by
    show upd ω.H q (.lst ws) b = some u
    rw [upd_ne (fun z => nm (by rw [z, hq] at e; cases e; exact .inl ⟨_, rfl⟩))]; exact e⟩, key.1, key.2⟩
  · have z' : upd ω.H q (.lst ws) p = none := z
    by_cases e : p = q
    · rw [e, upd_same] at z'; cases z'
    · rw [upd_ne e] at z'; exact r.sub p hp z'
  · have hl : i < ω.n := by rw [r.n]; exact (List.getElem?_eq_some_iff.mp hi).1
    have x := r.cel i c hi
    show RelC K (ω.up q (.lst ws)) (ω.β i) c
    cases c with
    | lst xs => obtain ⟨vs', e1, e2⟩ := x; exact ⟨vs', (upd_ne (hb i hl)).trans e1, key.2 _ _ e2⟩
    | dct ks xs => obtain ⟨vs', e1, e3, e2⟩ := x; exact ⟨vs', (upd_ne (hb i hl)).trans e1, e3, key.2 _ _ e2⟩
/-- fewer addresses may change -/
theorem shrink {B : Addr → Prop} (r : Rel K ω h) (hB : ∀ q, B q → ω.A q) (hc : ∀ i, i < ω.n → B (ω.β i)) :
    Rel K { ω with A := B } h ∧ (∀ d v, RelD K ω d v → RelD K { ω with A := B } d v) ∧ ∀ ds vs, RelL K ω ds vs → RelL K { ω with A := B } ds vs := by
  have key : (∀ d v, RelD K ω d v → RelD K { ω with A := B } d v) ∧ ∀ ds vs, RelL K ω ds vs → RelL K { ω with A := B } ds vs := by
    have aux := @D.rec (motive_1 := fun d => ∀ v, RelD K ω d v → RelD K { ω with A := B } d v) (motive_2 := fun ds => ∀ vs, RelL K ω ds vs → RelL K { ω with A := B } ds vs)
      (fun v x => by unfold RelD at x ⊢; exact x) (fun b v x => by unfold RelD at x ⊢; exact x) (fun i v x => by unfold RelD at x ⊢; exact x) (fun s v x => by unfold RelD at x ⊢; exact x)
      (fun ds ih v x => by unfold RelD at x ⊢; obtain ⟨p, vs', e1, e2, e3⟩ := x; exact ⟨p, vs', e1, e2, ih _ e3⟩)
      (fun ds ih v x => by unfold RelD at x ⊢; obtain ⟨p, vs', e1, ⟨e2, n⟩, e3⟩ := x; exact ⟨p, vs', e1, ⟨e2, fun z => n (hB _ z)⟩, ih _ e3⟩)
      (fun ds ih v x => by unfold RelD at x ⊢; obtain ⟨p, vs', e1, e2, e3⟩ := x; exact ⟨p, vs', e1, e2, ih _ e3⟩)
      (fun ks ds ih v x => by unfold RelD at x ⊢; obtain ⟨p, vs', e1, ⟨e2, n⟩, e3, e4⟩ := x; exact ⟨p, vs', e1, ⟨e2, fun z => n (hB _ z)⟩, e3, ih _ e4⟩)
      (fun i v x => by unfold RelD at x ⊢; exact x) (fun t v x => by unfold RelD at x ⊢; exact x)
      (fun vs x => by unfold RelL at x ⊢; exact x)
      (fun d ds ih1 ih2 vs x => by unfold RelL at x ⊢; obtain ⟨v, ws', e1, e2, e3⟩ := x; exact ⟨v, ws', e1, ih1 _ e2, ih2 _ e3⟩)
    refine ⟨aux, fun ds => ?_⟩
    induction ds with
    | nil => intro vs x; unfold RelL at x ⊢; exact x
    | cons d ds ih => intro vs x; obtain ⟨v, ws', rfl, e2, e3⟩ := x.inv; exact RelL.cons (aux d v e2) (ih _ e3)
  refine ⟨⟨r.n, r.inj, hc, fun p hp => r.sub p (hB p hp), fun i c hi => ?_, r.tabs⟩, key.1, key.2⟩
  have x := r.cel i c hi
  cases c with
  | lst xs => obtain ⟨vs', e1, e2⟩ := x; exact ⟨vs', e1, key.2 _ _ e2⟩
  | dct ks xs => obtain ⟨vs', e1, e3, e2⟩ := x; exact ⟨vs', e1, e3, key.2 _ _ e2⟩
end
theorem Post.if_ {α β : Type} {K : PySem.W.Frag} {mg : Str → Option Value} {W : WX} {σ : L2.St} {ω : Wo} {rel : Wo → α → β → Prop} {Q : β → Hp → Prop} {c : Prop} [Decidable c] {o : R α} (p : Post K mg W σ ω rel Q (if c then o else .bad)) : c ∧ Post K mg W σ ω rel Q o := by
  by_cases h : c
  · rw [if_pos h] at p; exact ⟨h, p⟩
  · rw [if_neg h] at p; exact False.elim p
theorem wipe_wipe {σ : L2.St} : ∀ ws : List Nat, wipe (wipe σ ws) ws = wipe σ ws
  | [] => rfl
  | v :: vs => by
    have ih := wipe_wipe (σ := σ) vs
    show (wipe ((wipe σ vs).set v none) vs).set v none = (wipe σ vs).set v none
    by_cases h : v ∈ vs
    · rw [wipe_set_in h, ih]
    · rw [wipe_set_out h, ih, List.set_set]
/-- the world without q -/
def Wo.drop (ω : Wo) (q : Addr) : Wo := { ω with A := fun a => ω.A a ∧ a ≠ q, H := fun a => if a = q then none else ω.H a }
theorem Wo.drop_ne {ω : Wo} {q a : Addr} (h : a ≠ q) : (ω.drop q).H a = ω.H a := if_neg h
theorem Wo.drop_eq {ω : Wo} {q : Addr} : (ω.drop q).H q = none := if_pos rfl
theorem Wo.drop_up {ω : Wo} {q : Addr} {o : HO} : (ω.up q o).drop q = ω.drop q := by
  unfold Wo.drop Wo.up
  congr 1
  funext a
  by_cases h : a = q
  · rw [if_pos h, if_pos h]
  · rw [if_neg h, if_neg h]; exact upd_ne h
theorem Ext.drop {ω ω' : Wo} (e : Ext ω ω') (q : Addr) : Ext (ω.drop q) (ω'.drop q) where
  n := e.n
  b := e.b
  a := fun a h => ⟨e.a a h.1, h.2⟩
  aN := fun a h => by
    rcases e.aN a h.1 with z | z
    · exact .inl ⟨z, h.2⟩
    · exact .inr (by rw [Wo.drop_ne h.2]; exact z)
  nw := fun i h1 h2 => by
    have z := e.nw i h1 h2
    show (if _ then _ else _) = _
    split
    · rfl
    · exact z
  dom := fun a h => by
    by_cases ha : a = q
    · rw [ha]; exact Wo.drop_eq
    · rw [Wo.drop_ne ha] at h ⊢; exact e.dom a h
  keep := fun a o h nt hb => by
    by_cases ha : a = q
    · rw [ha, Wo.drop_eq] at h; cases h
    · rw [Wo.drop_ne ha] at h ⊢; exact e.keep a o h nt hb
/-- into a block, q being the list that is made: nothing is raised there -/
theorem Post.into {α β α' β' : Type} {K : PySem.W.Frag} {mg : Str → Option Value} {W : WX} {σ σ' : L2.St} {ω : Wo} {rel : Wo → α → β → Prop} {Q : β → Hp → Prop} {rel' : Wo → α' → β' → Prop} {Q' : β' → Hp → Prop} {r : R α} {f : α → Hc → R α'} {q : Addr}
    (hp : Post K mg W σ (ω.drop q) rel' Q' (r.nox.bd f)) (hq : ∀ a h b ω', Ext ω ω' → Rel K ω' h → rel ω' a b → Post K mg W σ (ω'.drop q) rel' Q' (f a h) → Q b ω'.H) : Post K mg W0 σ' ω rel Q r := by
  cases r with
  | ok a h => exact fun b ω' e r1 ra => hq a h b ω' e r1 ra (Post.mono (r := f a h) hp (e.drop q))
  | ex x fs ds h => exact False.elim hp
  | bad => exact False.elim hp
theorem bd_bd {α β γ : Type} (r : R α) (f : α → Hc → R β) (g : β → Hc → R γ) : (r.bd f).bd g = r.bd fun a h => (f a h).bd g := by cases r <;> rfl
section
variable {X : Cx} {W : WX} {tg iter elt : Expr} {ifs : List Expr} {mi : SI} {p : Pt} {own : List Nat} {c : SB} {m : SE} {scope : Scope} {pos : Pos}
/-- the comprehension's list is made; fin: what is done with it -/
theorem lcW {fin : List D → Hc → R D} (ho : ∀ i ∈ p.slots, i ∈ own)
    (hfin : ∀ (σ : L2.St) (ω : Wo) (h : Hc) (q : Addr) (xs : List D) (vs : List V) (Q : VK), Rel X.K ω h → ω.H q = some (.lst vs) → ω.A q → (∀ i, i < ω.n → ω.β i ≠ q) → RelL X.K ω xs vs →
      Post X.K X.mg W σ (ω.drop q) (RelD X.K) Q (fin xs h) → Q (.ref q) ω.H) :
    ∀ σ H Q, tE X W (fun ds h => (mi ds h).bd fun it h1 => (lcR it.chk p own c m ds it.items [] h1).bd fin) σ H Q → tLc (tI X W mi) (tP X.K p) (tT X W0 c) (tE X W0 m) own σ H Q := fun σ H Q ⟨ω, h, ds, e1, r, s, q⟩ => by
  subst e1
  refine ⟨ω, h, ds, rfl, r, s, q.bd fun it h1 J ω1 ex1 r1 ok p1 => ?_⟩
  intro Da hD
  have s1 := monoS r ex1 s
  have e0 : Ext ω1 { ω1 with A := fun q => ω1.A q ∨ q = Da, H := upd ω1.H Da (.lst []) } := by
    refine ⟨Nat.le_refl _, fun _ _ => rfl, fun _ z => .inl z, fun q z => ?_, fun i a b => absurd b (Nat.not_lt.mpr a), (Ext.up (o := .lst []) hD).dom, (Ext.up (o := .lst []) hD).keep⟩
    rcases z with z | z
    · exact .inl z
    · exact .inr (by rw [z]; exact hD)
  have nD : ∀ j, j < ω1.n → ω1.β j ≠ Da := fun j hj z => by
    obtain ⟨u, e, _⟩ := r1.mut hj
    rw [z, hD] at e; cases e
  refine ⟨fun i k H' => ∃ ω2 h2 acc vs, ω2.H = H' ∧ Ext ω1 ω2 ∧ Rel X.K ω2 h2 ∧ ω2.A Da ∧ (∀ j, j < ω2.n → ω2.β j ≠ Da) ∧ ω2.H Da = some (.lst vs) ∧ RelL X.K ω2 acc vs ∧ k = (it.items.drop i).length ∧
      Post X.K X.mg W σ (ω2.drop Da) (RelD X.K) Q ((lcR it.chk p own c m ds (it.items.drop i) acc h2).bd fin), ⟨_, { ω1 with A := fun q => ω1.A q ∨ q = Da, H := upd ω1.H Da (.lst []) }, h1, [], [], rfl, e0, ?_, .inr rfl, nD, upd_same, RelL.nil, rfl, ?_⟩, ?_⟩
  · refine r1.ext1 e0 rfl (fun q z w => ?_) (fun i hi => upd_ne (nD i hi)) (tabs_keep r1.tabs fun b u e _ => by
      show upd ω1.H Da (.lst []) b = some u
      rw [upd_ne (ne_of_none e hD)]; exact e)
    have w' : upd ω1.H Da (.lst []) q = none := w
    by_cases e : q = Da
    · rw [e, upd_same] at w'; cases w'
    · rw [upd_ne e] at w'
      rcases z with z | z
      · exact r1.sub q z w'
      · exact e z
  · refine Post.mono (r := (lcR it.chk p own c m ds it.items [] h1).bd fin) p1 ⟨Nat.le_refl _, fun _ _ => rfl, fun a ha => ⟨.inl ha, fun z => r1.free hD (z ▸ ha)⟩, fun a ha => ?_, fun i a b => absurd b (Nat.not_lt.mpr a), fun a ha => ?_, fun a o ha _ _ => ?_⟩
    · rcases ha.1 with z | z
      · exact .inl z
      · exact absurd z ha.2
    · by_cases z : a = Da
      · rw [z]; exact hD
      · rw [Wo.drop_ne z] at ha
        have ha' : upd ω1.H Da (.lst []) a = none := ha
        rw [upd_ne z] at ha'; exact ha'
    · have z := ne_of_none ha hD
      rw [Wo.drop_ne z]
      show upd ω1.H Da (.lst []) a = some o
      rw [upd_ne z]; exact ha
  · rintro i k H' ⟨ω2, h2, acc, vs, rfl, e2, r2, aD, bD, hDa, rl, hk, p2⟩
    cases q1 : it.items.drop i with
    | nil =>
      rw [q1] at p2
      unfold lcR at p2
      by_cases hck : it.chk h2 = true
      · rw [if_pos hck] at p2
        refine .inl ⟨(ok i ω2 h2 e2 r2 hck).2 (List.getElem?_eq_none (List.drop_eq_nil_iff.mp q1)), ?_⟩
        exact hfin σ ω2 h2 Da acc vs Q r2 hDa aD bD rl p2
      · rw [if_neg hck] at p2; exact False.elim p2
    | cons d rest =>
      rw [q1] at p2
      unfold lcR at p2
      by_cases hck : it.chk h2 = true
      · rw [if_pos hck] at p2
        have hd : it.items[i]? = some d := by
          have := congrArg (fun l => l[0]?) q1
          simpa using this
        have hrest : it.items.drop (i + 1) = rest := by
          have := congrArg List.tail q1
          simpa using this
        obtain ⟨go, yl⟩ := (ok i ω2 h2 e2 r2 hck).1 d hd
        refine .inr ⟨go, fun H3 => ∃ ω3 h3 acc vs, ω3.H = H3 ∧ Ext ω1 ω3 ∧ Rel X.K ω3 h3 ∧ ω3.A Da ∧ (∀ j, j < ω3.n → ω3.β j ≠ Da) ∧ ω3.H Da = some (.lst vs) ∧ RelL X.K ω3 acc vs ∧ Post X.K X.mg W σ (ω3.drop Da) (RelD X.K) Q ((lcR it.chk p own c m ds rest acc h3).bd fin),
          fun H3 ⟨ω3, h3, acc', vs', a1, a2, a3, a4, a5, a6, a7, a8⟩ => ⟨rest.length, by rw [hk, q1]; exact Nat.lt_succ_self _, ω3, h3, acc', vs', a1, a2, a3, a4, a5, a6, a7, by rw [hrest], by rw [hrest]; exact a8⟩, fun x H' hy => ?_⟩
        obtain ⟨ω3, rfl, e3, r3, d3⟩ := yl x H' hy
        cases q2 : bindP h2 p d (wipeD ds own) with
        | none => rw [q2] at p2; exact False.elim p2
        | some ds3 =>
          rw [q2] at p2
          have st : ∀ {ω4 : Wo}, Ext ω2 ω4 → ω4.A Da ∧ (∀ j, j < ω4.n → ω4.β j ≠ Da) ∧ ω4.H Da = some (.lst vs) := fun {ω4} e4 => by
            refine ⟨e4.a _ aD, fun j hj z => ?_, e4.keep _ _ hDa (by intro _ z; cases z) fun j hj => bD j hj⟩
            by_cases hj2 : j < ω2.n
            · rw [e4.b j hj2] at z; exact bD j hj2 z
            · have := e4.nw j (Nat.not_lt.mp hj2) hj
              rw [z, hDa] at this; cases this
          refine ⟨ω3, h2, wipeD ds own, d, ds3, rfl, r3, monoS r2 e3 (monoS r1 e2 s1 |>.wipe own), d3, q2, fun σ4 s4 hw => ⟨(hw own ho).trans (wipe_wipe own), ω3, h2, ds3, rfl, r3, s4, ?_⟩⟩
          have p3 := Post.mono p2 (e3.drop Da)
          simp only at p3
          rw [bd_bd] at p3
          refine Post.into p3 fun b h4 b' ω4 e4 r4 hb p4 => ?_
          have hb' : b = b' := hb
          subst hb'
          obtain ⟨aD4, bD4, hD4⟩ := st (e3.trans e4)
          cases b with
          | false => exact ⟨ω4, h4, acc, vs, rfl, (e2.trans e3).trans e4, r4, aD4, bD4, hD4, monoL r2 (e3.trans e4) _ _ rl, p4⟩
          | true =>
            rw [if_pos rfl] at p4 ⊢
            rw [bd_bd] at p4
            refine ⟨ω4, h4, ds3, rfl, r4, monoS r3 e4 s4, Post.into p4 fun y h5 v ω5 e5 r5 hy p5 => ?_⟩
            obtain ⟨aD5, bD5, hD5⟩ := st ((e3.trans e4).trans e5)
            have rl5 := monoL r2 ((e3.trans e4).trans e5) _ _ rl
            by_cases hl : acc.length < lim
            · rw [if_pos hl] at p5
              obtain ⟨k1, k2, k3⟩ := hid (ws := vs ++ [v]) r5 aD5 bD5 hD5
              refine ⟨vs, hD5, by rw [← rl5.len]; exact lim_lt hl, ω5.up Da (.lst (vs ++ [v])), h5, acc ++ [y], vs ++ [v], rfl, ?_, k1, aD5, bD5, upd_same, k3 _ _ (rl5.append (RelL.cons hy RelL.nil)), by rw [Wo.drop_up]; exact p5⟩
              have e15 := ((e2.trans e3).trans e4).trans e5
              refine ⟨e15.n, e15.b, e15.a, e15.aN, e15.nw, fun a ha => ?_, fun a o ha nt hb => ?_⟩
              · have ha' : upd ω5.H Da (.lst (vs ++ [v])) a = none := ha
                by_cases z : a = Da
                · rw [z, upd_same] at ha'; cases ha'
                · rw [upd_ne z] at ha'; exact e15.dom a ha'
              · have z := ne_of_none ha hD
                show upd ω5.H Da (.lst (vs ++ [v])) a = some o
                rw [upd_ne z]; exact e15.keep a o ha nt hb
            · rw [if_neg hl] at p5; exact False.elim p5
      · rw [if_neg hck] at p2; exact False.elim p2
theorem lc_fz (σ : L2.St) (ω : Wo) (h : Hc) (q : Addr) (xs : List D) (vs : List V) (Q : VK) (r : Rel X.K ω h) (hq : ω.H q = some (.lst vs)) (aq : ω.A q) (bq : ∀ i, i < ω.n → ω.β i ≠ q) (rl : RelL X.K ω xs vs)
    (p : Post X.K X.mg W σ (ω.drop q) (RelD X.K) Q (.ok (.lst xs) h)) : Q (.ref q) ω.H := by
  obtain ⟨k1, k2, k3⟩ := shrink (B := fun a => ω.A a ∧ a ≠ q) r (fun _ z => z.1) fun i hi => ⟨r.inA i hi, bq i hi⟩
  refine p (.ref q) { ω with A := fun a => ω.A a ∧ a ≠ q } ⟨Nat.le_refl _, fun _ _ => rfl, fun _ z => z, fun _ z => .inl z, fun i a b => absurd b (Nat.not_lt.mpr a), fun a ha => ?_, fun a o ha _ _ => ?_⟩ k1 ?_
  · by_cases z : a = q
    · rw [z]; exact Wo.drop_eq
    · rw [Wo.drop_ne z]; exact ha
  · by_cases z : a = q
    · rw [z, Wo.drop_eq] at ha; cases ha
    · rw [Wo.drop_ne z] at ha; exact ha
  · unfold RelD
    exact ⟨q, vs, rfl, ⟨hq, fun z => z.2 rfl⟩, k3 _ _ rl⟩
theorem lc_cell (σ : L2.St) (ω : Wo) (h : Hc) (q : Addr) (xs : List D) (vs : List V) (Q : VK) (r : Rel X.K ω h) (hq : ω.H q = some (.lst vs)) (aq : ω.A q) (bq : ∀ i, i < ω.n → ω.β i ≠ q) (rl : RelL X.K ω xs vs)
    (p : Post X.K X.mg W σ (ω.drop q) (RelD X.K) Q (.ok (.ref h.length) (h ++ [.lst xs]))) : Q (.ref q) ω.H := by
  have e1 : Ext ω ⟨ω.A, fun i => if i = ω.n then q else ω.β i, ω.n + 1, ω.H⟩ ∨ True := .inr trivial
  -- the data keep their meaning when one more cell is counted
  have key : (∀ d v, RelD X.K ω d v → RelD X.K ⟨ω.A, fun i => if i = ω.n then q else ω.β i, ω.n + 1, ω.H⟩ d v) ∧ ∀ ds vs, RelL X.K ω ds vs → RelL X.K ⟨ω.A, fun i => if i = ω.n then q else ω.β i, ω.n + 1, ω.H⟩ ds vs := by
    have aux := @D.rec (motive_1 := fun d => ∀ v, RelD X.K ω d v → RelD X.K ⟨ω.A, fun i => if i = ω.n then q else ω.β i, ω.n + 1, ω.H⟩ d v) (motive_2 := fun ds => ∀ vs, RelL X.K ω ds vs → RelL X.K ⟨ω.A, fun i => if i = ω.n then q else ω.β i, ω.n + 1, ω.H⟩ ds vs)
      (fun v x => by unfold RelD at x ⊢; exact x) (fun b v x => by unfold RelD at x ⊢; exact x) (fun i v x => by unfold RelD at x ⊢; exact x) (fun s v x => by unfold RelD at x ⊢; exact x)
      (fun ds ih v x => by unfold RelD at x ⊢; obtain ⟨p, vs', e1, e2, e3⟩ := x; exact ⟨p, vs', e1, e2, ih _ e3⟩)
      (fun ds ih v x => by unfold RelD at x ⊢; obtain ⟨p, vs', e1, e2, e3⟩ := x; exact ⟨p, vs', e1, e2, ih _ e3⟩)
      (fun ds ih v x => by unfold RelD at x ⊢; obtain ⟨p, vs', e1, e2, e3⟩ := x; exact ⟨p, vs', e1, e2, ih _ e3⟩)
      (fun ks ds ih v x => by unfold RelD at x ⊢; obtain ⟨p, vs', e1, e2, e3, e4⟩ := x; exact ⟨p, vs', e1, e2, e3, ih _ e4⟩)
      (fun i v x => by unfold RelD at x ⊢; exact ⟨Nat.lt_succ_of_lt x.1, by rw [x.2]; show _ = V.ref (if i = ω.n then q else ω.β i); rw [if_neg (Nat.ne_of_lt x.1)]⟩) (fun t v x => by unfold RelD at x ⊢; exact x)
      (fun vs x => by unfold RelL at x ⊢; exact x)
      (fun d ds ih1 ih2 vs x => by unfold RelL at x ⊢; obtain ⟨v, ws', e1, e2, e3⟩ := x; exact ⟨v, ws', e1, ih1 _ e2, ih2 _ e3⟩)
    refine ⟨aux, fun ds => ?_⟩
    induction ds with
    | nil => intro vs x; unfold RelL at x ⊢; exact x
    | cons d ds ih => intro vs x; obtain ⟨v, ws', rfl, e2, e3⟩ := x.inv; exact RelL.cons (aux d v e2) (ih _ e3)
  refine p (.ref q) ⟨ω.A, fun i => if i = ω.n then q else ω.β i, ω.n + 1, ω.H⟩ ⟨Nat.le_succ _, fun i hi => if_neg (Nat.ne_of_lt hi), fun _ z => z.1, fun a z => ?_, fun i a b => ?_, fun a ha => ?_, fun a o ha _ _ => ?_⟩ ⟨?_, fun i j hi hj z => ?_, fun i hi => ?_, r.sub, fun i c hi => ?_, r.tabs⟩ ?_
  · by_cases e : a = q
    · exact .inr (by rw [e]; exact Wo.drop_eq)
    · exact .inl ⟨z, e⟩
  · have b' : i < ω.n + 1 := b
    have a' : ω.n ≤ i := a
    show (ω.drop q).H (if i = ω.n then q else ω.β i) = none
    rw [if_pos (by omega)]; exact Wo.drop_eq
  · by_cases z : a = q
    · rw [z]; exact Wo.drop_eq
    · rw [Wo.drop_ne z]; exact ha
  · by_cases z : a = q
    · rw [z, Wo.drop_eq] at ha; cases ha
    · rw [Wo.drop_ne z] at ha; exact ha
  · rw [List.length_append, ← r.n]; rfl
  · have hi' : i < ω.n + 1 := hi
    have hj' : j < ω.n + 1 := hj
    have z' : (if i = ω.n then q else ω.β i) = (if j = ω.n then q else ω.β j) := z
    by_cases e1 : i = ω.n
    · by_cases e2 : j = ω.n
      · omega
      · rw [if_pos e1, if_neg e2] at z'
        exact absurd z'.symm (bq j (by omega))
    · by_cases e2 : j = ω.n
      · rw [if_neg e1, if_pos e2] at z'
        exact absurd z' (bq i (by omega))
      · rw [if_neg e1, if_neg e2] at z'
        exact r.inj i j (by omega) (by omega) z'
  · have hi' : i < ω.n + 1 := hi
    show ω.A (if i = ω.n then q else ω.β i)
    by_cases e1 : i = ω.n
    · rw [if_pos e1]; exact aq
    · rw [if_neg e1]; exact r.inA i (by omega)
  · show RelC X.K _ (if i = ω.n then q else ω.β i) c
    by_cases e1 : i = ω.n
    · have e2 : i = h.length := e1.trans r.n
      rw [List.getElem?_append_right (by omega), e2, Nat.sub_self] at hi
      have e3 : C.lst xs = c := by simpa using hi
      subst e3
      rw [if_pos e1]
      exact ⟨vs, hq, key.2 _ _ rl⟩
    · have hlt : i < ω.n := by
        have := (List.getElem?_eq_some_iff.mp hi).1
        rw [List.length_append, ← r.n] at this
        simp at this; omega
      rw [List.getElem?_append_left (by rw [← r.n]; exact hlt)] at hi
      rw [if_neg e1]
      have x := r.cel i c hi
      cases c with
      | lst ys => obtain ⟨vs', e1, e2⟩ := x; exact ⟨vs', e1, key.2 _ _ e2⟩
      | dct ks ys => obtain ⟨vs', e1, e3, e2⟩ := x; exact ⟨vs', e1, e3, key.2 _ _ e2⟩
  · unfold RelD
    rw [← r.n]
    exact ⟨Nat.lt_succ_self _, by show _ = V.ref (if ω.n = ω.n then q else _); rw [if_pos rfl]⟩
theorem de_lc (ho : ∀ i ∈ p.slots, i ∈ own) (h : PE X (.ListComp elt [⟨tg, iter, ifs, 0⟩] scope pos) (tLc (tI X W mi) (tP X.K p) (tT X W0 c) (tE X W0 m) own)) : DE X W (.ListComp elt [⟨tg, iter, ifs, 0⟩] scope pos) (eLc mi p own c m) :=
  de_of h (lcW (fin := fun xs h => .ok (.lst xs) h) ho lc_fz)
theorem de_lcC (ho : ∀ i ∈ p.slots, i ∈ own) (h : PE X (.ListComp elt [⟨tg, iter, ifs, 0⟩] scope pos) (tLc (tI X W mi) (tP X.K p) (tT X W0 c) (tE X W0 m) own)) : DE X W (.ListComp elt [⟨tg, iter, ifs, 0⟩] scope pos) (eLcC mi p own c m) :=
  de_of h (lcW (fin := fun xs h => .ok (.ref h.length) (h ++ [.lst xs])) ho lc_cell)
end
end Mp
/-! LayD: calls and defs. -/
namespace Mp
open PySem PySem.Spec PyProof.Rows L2
mutual
/-- no cell within -/
def flat : D → Bool
  | .ref _ => false
  | .tup ds => flatL ds
  | .lst ds => flatL ds
  | .scr ds => flatL ds
  | .dct _ ds => flatL ds
  | _ => true
def flatL : List D → Bool
  | [] => true
  | d :: ds => flat d && flatL ds
end
def flatC : C → Bool
  | .lst ds => flatL ds
  | .dct _ ds => flatL ds
abbrev Fn := List D → Hc → R D
/-- a def's promise -/
def spD (K : PySem.W.Frag) (mg : Str → Option Value) (np : Nat) (m : Fn) : Sp := fun vs H Q E =>
  vs.length = np ∧ ∃ ω h ds, ω.H = H ∧ Rel K ω h ∧ RelL K ω ds vs ∧ Post K mg (fun c d _ H' => E c d H') ([] : L2.St) ω (RelD K) Q (m ds h)
/-! ### a def's body -/
def runB (n : Nat) (m : SS) : Fn := fun as h => match m (as.map some ++ List.replicate (n - as.length) none) h with
  | .nx _ h' => .ok .non h'
  | .rt d h' => .ok d h'
  | .ex x fs vs _ h' => .ex x fs vs h'
  | _ => .bad
abbrev WF (E : XK) : WX := fun c d _ H => E c d H
theorem RelL.slots {K : PySem.W.Frag} {ω : Wo} : ∀ {ds : List D} {vs : List V} {n : Nat}, RelL K ω ds vs → RelS K ω (ds.map some ++ List.replicate n none) (vs.map some ++ List.replicate n none)
  | [], vs, n, x => by
    rw [x.inv0]
    refine ⟨by simp, fun i d hi => ?_⟩
    simp [List.getElem?_replicate] at hi
  | d :: ds, vs, n, x => by
    obtain ⟨v, ws, rfl, e2, e3⟩ := x.inv
    have ih := RelL.slots (n := n) e3
    refine ⟨by simpa using ih.1, fun i d' hi => ?_⟩
    cases i with
    | zero =>
      have : d = d' := by simpa using hi
      subst this
      exact ⟨v, rfl, e2⟩
    | succ i => exact ih.2 i d' (by simpa using hi)
section
variable {P : Program} {w : World} {K : PySem.W.Frag} {mg : Str → Option Value} {base : Heap}
theorem fn_ok {x qual : Str} {st : Stmt} {f : Addr} {fd : FuncData} {N ps : List Str} {k : Nat} {m : SS} (F : Fun K x qual st f fd) (S : FnScope N ps (defScope st))
    (hb : ∀ (cdv : Value) (A : Around) (outer : List Env) (s : Shared) (H : Hp) (E : XK), Room k (A.deeper (envOfC qual (defScope st) s.heap.objs.size f cdv)) →
      DSs (cxOf (L2.CX P w) P w K mg base N qual (defScope st) f cdv A outer s H E) (WF E) (defBody st) m) :
    FnOk P w K mg base (L2.CX P w) (k + 1) f fd ps (spD K mg ps.length (runB N.length m)) :=
  F.okX S (fun vs H Q E h => h.1) fun cdv A outer s H vs Q E hr h => by
    refine ⟨_, hb cdv A outer s H E hr, ?_⟩
    obtain ⟨hl, ω, h, ds, e1, r, rl, p⟩ := h
    subst e1
    have e2 : N.length - ds.length = N.length - vs.length := by rw [rl.len]
    refine ⟨ω, h, ds.map some ++ List.replicate (N.length - ds.length) none, rfl, r, by rw [e2]; exact rl.slots, ?_⟩
    unfold runB at p
    cases q : m (ds.map some ++ List.replicate (N.length - ds.length) none) h with
    | nx ds' h' => rw [q] at p; exact fun σ' ω' e r' s' => p _ ω' e r' (by unfold RelD; rfl)
    | rt d h' => rw [q] at p; exact fun v ω' e r' s' => p _ ω' e r' s'
    | bk ds' h' => rw [q] at p; exact False.elim p
    | ct ds' h' => rw [q] at p; exact False.elim p
    | ex x fs vs' ds' h' => rw [q] at p; exact fun c d σ' ω' e r' s' rx => p c d ω' e r' rx
    | bad => rw [q] at p; exact False.elim p
end
/-! ### a call over the caller's cells -/
def eCallG (m : Fn) (as : SA) : SE := fun ds h => (as ds h).bd fun xs h1 => m xs h1
/-! ### a call: the callee sees the cells that are passed, no others -/
def refsOf : List D → List Nat
  | [] => []
  | .ref i :: r => let l := refsOf r; if i ∈ l then l else i :: l
  | _ :: r => refsOf r
def renD (rs : List Nat) : D → Option D
  | .ref i => (rs.findIdx? (· == i)).map .ref
  | d => if flat d = true then some d else none
def renL (rs : List Nat) : List D → Option (List D)
  | [] => some []
  | d :: ds => match renD rs d, renL rs ds with
    | some e, some es => some (e :: es)
    | _, _ => none
def cellsAt (h : Hc) : List Nat → Option (List C)
  | [] => some []
  | i :: r => match h[i]?, cellsAt h r with
    | some c, some cs => some (c :: cs)
    | _, _ => none
/-- what is handed back: a cell of the callee's own is never changed any more -/
def frzD (rs : List Nat) (h : Hc) : Nat → D → Option D
  | 0, d => if flat d = true then some d else none
  | n + 1, d => if flat d = true then some d else match d with
    | .ref i => if i < rs.length then (rs[i]?).map .ref else match h[i]? with
      | some (.lst ds) => (frzL (frzD rs h n) ds).map .lst
      | some (.dct ks ds) => (frzL (frzD rs h n) ds).map (.dct ks)
      | none => none
    | .tup ds => (frzL (frzD rs h n) ds).map .tup
    | _ => none
where
  frzL (f : D → Option D) : List D → Option (List D)
    | [] => some []
    | d :: ds => match f d, frzL f ds with
      | some e, some es => some (e :: es)
      | _, _ => none
def wb : Hc → List Nat → Hc → Hc
  | h, r :: rs, c :: cs => wb (h.set r c) rs cs
  | h, _, _ => h
def callL (m : Fn) (as : List D) (h : Hc) : R D :=
  match renL (refsOf as) as, cellsAt h (refsOf as) with
  | some as', some hc => if hc.all flatC = true then (match m as' hc with
    | .ok d h' => match frzD (refsOf as) h' 8 d with
      | some d' => if (h'.take (refsOf as).length).all flatC = true then .ok d' (wb h (refsOf as) h') else .bad
      | none => .bad
    | .ex x fs vs h' => if (h'.take (refsOf as).length).all flatC = true ∧ flatL vs = true then .ex x fs vs (wb h (refsOf as) h') else .bad
    | .bad => .bad) else .bad
  | _, _ => .bad
def eCall (m : Fn) (as : SA) : SE := fun ds h => (as ds h).bd fun xs h1 => callL m xs h1
section
variable {K : PySem.W.Frag} {ω ω' ω1 ω2 : Wo} {h h' : Hc}
theorem flat_rel (hH : ω2.H = ω1.H) (hA : ∀ p, ω2.A p → ω1.A p) : (∀ d v, flat d = true → RelD K ω1 d v → RelD K ω2 d v) ∧ ∀ ds vs, flatL ds = true → RelL K ω1 ds vs → RelL K ω2 ds vs := by
  have aux := @D.rec (motive_1 := fun d => ∀ v, flat d = true → RelD K ω1 d v → RelD K ω2 d v) (motive_2 := fun ds => ∀ vs, flatL ds = true → RelL K ω1 ds vs → RelL K ω2 ds vs)
    (fun v _ x => by unfold RelD at x ⊢; exact x) (fun b v _ x => by unfold RelD at x ⊢; exact x) (fun i v _ x => by unfold RelD at x ⊢; exact x) (fun s v _ x => by unfold RelD at x ⊢; exact x)
    (fun ds ih v hf x => by unfold RelD at x ⊢; obtain ⟨p, vs', e1, e2, e3⟩ := x; exact ⟨p, vs', e1, by rw [hH]; exact e2, ih _ (by simpa [flat] using hf) e3⟩)
    (fun ds ih v hf x => by unfold RelD at x ⊢; obtain ⟨p, vs', e1, ⟨e2, n⟩, e3⟩ := x; exact ⟨p, vs', e1, ⟨by rw [hH]; exact e2, fun z => n (hA _ z)⟩, ih _ (by simpa [flat] using hf) e3⟩)
    (fun ds ih v hf x => by
      unfold RelD at x ⊢
      obtain ⟨p, vs', e1, e2, e3⟩ := x
      refine ⟨p, vs', e1, ?_, ih _ (by simpa [flat] using hf) e3⟩
      rcases e2 with ⟨o, e2⟩ | e2
      · exact .inl ⟨o, by rw [hH]; exact e2⟩
      · exact .inr e2)
    (fun ks ds ih v hf x => by unfold RelD at x ⊢; obtain ⟨p, vs', e1, ⟨e2, n⟩, e3, e4⟩ := x; exact ⟨p, vs', e1, ⟨by rw [hH]; exact e2, fun z => n (hA _ z)⟩, e3, ih _ (by simpa [flat] using hf) e4⟩)
    (fun i v hf x => by simp [flat] at hf) (fun t v _ x => by unfold RelD at x ⊢; exact x)
    (fun vs _ x => by unfold RelL at x ⊢; exact x)
    (fun d ds ih1 ih2 vs hf x => by
      unfold RelL at x ⊢
      obtain ⟨v, ws', e1, e2, e3⟩ := x
      simp [flatL] at hf
      exact ⟨v, ws', e1, ih1 _ hf.1 e2, ih2 _ hf.2 e3⟩)
  refine ⟨aux, fun ds => ?_⟩
  induction ds with
  | nil => intro vs _ x; unfold RelL at x ⊢; exact x
  | cons d ds ih =>
    intro vs hf x
    obtain ⟨v, ws', rfl, e2, e3⟩ := x.inv
    simp [flatL] at hf
    exact RelL.cons (aux d v hf.1 e2) (ih _ hf.2 e3)
theorem flat_relC {p : Addr} {c : C} (hH : ω2.H = ω1.H) (hA : ∀ p, ω2.A p → ω1.A p) (hf : flatC c = true) (x : RelC K ω1 p c) : RelC K ω2 p c := by
  cases c with
  | lst ds => obtain ⟨vs, e1, e2⟩ := x; exact ⟨vs, by rw [hH]; exact e1, (flat_rel hH hA).2 _ _ hf e2⟩
  | dct ks ds => obtain ⟨vs, e1, e3, e2⟩ := x; exact ⟨vs, by rw [hH]; exact e1, e3, (flat_rel hH hA).2 _ _ hf e2⟩
theorem refsOf_nodup : ∀ as : List D, (refsOf as).Nodup
  | [] => List.nodup_nil
  | d :: r => by
    have ih := refsOf_nodup r
    cases d <;> try exact ih
    rename_i i
    show (let l := refsOf r; if i ∈ l then l else i :: l).Nodup
    by_cases hi : i ∈ refsOf r
    · simp only [hi, if_true]; exact ih
    · simp only [hi, if_false]; exact List.nodup_cons.mpr ⟨hi, ih⟩
theorem cellsAt_get : ∀ {rs : List Nat} {cs : List C} {j : Nat} {i : Nat}, cellsAt h rs = some cs → rs[j]? = some i → ∃ c, cs[j]? = some c ∧ h[i]? = some c
  | [], _, j, i, _, e => by simp at e
  | r :: rs, cs, j, i, q, e => by
    unfold cellsAt at q
    cases q1 : h[r]? with
    | none => simp [q1] at q
    | some c =>
      cases q2 : cellsAt h rs with
      | none => simp [q1, q2] at q
      | some cs' =>
        simp [q1, q2] at q; subst q
        cases j with
        | zero => have : r = i := by simpa using e
                  subst this
                  exact ⟨c, rfl, q1⟩
        | succ j =>
          obtain ⟨c', z1, z2⟩ := cellsAt_get (j := j) q2 (by simpa using e)
          exact ⟨c', by simpa using z1, z2⟩
theorem cellsAt_len : ∀ {rs : List Nat} {cs : List C}, cellsAt h rs = some cs → cs.length = rs.length
  | [], cs, q => by simp [cellsAt] at q; subst q; rfl
  | r :: rs, cs, q => by
    unfold cellsAt at q
    cases q1 : h[r]? with
    | none => simp [q1] at q
    | some c =>
      cases q2 : cellsAt h rs with
      | none => simp [q1, q2] at q
      | some cs' => simp [q1, q2] at q; subst q; simp [cellsAt_len q2]
/-- the callee's world -/
def Wo.sub (ω : Wo) (rs : List Nat) : Wo := { ω with β := fun j => ω.β (rs.getD j 0), n := rs.length }
theorem sub_at {rs : List Nat} {j i : Nat} (e : rs[j]? = some i) : (ω.sub rs).β j = ω.β i := by
  show ω.β (rs.getD j 0) = ω.β i
  rw [List.getD_eq_getElem?_getD, e]; rfl
theorem rs_lt {rs : List Nat} {hc : List C} (r : Rel K ω h) (q : cellsAt h rs = some hc) {j i : Nat} (e : rs[j]? = some i) : i < ω.n := by
  obtain ⟨c, _, z⟩ := cellsAt_get q e
  rw [r.n]; exact (List.getElem?_eq_some_iff.mp z).1
theorem Rel.sub_ {rs : List Nat} {hc : List C} (r : Rel K ω h) (nd : rs.Nodup) (q : cellsAt h rs = some hc) (hf : hc.all flatC = true) : Rel K (ω.sub rs) hc where
  tabs := r.tabs
  n := (cellsAt_len q).symm
  inj := fun i j hi hj z => by
    have hi' : i < rs.length := hi
    have hj' : j < rs.length := hj
    have e1 := List.getElem?_eq_getElem hi'
    have e2 := List.getElem?_eq_getElem hj'
    rw [sub_at e1, sub_at e2] at z
    have := r.inj _ _ (rs_lt r q e1) (rs_lt r q e2) z
    exact (List.getElem_inj nd).mp this
  inA := fun i hi => by
    have hi' : i < rs.length := hi
    have e1 := List.getElem?_eq_getElem hi'
    rw [sub_at e1]
    exact r.inA _ (rs_lt r q e1)
  sub := r.sub
  cel := fun j c hj => by
    have hl : j < rs.length := by rw [← cellsAt_len q]; exact (List.getElem?_eq_some_iff.mp hj).1
    have e1 := List.getElem?_eq_getElem hl
    obtain ⟨c', z1, z2⟩ := cellsAt_get q e1
    rw [hj] at z1; cases z1
    rw [sub_at e1]
    exact flat_relC (ω1 := ω) rfl (fun _ z => z) (List.all_eq_true.mp hf c (List.mem_of_getElem? hj)) (r.cel _ _ z2)
theorem findIdx_some {rs : List Nat} {i j : Nat} (e : rs.findIdx? (· == i) = some j) : rs[j]? = some i := by
  obtain ⟨h1, h2, _⟩ := List.findIdx?_eq_some_iff_getElem.mp e
  rw [List.getElem?_eq_getElem h1]
  simpa using h2
theorem renD_rel {rs : List Nat} {d e : D} {v : V} (q : renD rs d = some e) (x : RelD K ω d v) : RelD K (ω.sub rs) e v := by
  by_cases hr : ∃ i, d = .ref i
  · obtain ⟨i, rfl⟩ := hr
    unfold renD at q
    cases q1 : rs.findIdx? (· == i) with
    | none => simp [q1] at q
    | some j =>
      simp [q1] at q; subst q
      have z := findIdx_some q1
      unfold RelD at x ⊢
      refine ⟨(List.getElem?_eq_some_iff.mp z).1, ?_⟩
      rw [sub_at z]; exact x.2
  · have q' : (if flat d = true then some d else none) = some e := by
      cases d <;> first | exact q | exact absurd ⟨_, rfl⟩ hr
    by_cases hf : flat d = true
    · rw [if_pos hf] at q'
      cases q'
      exact (flat_rel (ω1 := ω) (ω2 := ω.sub rs) rfl fun _ z => z).1 _ _ hf x
    · rw [if_neg hf] at q'; cases q'
theorem renL_rel {rs : List Nat} : ∀ {ds es : List D} {vs : List V}, renL rs ds = some es → RelL K ω ds vs → RelL K (ω.sub rs) es vs
  | [], es, vs, q, x => by simp [renL] at q; subst q; rw [x.inv0]; exact RelL.nil
  | d :: ds, es, vs, q, x => by
    obtain ⟨v, ws, rfl, e2, e3⟩ := x.inv
    unfold renL at q
    cases q1 : renD rs d with
    | none => simp [q1] at q
    | some e =>
      cases q2 : renL rs ds with
      | none => simp [q1, q2] at q
      | some es' => simp [q1, q2] at q; subst q; exact RelL.cons (renD_rel q1 e2) (renL_rel q2 e3)
/-- behind the call: the caller's world -/
def Wo.back (ω ω' : Wo) : Wo := { ω with H := ω'.H }
theorem Ext.back {rs : List Nat} (hl : ∀ (j i : Nat), rs[j]? = some i → i < ω.n) (e : Ext (ω.sub rs) ω') : Ext ω (ω.back ω') where
  n := Nat.le_refl _
  b := fun _ _ => rfl
  a := fun _ z => z
  aN := fun _ z => .inl z
  nw := fun i a b => absurd b (Nat.not_lt.mpr a)
  dom := e.dom
  keep := fun q o hq nt hb => e.keep q o hq nt fun j hj z => by
    have hj' : j < rs.length := hj
    have e1 := List.getElem?_eq_getElem hj'
    rw [sub_at e1] at z
    exact hb _ (hl j _ e1) z
theorem frz_rel {rs : List Nat} (r : Rel K ω h) (hl : ∀ (j i : Nat), rs[j]? = some i → i < ω.n) (e : Ext (ω.sub rs) ω') (r' : Rel K ω' h') : ∀ (n : Nat) (d d' : D) (v : V), frzD rs h' n d = some d' → RelD K ω' d v → RelD K (ω.back ω') d' v := by
  have hA : ∀ p, (ω.back ω').A p → ω'.A p := fun p z => e.a p z
  have one : ∀ d v, flat d = true → RelD K ω' d v → RelD K (ω.back ω') d v := (flat_rel (ω1 := ω') (ω2 := ω.back ω') rfl hA).1
  have lst : ∀ (f : D → Option D), (∀ d d' v, f d = some d' → RelD K ω' d v → RelD K (ω.back ω') d' v) → ∀ ds ds' vs, frzD.frzL f ds = some ds' → RelL K ω' ds vs → RelL K (ω.back ω') ds' vs := fun f hf ds => by
    induction ds with
    | nil => intro ds' vs q x; simp [frzD.frzL] at q; subst q; rw [x.inv0]; exact RelL.nil
    | cons d ds ih =>
      intro ds' vs q x
      obtain ⟨v, ws, rfl, e2, e3⟩ := x.inv
      unfold frzD.frzL at q
      cases q1 : f d with
      | none => simp [q1] at q
      | some e =>
        cases q2 : frzD.frzL f ds with
        | none => simp [q1, q2] at q
        | some es' => simp [q1, q2] at q; subst q; exact RelL.cons (hf _ _ _ q1 e2) (ih _ _ q2 e3)
  intro n
  induction n with
  | zero =>
    intro d d' v q x
    unfold frzD at q
    by_cases hf : flat d = true
    · rw [if_pos hf] at q; cases q; exact one _ _ hf x
    · rw [if_neg hf] at q; cases q
  | succ n ih =>
    intro d d' v q x
    unfold frzD at q
    by_cases hf : flat d = true
    · rw [if_pos hf] at q; cases q; exact one _ _ hf x
    · rw [if_neg hf] at q
      cases d with
      | ref i =>
        simp only at q
        unfold RelD at x
        obtain ⟨hi, rfl⟩ := x
        by_cases hr : i < rs.length
        · rw [if_pos hr] at q
          have e1 := List.getElem?_eq_getElem hr
          rw [e1] at q
          simp at q; subst q
          unfold RelD
          refine ⟨hl _ _ e1, ?_⟩
          have z := e.b i hr
          rw [z, sub_at e1]; rfl
        · rw [if_neg hr] at q
          have nA : ¬ (ω.back ω').A (ω'.β i) := fun z => r.sub _ z (e.nw i (Nat.not_lt.mp hr) hi)
          cases q1 : h'[i]? with
          | none => simp [q1] at q
          | some c =>
            have rc := r'.cel i c q1
            cases c with
            | lst ds =>
              simp only [q1] at q
              cases q2 : frzD.frzL (frzD rs h' n) ds with
              | none => simp [q2] at q
              | some ds' =>
                simp [q2] at q; subst q
                obtain ⟨vs, e1, e2⟩ := rc
                unfold RelD
                exact ⟨_, vs, rfl, ⟨e1, nA⟩, lst _ ih _ _ _ q2 e2⟩
            | dct ks ds =>
              simp only [q1] at q
              cases q2 : frzD.frzL (frzD rs h' n) ds with
              | none => simp [q2] at q
              | some ds' =>
                simp [q2] at q; subst q
                obtain ⟨vs, e1, e3, e2⟩ := rc
                unfold RelD
                exact ⟨_, vs, rfl, ⟨e1, nA⟩, e3, lst _ ih _ _ _ q2 e2⟩
      | tup ds =>
        simp only at q
        cases q2 : frzD.frzL (frzD rs h' n) ds with
        | none => simp [q2] at q
        | some ds' =>
          simp [q2] at q; subst q
          unfold RelD at x ⊢
          obtain ⟨p, vs, e1, e2, e3⟩ := x
          exact ⟨p, vs, e1, e2, lst _ ih _ _ _ q2 e3⟩
      | _ => simp at q
theorem wb_get : ∀ {rs : List Nat} {cs : Hc} {h : Hc} {i : Nat} {c : C}, rs.Nodup → rs.length ≤ cs.length → (wb h rs cs)[i]? = some c → (∃ j : Nat, rs[j]? = some i ∧ cs[j]? = some c) ∨ (h[i]? = some c ∧ i ∉ rs)
  | [], cs, h, i, c, _, _, e => by
    have : wb h [] cs = h := by cases cs <;> rfl
    rw [this] at e
    exact .inr ⟨e, by simp⟩
  | r :: rs, [], h, i, c, _, hl, _ => by simp at hl
  | r :: rs, c0 :: cs, h, i, c, nd, hl, e => by
    have nd' := List.nodup_cons.mp nd
    rcases wb_get (h := h.set r c0) nd'.2 (by simpa using hl) e with ⟨j, a, b⟩ | ⟨a, b⟩
    · exact .inl ⟨j + 1, by simpa using a, by simpa using b⟩
    · by_cases hi : r = i
      · subst hi
        have hr : r < h.length := by
          have := (List.getElem?_eq_some_iff.mp a).1
          rw [List.length_set] at this; exact this
        rw [List.getElem?_set_self hr] at a
        exact .inl ⟨0, rfl, by simpa using a⟩
      · rw [List.getElem?_set_ne hi] at a
        refine .inr ⟨a, ?_⟩
        simp only [List.mem_cons, not_or]
        exact ⟨fun z => hi z.symm, b⟩
theorem wb_len : ∀ {rs : List Nat} {cs h : Hc}, (wb h rs cs).length = h.length
  | [], cs, h => by cases cs <;> rfl
  | r :: rs, [], h => rfl
  | r :: rs, c :: cs, h => by
    show (wb (h.set r c) rs cs).length = h.length
    rw [wb_len, List.length_set]
theorem Rel.back {rs : List Nat} {hc : List C} (r : Rel K ω h) (nd : rs.Nodup) (q : cellsAt h rs = some hc) (e : Ext (ω.sub rs) ω') (r' : Rel K ω' h') (hf : (h'.take rs.length).all flatC = true) : Rel K (ω.back ω') (wb h rs h') := by
  have hl : ∀ (j i : Nat), rs[j]? = some i → i < ω.n := fun j i z => rs_lt r q z
  have eb := Ext.back hl e
  have ln : rs.length ≤ h'.length := by
    have := e.n
    rw [r'.n] at this; exact this
  refine ⟨by rw [wb_len]; exact r.n, r.inj, r.inA, fun p hp z => r.sub p hp (e.dom p z), fun i c hi => ?_, r'.tabs⟩
  show RelC K (ω.back ω') (ω.β i) c
  rcases wb_get nd ln hi with ⟨j, a, b⟩ | ⟨a, b⟩
  · have hj : j < rs.length := (List.getElem?_eq_some_iff.mp a).1
    have x := r'.cel j c b
    rw [e.b j hj, sub_at a] at x
    have fc : flatC c = true := List.all_eq_true.mp hf c (List.mem_of_getElem? (i := j) (by rw [List.getElem?_take_of_lt hj]; exact b))
    exact flat_relC (ω1 := ω') rfl (fun p z => e.a p z) fc x
  · have hi' : i < ω.n := by rw [r.n]; exact (List.getElem?_eq_some_iff.mp a).1
    have x := r.cel i c a
    obtain ⟨o, ho, hm⟩ := r.mut hi'
    have st : ω'.H (ω.β i) = ω.H (ω.β i) := by
      rw [ho]
      refine e.keep _ _ ho (fun ps z => by rcases hm with ⟨_, q⟩ | ⟨_, q⟩ <;> (rw [q] at z; cases z)) fun j hj z => ?_
      have hj' : j < rs.length := hj
      have e1 := List.getElem?_eq_getElem hj'
      rw [sub_at e1] at z
      have := r.inj _ _ (hl _ _ e1) hi' z
      exact b (List.mem_of_getElem? (this ▸ e1))
    cases c with
    | lst ys => obtain ⟨vs', e1, e2⟩ := x; exact ⟨vs', st.trans e1, monoL r eb _ _ e2⟩
    | dct ks ys => obtain ⟨vs', e1, e3, e2⟩ := x; exact ⟨vs', st.trans e1, e3, monoL r eb _ _ e2⟩
end
section
variable {X : Cx} {W : WX} {es : List Expr} {as : SA} {m : Fn} {σ : L2.St} {np : Nat}
theorem callL_sp {K : PySem.W.Frag} {mg : Str → Option Value} {ω : Wo} {h : Hc} {xs : List D} {vs : List V} {Q : VK} (hn : vs.length = np) (r : Rel K ω h) (d : RelL K ω xs vs) (p : Post K mg W σ ω (RelD K) Q (callL m xs h)) : spD K mg np m vs ω.H Q (WE W σ) := by
  unfold callL at p
  cases q1 : renL (refsOf xs) xs with
  | none => rw [q1] at p; exact False.elim p
  | some xs' =>
    cases q2 : cellsAt h (refsOf xs) with
    | none => rw [q1, q2] at p; exact False.elim p
    | some hc =>
      rw [q1, q2] at p
      simp only at p
      obtain ⟨hf, p⟩ := p.if_
      have nd := refsOf_nodup xs
      have hl : ∀ (j i : Nat), (refsOf xs)[j]? = some i → i < ω.n := fun j i z => rs_lt r q2 z
      refine ⟨hn, ω.sub (refsOf xs), hc, xs', rfl, r.sub_ nd q2 hf, renL_rel q1 d, ?_⟩
      cases q3 : m xs' hc with
      | bad => rw [q3] at p; exact False.elim p
      | ex x fs ds h' =>
        rw [q3] at p
        simp only at p
        by_cases hh : (h'.take (refsOf xs).length).all flatC = true ∧ flatL ds = true
        · rw [if_pos hh] at p
          intro c dx ω' e r' rx
          refine p c dx (ω.back ω') (Ext.back hl e) (r.back nd q2 e r' hh.1) ?_
          obtain ⟨C, dd, vs', a1, a2, a3, a4, a5, a6⟩ := rx
          exact ⟨C, dd, vs', a1, a2, a3, a4, a5, (flat_rel (ω1 := ω') (ω2 := ω.back ω') rfl fun p z => e.a p z).2 _ _ hh.2 a6⟩
        · rw [if_neg hh] at p; exact False.elim p
      | ok dd h' =>
        rw [q3] at p
        simp only at p
        cases q4 : frzD (refsOf xs) h' 8 dd with
        | none => rw [q4] at p; exact False.elim p
        | some d' =>
          rw [q4] at p
          simp only at p
          obtain ⟨hh, p⟩ := p.if_
          intro v ω' e r' rv
          exact p v (ω.back ω') (Ext.back hl e) (r.back nd q2 e r' hh) (frz_rel r hl e r' 8 dd d' v q4 rv)
variable {k : Nat} {f : Addr} {fd : FuncData} {ps : List Str} {x : Str} {p pos : Pos} {e : Expr}
/-- f(..) -/
theorem de_call (tk : Takes X W) (F : FnOk X.prog X.w X.K X.mg X.base (L2.CX X.prog X.w) k f fd ps (spD X.K X.mg np m)) (hr : Room k X.A) (hg : Gl X x) (hm : X.mg x = some (.ref f)) (hk : PySem.W.keepIn X.K (.ref f) = true) (hb : Binds X.K fd ps [])
    (hn : (e :: es).length = np) (hl : ∀ ds h xs h', as ds h = .ok xs h' → xs.length = (e :: es).length) (ha : DA X W (e :: es) as) (hdb : (x == ("__debug__" : Str)) = false := by decide) (he : starEach (e :: es) X.env = (false, eval e X.env) :: starEach es X.env := by rfl) (hpl : (backTo pos (starEach es X.env)).any (·.1) = false := by rfl) :
    DE X W (.Call (.Name x p) (e :: es) [] pos) (eCall m as) := de_of (pe_callS F hr hg hm hk hb (fun σ => passAt tk σ) ha hdb he hpl) fun σ H Q ⟨ω, h, ds, e1, r, s, p⟩ => by
  subst e1
  refine ⟨ω, h, ds, rfl, r, s, ?_⟩
  cases q : as ds h with
  | ok xs h1 =>
    unfold eCall at p
    rw [q] at p
    have p' : Post X.K X.mg W σ ω (RelD X.K) Q (callL m xs h1) := p
    intro vs ω' e' r' rl
    exact callL_sp (by rw [← rl.len, hl _ _ _ _ q]; exact hn) r' rl (Post.mono p' e')
  | ex x' fs ds' h1 =>
    unfold eCall at p
    rw [q] at p; exact p
  | bad =>
    unfold eCall at p
    rw [q] at p; exact p
end
/-- how many arguments come -/
theorem aNil_len (ds : Sl) (h : Hc) (xs : List D) (h' : Hc) (e : aNil ds h = .ok xs h') : xs.length = 0 := by
  unfold aNil at e; cases e; rfl
theorem aCons_len {m : SE} {as : SA} {n : Nat} (ih : ∀ ds h xs h', as ds h = .ok xs h' → xs.length = n) (ds : Sl) (h : Hc) (xs : List D) (h' : Hc) (e : aCons m as ds h = .ok xs h') : xs.length = n + 1 := by
  unfold aCons at e
  cases q : m ds h with
  | ok x h1 =>
    rw [q] at e
    simp only [R.bd_ok] at e
    cases q2 : as ds h1 with
    | ok ys h2 =>
      rw [q2] at e
      simp only [R.bd_ok] at e
      cases e
      rw [List.length_cons, ih _ _ _ _ q2]
    | ex _ _ _ _ => rw [q2] at e; cases e
    | bad => rw [q2] at e; cases e
  | ex _ _ _ _ => rw [q] at e; cases e
  | bad => rw [q] at e; cases e
end Mp
/-! LayE: operators, subscripts, built-ins, what is walked: by data. -/
namespace Mp
open PySem PySem.Spec PyProof.Rows L2
section
variable {X : Cx} {K : PySem.W.Frag} {mg : Str → Option Value} {ω ω' : Wo} {h h' : Hc} {d : D} {v : V}
/-! ### what data stands for what -/
theorem rd_int {i : Int} (r : RelD K ω (.int i) v) : v = .int i := by unfold RelD at r; exact r
theorem rd_bl {i : Bool} (r : RelD K ω (.bl i) v) : v = .bl i := by unfold RelD at r; exact r
theorem rd_str {i : Str} (r : RelD K ω (.str i) v) : v = .str i := by unfold RelD at r; exact r
theorem rd_non (r : RelD K ω .non v) : v = .non := by unfold RelD at r; exact r
theorem rd_ty {n : String} (r : RelD K ω (.ty n) v) : v = .ty n := by unfold RelD at r; exact r
theorem int_rd {i : Int} : RelD K ω (.int i) (.int i) := by unfold RelD; rfl
theorem bl_rd {i : Bool} : RelD K ω (.bl i) (.bl i) := by unfold RelD; rfl
theorem str_rd {i : Str} : RelD K ω (.str i) (.str i) := by unfold RelD; rfl
theorem non_rd : RelD K ω .non .non := by unfold RelD; rfl
theorem ty_rd {n : String} : RelD K ω (.ty n) (.ty n) := by unfold RelD; rfl
theorem Post.here {W : WX} {σ : L2.St} {Q : VK} {d : D} (p : Post K mg W σ ω (RelD K) Q (.ok d h)) (r : Rel K ω h) (x : RelD K ω d v) : Q v ω.H := p v ω (Ext.refl _) r x
theorem rd_lst {xs : List D} (r : RelD K ω (.lst xs) v) : ∃ p vs, v = .ref p ∧ ω.H p = some (.lst vs) ∧ RelL K ω xs vs := by
  unfold RelD at r
  obtain ⟨p, vs, e1, e2, e3⟩ := r
  exact ⟨p, vs, e1, e2.1, e3⟩
theorem rd_tup {xs : List D} (r : RelD K ω (.tup xs) v) : ∃ p vs, v = .ref p ∧ SqT K ω.H p vs ∧ RelL K ω xs vs := by unfold RelD at r; exact r
theorem rd_scr {xs : List D} (r : RelD K ω (.scr xs) v) : ∃ p vs, v = .ref p ∧ SqL K ω.H p vs ∧ RelL K ω xs vs := by
  unfold RelD at r
  obtain ⟨p, vs, e1, e2, e3⟩ := r
  exact ⟨p, vs, e1, e2.sq, e3⟩
theorem rd_cel {xs : List D} {i : Nat} (rr : Rel K ω h) (r : RelD K ω (.ref i) v) (e : h[i]? = some (.lst xs)) : ∃ vs, i < ω.n ∧ v = .ref (ω.β i) ∧ ω.H (ω.β i) = some (.lst vs) ∧ RelL K ω xs vs := by
  unfold RelD at r
  obtain ⟨vs, e2, e3⟩ := rr.cel i _ e
  exact ⟨vs, r.1, r.2, e2, e3⟩
/-- the items of a list that is tracked as such -/
def lstD (h : Hc) : D → Option (List D)
  | .lst xs => some xs
  | .ref i => match h[i]? with
    | some (.lst xs) => some xs
    | _ => none
  | _ => none
@[simp] theorem lstD_lst (xs : List D) : lstD h (.lst xs) = some xs := Eq.trans rfl rfl
theorem lstD_rel {xs : List D} (r : Rel K ω h) (e : lstD h d = some xs) (x : RelD K ω d v) : ∃ p vs, v = .ref p ∧ ω.H p = some (.lst vs) ∧ RelL K ω xs vs := by
  cases d <;> simp [lstD] at e
  · subst e; exact rd_lst x
  · rename_i i
    cases q : h[i]? with
    | none => simp [q] at e
    | some c =>
      cases c with
      | lst ys => simp [q] at e; subst e; obtain ⟨vs, _, e1, e2, e3⟩ := rd_cel r x q; exact ⟨_, vs, e1, e2, e3⟩
      | dct ks ys => simp [q] at e
/-- the items of a list that is read -/
def rdlD (h : Hc) : D → Option (List D)
  | .scr xs => some xs
  | d => lstD h d
theorem rdlD_rel {xs : List D} (r : Rel K ω h) (e : rdlD h d = some xs) (x : RelD K ω d v) : ∃ p vs, v = .ref p ∧ SqL K ω.H p vs ∧ RelL K ω xs vs := by
  by_cases hs : ∃ ys, d = .scr ys
  · obtain ⟨ys, rfl⟩ := hs
    simp [rdlD] at e; subst e
    exact rd_scr x
  · have e' : lstD h d = some xs := by
      cases d <;> first | exact e | exact absurd ⟨_, rfl⟩ hs
    obtain ⟨p, vs, e1, e2, e3⟩ := lstD_rel r e' x
    exact ⟨p, vs, e1, .inl (.inl e2), e3⟩
/-! ### ints -/
def iF (c : Int → Int → Bool) (g : Int → Int → D) : D → D → Hc → R D
  | .int i, .int j, h => if c i j = true then .ok (g i j) h else .bad
  | _, _, _ => .bad
theorem opd_i {C : Int → Int → Prop} {c : Int → Int → Bool} {g : Int → Int → D} {gV : Int → Int → V} (hc : ∀ i j, c i j = true → C i j) (hg : ∀ i j (ω : Wo), RelD X.K ω (g i j) (gV i j)) : OpD X (rI C gV) (iF c g) := fun W σ ω h x y v u Q r rx ry p => by
  cases x <;> cases y <;> try exact False.elim p
  rename_i i j
  obtain ⟨hcc, p⟩ := p.if_
  exact ⟨i, j, rd_int rx, rd_int ry, hc i j hcc, p.here r (hg i j ω)⟩
def i0F (g : Int → Int → D) : D → D → Hc → R D
  | .int i, .int j, h => .ok (g i j) h
  | _, _, _ => .bad
@[simp] theorem i0F_int (g : Int → Int → D) (i j : Int) (h : Hc) : i0F g (.int i) (.int j) h = .ok (g i j) h := Eq.trans rfl rfl
@[simp] theorem iF_int (c : Int → Int → Bool) (g : Int → Int → D) (i j : Int) (h : Hc) : iF c g (.int i) (.int j) h = if c i j = true then .ok (g i j) h else .bad := Eq.trans rfl rfl
theorem opd_i0 {g : Int → Int → D} {gV : Int → Int → V} (hg : ∀ i j (ω : Wo), RelD X.K ω (g i j) (gV i j)) : OpD X (rI0 gV) (i0F g) := fun W σ ω h x y v u Q r rx ry p => by
  cases x <;> cases y <;> try exact False.elim p
  exact ⟨_, _, rd_int rx, rd_int ry, p.here r (hg _ _ ω)⟩
/-! ### sums: ints, texts, lists, tuples -/
def addF (x y : D) (h : Hc) : R D := match x, y with
  | .int i, .int j => .ok (.int (i + j)) h
  | .str a, .str b => if a.length + b.length ≤ lim then .ok (.str (a ++ b)) h else .bad
  | .tup xs, .tup ys => if xs.length + ys.length ≤ lim then .ok (.tup (xs ++ ys)) h else .bad
  | x, y => match lstD h x, lstD h y with
    | some xs, some ys => if xs.length + ys.length ≤ lim then .ok (.lst (xs ++ ys)) h else .bad
    | _, _ => .bad
@[simp] theorem addF_int (i j : Int) (h : Hc) : addF (.int i) (.int j) h = .ok (.int (i + j)) h := Eq.trans rfl rfl
def rAddA (K : PySem.W.Frag) : R2 := fun x y H Q => (rI0 fun i j => .int (i + j)) x y H Q ∨ (∃ i j, x = .str i ∧ y = .str j ∧ i.length + j.length ≤ sizeLine ∧ Q (.str (i ++ j)) H) ∨ rCat x y H Q ∨ rCatA K x y H Q
theorem op_addA : OpR X (binaryOp .Add) (rAddA X.K) := op_add.or (op_add_str.or (op_cat.or op_catA))
theorem opd_add : OpD X (rAddA X.K) addF := fun W σ ω h x y v u Q r rx ry p => by
  unfold addF at p
  split at p
  · exact .inl ⟨_, _, rd_int rx, rd_int ry, p.here r int_rd⟩
  · obtain ⟨hl, p⟩ := p.if_
    exact .inr (.inl ⟨_, _, rd_str rx, rd_str ry, lim_le hl, p.here r str_rd⟩)
  · rename_i xs ys
    obtain ⟨hl, p⟩ := p.if_
    obtain ⟨a, vs, e1, e2, e3⟩ := rd_tup rx
    obtain ⟨b, ws, e4, e5, e6⟩ := rd_tup ry
    subst e1; subst e4
    refine .inr (.inr (.inr ⟨a, b, vs, ws, rfl, rfl, e2, e5, by rw [← e3.len, ← e6.len]; exact lim_le hl, fun z => ?_, fun z1 z2 => ?_, fun _ _ q hq => ?_⟩))
    · subst z
      have : xs = [] := List.eq_nil_of_length_eq_zero e3.len
      subst this
      exact p.here r ry
    · subst z2
      have : ys = [] := List.eq_nil_of_length_eq_zero e6.len
      subst this
      rw [List.append_nil] at p
      exact p.here r rx
    · refine p (.ref q) (ω.up q _) (Ext.up hq) (r.up hq) ?_
      unfold RelD
      exact ⟨q, _, rfl, .inl (.inl upd_same), monoL r (Ext.up hq) _ _ (e3.append e6)⟩
  · split at p
    · rename_i xs ys q1 q2
      obtain ⟨hl, p⟩ := p.if_
      obtain ⟨a, vs, e1, e2, e3⟩ := lstD_rel r q1 rx
      obtain ⟨b, ws, e4, e5, e6⟩ := lstD_rel r q2 ry
      exact .inr (.inr (.inl ⟨a, b, vs, ws, e1, e4, e2, e5, by rw [← e3.len, ← e6.len]; exact lim_le hl, fun q hq => p (.ref q) (ω.up q _) (Ext.up hq) (r.up hq) (fz_new r hq (e3.append e6))⟩))
    · exact False.elim p
abbrev subF := i0F fun i j => .int (i - j)
theorem opd_sub : OpD X (rI0 fun i j => .int (i - j)) subF := opd_i0 fun _ _ _ => int_rd
def mulOk (i j : Int) : Bool := decide (-(2 ^ 64) < i ∧ i < 2 ^ 64) || decide (-(2 ^ 64) < j ∧ j < 2 ^ 64) || decide (i.natAbs.log2 + j.natAbs.log2 < 1000000)
/-- n copies of a list's items -/
def repD (n : Nat) (xs : List D) : List D := (List.replicate n xs).flatten
def mulF (x y : D) (h : Hc) : R D := match x, y with
  | .int i, .int j => if mulOk i j = true then .ok (.int (i * j)) h else .bad
  | x, .int k => match lstD h x with
    | some xs => if k ≤ lim ∧ -lim ≤ k ∧ xs.length * k.toNat ≤ lim then .ok (.lst (repD k.toNat xs)) h else .bad
    | none => .bad
  | _, _ => .bad
@[simp] theorem mulF_int (i j : Int) (h : Hc) : mulF (.int i) (.int j) h = if mulOk i j = true then .ok (.int (i * j)) h else .bad := Eq.trans rfl rfl
def rMulA : R2 := fun x y H Q => (rI CMul fun i j => .int (i * j)) x y H Q ∨ (rI CMulW fun i j => .int (i * j)) x y H Q ∨ rRep x y H Q
theorem op_mulA : OpR X (binaryOp .Mult) rMulA := op_mul.or (op_mulW.or op_rep)
theorem RelL.rep {xs : List D} {vs : List V} (x : RelL K ω xs vs) : ∀ n : Nat, RelL K ω (repD n xs) (List.replicate n vs).flatten
  | 0 => by simpa [repD] using RelL.nil
  | n + 1 => by
    have ih := RelL.rep x n
    unfold repD at ih ⊢
    rw [List.replicate_succ, List.replicate_succ, List.flatten_cons, List.flatten_cons]
    exact x.append ih
theorem opd_mul : OpD X rMulA mulF := fun W σ ω h x y v u Q r rx ry p => by
  unfold mulF at p
  split at p
  · rename_i i j
    obtain ⟨hl, p⟩ := p.if_
    unfold mulOk at hl
    simp only [Bool.or_eq_true, decide_eq_true_eq] at hl
    rcases hl with (hl | hl) | hl
    · exact .inl ⟨_, _, rd_int rx, rd_int ry, .inl hl, p.here r int_rd⟩
    · exact .inl ⟨_, _, rd_int rx, rd_int ry, .inr hl, p.here r int_rd⟩
    · exact .inr (.inl ⟨_, _, rd_int rx, rd_int ry, hl, p.here r int_rd⟩)
  · split at p
    · rename_i k _ _ xs q1
      obtain ⟨⟨h1, h2, h3⟩, p⟩ := p.if_
      obtain ⟨a, vs, e1, e2, e3⟩ := lstD_rel r q1 rx
      have l1 : (lim : Int) = 1000000 := rfl
      exact .inr (.inr ⟨a, k, vs, e1, rd_int ry, e2, by omega, by omega, by rw [← e3.len]; exact lim_le h3, fun q hq => p (.ref q) (ω.up q _) (Ext.up hq) (r.up hq) (fz_new r hq (e3.rep _))⟩)
    · exact False.elim p
  · exact False.elim p
def divOk (j : Int) : Bool := decide (j ≠ 0) && decide (j.natAbs.log2 < 9000)
abbrev fdivF := iF (fun _ j => divOk j) fun i j => .int (i.fdiv j)
theorem op_fdivA : OpR X (binaryOp .FloorDiv) (rI (fun _ j => divOk j = true) fun i j => .int (i.fdiv j)) := opI fun i j _ _ _ _ _ hc q => by
  unfold divOk at hc
  simp only [Bool.and_eq_true, decide_eq_true_eq] at hc
  exact floordiv_int hc.1 q (.inl (PyProof.noPylong_of_log2 hc.2))
theorem opd_fdiv : OpD X (rI (fun _ j => divOk j = true) fun i j => .int (i.fdiv j)) fdivF := opd_i (fun _ _ h => h) fun _ _ _ => int_rd
abbrev modF := iF (fun _ j => decide (0 < j)) fun i j => .int (i % j)
theorem opd_mod : OpD X (rI (fun _ j => 0 < j) fun i j => .int (i % j)) modF := opd_i (fun _ _ h => of_decide_eq_true h) fun _ _ _ => int_rd
abbrev powF := iF (fun i j => decide (0 ≤ j) && decide (j ≤ 1000000) && decide (i.natAbs < 2 ^ 64)) fun i j => .int (i ^ j.toNat)
theorem opd_pow : OpD X (rI CPow fun i j => .int (i ^ j.toNat)) powF := opd_i (fun _ _ h => by simp only [Bool.and_eq_true, decide_eq_true_eq] at h; exact ⟨h.1.1, h.1.2, h.2⟩) fun _ _ _ => int_rd
abbrev shlF := iF (fun i j => decide (0 ≤ j) && decide (j ≤ 1000000) && decide (i.natAbs < 2 ^ 64)) fun i j => .int (i * 2 ^ j.toNat)
abbrev shrF := iF (fun _ j => decide (0 ≤ j)) fun i j => .int (i / 2 ^ j.toNat)
abbrev bandF := i0F fun i j => .int (Builtin.bitAnd i j)
abbrev borF := i0F fun i j => .int (Builtin.bitOr i j)
abbrev bxorF := i0F fun i j => .int (Builtin.bitXor i j)
def negF : D → Hc → R D
  | .int i, h => .ok (.int (-i)) h
  | _, _ => .bad
@[simp] theorem negF_int (i : Int) (h : Hc) : negF (.int i) h = .ok (.int (-i)) h := Eq.trans rfl rfl
theorem und_neg : UnD X (rU fun i => .int (-i)) negF := fun W σ ω h x v Q r rx p => by
  cases x <;> try exact False.elim p
  exact ⟨_, rd_int rx, p.here r int_rd⟩
/-! ### order -/
def ordF (g : Int → Int → Bool) (gs : List Nat → List Nat → Bool) : D → D → Hc → R D
  | .int i, .int j, h => .ok (.bl (g i j)) h
  | .str a, .str b, h => .ok (.bl (gs a.cps.toList b.cps.toList)) h
  | _, _, _ => .bad
@[simp] theorem ordF_int (g : Int → Int → Bool) (gs : List Nat → List Nat → Bool) (i j : Int) (h : Hc) : ordF g gs (.int i) (.int j) h = .ok (.bl (g i j)) h := Eq.trans rfl rfl
def rOrd (g : Int → Int → Bool) (gs : List Nat → List Nat → Bool) : R2 := fun x y H Q => (rI0 fun i j => .bl (g i j)) x y H Q ∨ ∃ i j, x = .str i ∧ y = .str j ∧ Q (.bl (gs i.cps.toList j.cps.toList)) H
theorem opd_ord {g : Int → Int → Bool} {gs : List Nat → List Nat → Bool} : OpD X (rOrd g gs) (ordF g gs) := fun W σ ω h x y v u Q r rx ry p => by
  cases x <;> cases y <;> try exact False.elim p
  · exact .inl ⟨_, _, rd_int rx, rd_int ry, p.here r bl_rd⟩
  · exact .inr ⟨_, _, rd_str rx, rd_str ry, p.here r bl_rd⟩
abbrev ltF := ordF (fun i j => decide (i < j)) (fun a b => decide (a < b))
abbrev leF := ordF (fun i j => decide (i ≤ j)) (fun a b => !decide (b < a))
abbrev gtF := ordF (fun i j => decide (j < i)) (fun a b => decide (b < a))
abbrev geF := ordF (fun i j => decide (j ≤ i)) (fun a b => !decide (a < b))
theorem op_ltA : OpR X (compareOp .Lt) (rOrd (fun i j => decide (i < j)) (fun a b => decide (a < b))) := op_lt.or op_lt_str
theorem op_leA : OpR X (compareOp .LtE) (rOrd (fun i j => decide (i ≤ j)) (fun a b => !decide (b < a))) := op_le.or op_le_str
theorem op_gtA : OpR X (compareOp .Gt) (rOrd (fun i j => decide (j < i)) (fun a b => decide (b < a))) := op_gt.or op_gt_str
theorem op_geA : OpR X (compareOp .GtE) (rOrd (fun i j => decide (j ≤ i)) (fun a b => !decide (a < b))) := op_ge.or op_ge_str
/-! ### is None -/
def isN : D → Bool
  | .non => true
  | _ => false
theorem isN_rel (r : RelD K ω d v) : decide (v = .non) = isN d := by
  cases d with
  | non => rw [rd_non r]; rfl
  | bl b => rw [rd_bl r]; rfl
  | int b => rw [rd_int r]; rfl
  | str b => rw [rd_str r]; rfl
  | ty b => rw [rd_ty r]; rfl
  | tup b => obtain ⟨p, vs, rfl, _⟩ := rd_tup r; rfl
  | lst b => obtain ⟨p, vs, rfl, _⟩ := rd_lst r; rfl
  | scr b => obtain ⟨p, vs, rfl, _⟩ := rd_scr r; rfl
  | dct ks b => unfold RelD at r; obtain ⟨p, vs, rfl, _⟩ := r; rfl
  | ref i => unfold RelD at r; rw [r.2]; rfl
def isnF (x y : D) (h : Hc) : R D := match y with
  | .non => .ok (.bl (isN x)) h
  | _ => .bad
def notnF (x y : D) (h : Hc) : R D := match y with
  | .non => .ok (.bl (!isN x)) h
  | _ => .bad
@[simp] theorem isnF_non (x : D) (h : Hc) : isnF x .non h = .ok (.bl (isN x)) h := Eq.trans rfl rfl
theorem opd_isn : OpD X (fun x y H Q => y = .non ∧ Q (.bl (decide (x = .non))) H) isnF := fun W σ ω h x y v u Q r rx ry p => by
  cases y <;> try exact False.elim p
  exact ⟨rd_non ry, by rw [isN_rel rx]; exact p.here r bl_rd⟩
/-! ### == -/
mutual
def toPy : D → Option PyData
  | .non => some .none
  | .bl b => some (.bool b)
  | .int i => some (.int i)
  | .str x => some (.str x)
  | .tup xs => (toPyL xs).map .tuple
  | .lst xs => (toPyL xs).map .list
  | .scr xs => (toPyL xs).map .list
  | _ => none
def toPyL : List D → Option (List PyData)
  | [] => some []
  | d :: ds => match toPy d, toPyL ds with
    | some e, some es => some (e :: es)
    | _, _ => none
end
def toPyR (h : Hc) : D → Option PyData
  | .ref i => match h[i]? with
    | some (.lst xs) => (toPyL xs).map .list
    | _ => none
  | d => toPy d
theorem toPy_rel : (∀ d v e, toPy d = some e → RelD K ω d v → Dp K ω.H v e) ∧ ∀ ds vs es, toPyL ds = some es → RelL K ω ds vs → DpAll K ω.H vs es := by
  have cons : ∀ d ds, (∀ v e, toPy d = some e → RelD K ω d v → Dp K ω.H v e) → (∀ vs es, toPyL ds = some es → RelL K ω ds vs → DpAll K ω.H vs es) → ∀ vs es, toPyL (d :: ds) = some es → RelL K ω (d :: ds) vs → DpAll K ω.H vs es := by
    intro d ds ih1 ih2 vs es q x
    obtain ⟨v, ws, rfl, e2, e3⟩ := x.inv
    unfold toPyL at q
    cases q1 : toPy d with
    | none => simp [q1] at q
    | some e =>
      cases q2 : toPyL ds with
      | none => simp [q1, q2] at q
      | some es' => simp [q1, q2] at q; subst q; exact .cons (ih1 _ _ q1 e2) (ih2 _ _ q2 e3)
  have nil : ∀ vs es, toPyL [] = some es → RelL K ω [] vs → DpAll K ω.H vs es := by
    intro vs es q x
    simp [toPyL] at q; subst q
    rw [x.inv0]; exact .nil
  have aux := @D.rec (motive_1 := fun d => ∀ v e, toPy d = some e → RelD K ω d v → Dp K ω.H v e) (motive_2 := fun ds => ∀ vs es, toPyL ds = some es → RelL K ω ds vs → DpAll K ω.H vs es)
    (fun v e q x => by simp [toPy] at q; subst q; rw [rd_non x]; exact .non) (fun b v e q x => by simp [toPy] at q; subst q; rw [rd_bl x]; exact .bl b) (fun b v e q x => by simp [toPy] at q; subst q; rw [rd_int x]; exact .int b) (fun b v e q x => by simp [toPy] at q; subst q; rw [rd_str x]; exact .str b)
    (fun ds ih v e q x => by
      simp only [toPy, Option.map_eq_some_iff] at q
      obtain ⟨es, q1, rfl⟩ := q
      obtain ⟨p, vs, rfl, e2, e3⟩ := rd_tup x
      exact .tup e2 (ih _ _ q1 e3))
    (fun ds ih v e q x => by
      simp only [toPy, Option.map_eq_some_iff] at q
      obtain ⟨es, q1, rfl⟩ := q
      obtain ⟨p, vs, rfl, e2, e3⟩ := rd_lst x
      exact .lst (.inl (.inl e2)) (ih _ _ q1 e3))
    (fun ds ih v e q x => by
      simp only [toPy, Option.map_eq_some_iff] at q
      obtain ⟨es, q1, rfl⟩ := q
      obtain ⟨p, vs, rfl, e2, e3⟩ := rd_scr x
      exact .lst e2 (ih _ _ q1 e3))
    (fun ks ds ih v e q x => by simp [toPy] at q) (fun i v e q x => by simp [toPy] at q) (fun t v e q x => by simp [toPy] at q) nil (fun d ds ih1 ih2 => cons d ds ih1 ih2)
  refine ⟨aux, fun ds => ?_⟩
  induction ds with
  | nil => exact nil
  | cons d ds ih => exact cons d ds (aux d) ih
theorem toPyR_rel {e : PyData} (r : Rel K ω h) (q : toPyR h d = some e) (x : RelD K ω d v) : Dp K ω.H v e := by
  by_cases hs : ∃ i, d = .ref i
  · obtain ⟨i, rfl⟩ := hs
    unfold toPyR at q
    cases q1 : h[i]? with
    | none => simp [q1] at q
    | some c =>
      cases c with
      | dct ks ys => simp [q1] at q
      | lst xs =>
        simp only [q1, Option.map_eq_some_iff] at q
        obtain ⟨es, q2, rfl⟩ := q
        obtain ⟨vs, _, rfl, e2, e3⟩ := rd_cel r x q1
        exact .lst (.inl (.inl e2)) (toPy_rel.2 _ _ _ q2 e3)
  · have q' : toPy d = some e := by cases d <;> first | exact q | exact absurd ⟨_, rfl⟩ hs
    exact toPy_rel.1 _ _ _ q' x
def eqG (neg : Bool) (x y : D) (h : Hc) : R D := match x, y with
  | .int i, .int j => .ok (.bl (if neg then !decide (i = j) else decide (i = j))) h
  | .str i, .str j => .ok (.bl (if neg then !decide (i = j) else decide (i = j))) h
  | .bl i, .bl j => .ok (.bl (if neg then !decide (i = j) else decide (i = j))) h
  | .non, .non => .ok (.bl (!neg)) h
  | .non, .int _ => .ok (.bl neg) h
  | .int _, .non => .ok (.bl neg) h
  | .non, .str _ => .ok (.bl neg) h
  | .str _, .non => .ok (.bl neg) h
  | .int _, .str _ => .ok (.bl neg) h
  | .str _, .int _ => .ok (.bl neg) h
  | x, y => match toPyR h x, toPyR h y with
    | some a, some b => if SeqAt.shaped a = true ∧ SeqAt.shaped b = true then .ok (.bl (if neg then !PyData.eqv a b else PyData.eqv a b)) h else .bad
    | _, _ => .bad
abbrev eqF := eqG false
abbrev neF := eqG true
def rEqA (K : PySem.W.Frag) (neg : Bool) : R2 := fun x y H Q => (scal x y = true ∧ Q (.bl (if neg then !decide (x = y) else decide (x = y))) H) ∨ ∃ d e, Dp K H x d ∧ Dp K H y e ∧ SeqAt.shaped d = true ∧ SeqAt.shaped e = true ∧ Q (.bl (if neg then !PyData.eqv d e else PyData.eqv d e)) H
theorem op_eqA (hu : X.A.units + 64 < cLine) : OpR X (compareOp .Eq) (rEqA X.K false) := op_eq.or (op_eqD hu)
theorem op_neA (hu : X.A.units + 64 < cLine) : OpR X (compareOp .NotEq) (rEqA X.K true) := op_ne.or (op_neD hu)
theorem dec_inj {α : Type} [DecidableEq α] {f : α → V} (hf : ∀ a b, f a = f b → a = b) (a b : α) : decide (f a = f b) = decide (a = b) := by
  by_cases e : a = b
  · subst e; simp
  · rw [decide_eq_false e, decide_eq_false fun z => e (hf _ _ z)]
theorem opd_eqA {neg : Bool} : OpD X (rEqA X.K neg) (eqG neg) := fun W σ ω h x y v u Q r rx ry p => by
  unfold eqG at p
  split at p
  · rw [rd_int rx, rd_int ry]
    exact .inl ⟨rfl, by rw [dec_inj (f := V.int) (fun a b e => by cases e; rfl)]; exact p.here r bl_rd⟩
  · rw [rd_str rx, rd_str ry]
    exact .inl ⟨rfl, by rw [dec_inj (f := V.str) (fun a b e => by cases e; rfl)]; exact p.here r bl_rd⟩
  · rw [rd_bl rx, rd_bl ry]
    exact .inl ⟨rfl, by rw [dec_inj (f := V.bl) (fun a b e => by cases e; rfl)]; exact p.here r bl_rd⟩
  · rw [rd_non rx, rd_non ry]
    exact .inl ⟨rfl, by have := p.here r bl_rd; cases neg <;> exact this⟩
  · rw [rd_non rx, rd_int ry]
    exact .inl ⟨rfl, by have := p.here r bl_rd; cases neg <;> exact this⟩
  · rw [rd_int rx, rd_non ry]
    exact .inl ⟨rfl, by have := p.here r bl_rd; cases neg <;> exact this⟩
  · rw [rd_non rx, rd_str ry]
    exact .inl ⟨rfl, by have := p.here r bl_rd; cases neg <;> exact this⟩
  · rw [rd_str rx, rd_non ry]
    exact .inl ⟨rfl, by have := p.here r bl_rd; cases neg <;> exact this⟩
  · rw [rd_int rx, rd_str ry]
    exact .inl ⟨rfl, by have := p.here r bl_rd; cases neg <;> exact this⟩
  · rw [rd_str rx, rd_int ry]
    exact .inl ⟨rfl, by have := p.here r bl_rd; cases neg <;> exact this⟩
  · split at p
    · rename_i a b q1 q2
      obtain ⟨hs, p⟩ := p.if_
      exact .inr ⟨a, b, toPyR_rel r q1 rx, toPyR_rel r q2 ry, hs.1, hs.2, p.here r bl_rd⟩
    · exact False.elim p
/-! ### in: a flat item in a row of flat items; a sign in a text -/
def scalD : D → Bool
  | .non => true
  | .bl _ => true
  | .int _ => true
  | .str _ => true
  | _ => false
def eqS : D → D → Bool
  | .non, .non => true
  | .bl a, .bl b => a == b
  | .bl a, .int b => (if a then 1 else 0) == b
  | .int a, .bl b => a == (if b then 1 else 0)
  | .int a, .int b => a == b
  | .str a, .str b => a == b
  | _, _ => false
theorem scal_rel (hs : scalD d = true) (r : RelD K ω d v) : flatV v = true := by
  cases d <;> simp [scalD] at hs
  · rw [rd_non r]; rfl
  · rw [rd_bl r]; rfl
  · rw [rd_int r]; rfl
  · rw [rd_str r]; rfl
theorem scalL_rel : ∀ {ds : List D} {vs : List V}, ds.all scalD = true → RelL K ω ds vs → vs.all flatV = true
  | [], vs, _, x => by rw [x.inv0]; rfl
  | d :: ds, vs, hs, x => by
    obtain ⟨v, ws, rfl, e2, e3⟩ := x.inv
    simp only [List.all_cons, Bool.and_eq_true] at hs ⊢
    exact ⟨scal_rel hs.1 e2, scalL_rel hs.2 e3⟩
theorem eqS_rel {e : D} {u : V} (hd : scalD d = true) (he : scalD e = true) (r : RelD K ω d v) (r2 : RelD K ω e u) : eqV v u = eqS d e := by
  cases d <;> simp [scalD] at hd <;> cases e <;> simp [scalD] at he
  all_goals first
    | (rw [rd_non r, rd_non r2]; rfl) | (rw [rd_non r, rd_bl r2]; rfl) | (rw [rd_non r, rd_int r2]; rfl) | (rw [rd_non r, rd_str r2]; rfl)
    | (rw [rd_bl r, rd_non r2]; rfl) | (rw [rd_bl r, rd_bl r2]; rfl) | (rw [rd_bl r, rd_int r2]; rfl) | (rw [rd_bl r, rd_str r2]; rfl)
    | (rw [rd_int r, rd_non r2]; rfl) | (rw [rd_int r, rd_bl r2]; rfl) | (rw [rd_int r, rd_int r2]; rfl) | (rw [rd_int r, rd_str r2]; rfl)
    | (rw [rd_str r, rd_non r2]; rfl) | (rw [rd_str r, rd_bl r2]; rfl) | (rw [rd_str r, rd_int r2]; rfl) | (rw [rd_str r, rd_str r2]; rfl)
theorem any_rel {e : D} {u : V} (he : scalD e = true) (r2 : RelD K ω e u) : ∀ {ds : List D} {vs : List V}, ds.all scalD = true → RelL K ω ds vs → inV u vs = ds.any fun y => eqS y e
  | [], vs, _, x => by rw [x.inv0]; rfl
  | d :: ds, vs, hs, x => by
    obtain ⟨v, ws, rfl, e2, e3⟩ := x.inv
    simp only [List.all_cons, Bool.and_eq_true] at hs
    unfold inV
    rw [List.any_cons, List.any_cons, eqS_rel hs.1 he e2 r2]
    have := any_rel he r2 hs.2 e3
    unfold inV at this
    rw [this]
def inG (neg : Bool) (x y : D) (h : Hc) : R D := match x, y with
  | .str a, .str b => match a.cps.toList with
    | [c] => .ok (.bl (if neg then !decide (c ∈ b.cps.toList) else decide (c ∈ b.cps.toList))) h
    | _ => .bad
  | x, y => match seqD h y with
    | some xs => if scalD x = true ∧ xs.all scalD = true then .ok (.bl (if neg then !(xs.any fun y => eqS y x) else xs.any fun y => eqS y x)) h else .bad
    | none => .bad
def rInA (K : PySem.W.Frag) (neg : Bool) : R2 := fun x y H Q => rIn K neg x y H Q ∨ ∃ (c : Nat) (z : Str), x = .str ⟨#[c]⟩ ∧ y = .str z ∧ Q (.bl (if neg then !decide (c ∈ z.cps.toList) else decide (c ∈ z.cps.toList))) H
theorem op_inA : OpR X (compareOp .In) (rInA X.K false) := op_in_seq.or op_in_sign
theorem op_notInA : OpR X (compareOp .NotIn) (rInA X.K true) := op_notIn_seq.or op_notIn_sign
theorem opd_in {neg : Bool} : OpD X (rInA X.K neg) (inG neg) := fun W σ ω h x y v u Q r rx ry p => by
  unfold inG at p
  split at p
  · rename_i a b
    split at p
    · rename_i c q
      refine .inr ⟨c, b, ?_, rd_str ry, p.here r bl_rd⟩
      rw [rd_str rx]
      obtain ⟨⟨l⟩⟩ := a
      have q' : l = [c] := q
      rw [q']
    · exact False.elim p
  · split at p
    · rename_i xs q
      obtain ⟨⟨h1, h2⟩, p⟩ := p.if_
      obtain ⟨a, vs, e1, e2, e3⟩ := seqD_rel r q ry
      refine .inl ⟨a, vs, e1, e2.symm, scal_rel h1 rx, scalL_rel h2 e3, ?_⟩
      rw [any_rel h1 rx h2 e3]
      exact p.here r bl_rd
    · exact False.elim p
/-! ### subscripts -/
def ixF (x y : D) (h : Hc) : R D := match y with
  | .int i => match x with
    | .str z => if z.length ≤ lim then (match atI z.cps.toList i with
      | some c => .ok (.str ⟨#[c]⟩) h
      | none => .bad) else .bad
    | x => match seqD h x with
      | some xs => match atI xs i with
        | some d => .ok d h
        | none => .bad
      | none => .bad
  | _ => .bad
theorem atI_rel {ds : List D} {vs : List V} {i : Int} (x : RelL K ω ds vs) (e : atI ds i = some d) : ∃ v, atI vs i = some v ∧ RelD K ω d v := by
  unfold atI at e ⊢
  rw [← x.len]
  cases q : ixN ds.length i with
  | none => rw [q] at e; cases e
  | some j =>
    rw [q] at e
    exact x.get e
theorem opd_ix : OpD X (rIx X.K) ixF := fun W σ ω h x y v u Q r rx ry p => by
  unfold ixF at p
  split at p
  · rename_i i
    split at p
    · rename_i z
      obtain ⟨hl, p⟩ := p.if_
      split at p
      · rename_i c q
        exact .inr (.inr ⟨z, i, c, rd_str rx, rd_int ry, lim_le hl, q, p.here r str_rd⟩)
      · exact False.elim p
    · split at p
      · rename_i xs q
        split at p
        · rename_i d q2
          obtain ⟨a, vs, e1, e2, e3⟩ := seqD_rel r q rx
          obtain ⟨w, e4, e5⟩ := atI_rel e3 q2
          rcases e2 with e2 | e2
          · exact .inr (.inl ⟨a, vs, i, w, e1, rd_int ry, e2, e4, p.here r e5⟩)
          · exact .inl ⟨a, vs, i, w, e1, rd_int ry, e2, e4, p.here r e5⟩
        · exact False.elim p
      · exact False.elim p
  · exact False.elim p
/-! ### slices -/
def cutD {α : Type} (xs : List α) (lo hi : Option Int) : List α := (xs.drop (HT.sIx xs.length 0 lo)).take (HT.sIx xs.length xs.length hi - HT.sIx xs.length 0 lo)
def slF (x : D) (lo hi : Option Int) (h : Hc) : R D := match x with
  | .tup xs => .ok (.tup (cutD xs lo hi)) h
  | .str z => if z.length ≤ lim then .ok (.str ⟨(cutD z.cps.toList lo hi).toArray⟩) h else .bad
  | x => match rdlD h x with
    | some xs => .ok (.lst (cutD xs lo hi)) h
    | none => .bad
def slC (x : D) (lo hi : Option Int) (h : Hc) : R D := match rdlD h x with
    | some xs => .ok (.ref h.length) (h ++ [.lst (cutD xs lo hi)])
    | none => .bad
def rSlAll (K : PySem.W.Frag) : V → Option Int → Option Int → Hp → VK → Prop := fun x lo hi H Q => rSlA K x lo hi H Q ∨ (∃ z, x = .str z ∧ z.length ≤ sizeLine ∧ Q (.str (cutS z lo hi)) H) ∨ rSlL K x lo hi H Q
theorem sl_all : SlR X (rSlAll X.K) := sl_tupA.or (sl_str.or sl_list)
def optI (m : Option SE) : Sl → Hc → R (Option Int) := fun ds h => match m with
  | none => .ok none h
  | some m => (m ds h).bd fun d h1 => match d with
    | .int i => .ok (some i) h1
    | _ => .bad
def eSl (f : D → Option Int → Option Int → Hc → R D) (m : SE) (lo hi : Option SE) : SE := fun ds h => (m ds h).bd fun x h1 => (optI lo ds h1).bd fun l h2 => (optI hi ds h2).bd fun u h3 => f x l u h3
end
end Mp
/-! LayF: built-in functions, methods, stores, what is walked. -/
namespace Mp
open PySem PySem.Spec PyProof.Rows L2
section
variable {X : Cx} {W : WX} {K : PySem.W.Frag} {mg : Str → Option Value} {ω ω' : Wo} {h h' : Hc} {d : D} {v : V} {e a b : Expr} {es : List Expr} {m ma mb : SE} {as : SA} {pos p : Pos} {x : Str}
/-! ### slices -/
theorem cut_rel {xs : List D} {vs : List V} (x : RelL K ω xs vs) (lo hi : Option Int) : RelL K ω (cutD xs lo hi) (cutV vs lo hi) := by
  unfold cutD cutV
  rw [x.len]
  exact (x.drop _).take _
theorem cut_all {α : Type} (xs : List α) (lo hi : Option Int) (h1 : HT.sIx xs.length 0 lo = 0) (h2 : HT.sIx xs.length xs.length hi = xs.length) : cutD xs lo hi = xs := by
  unfold cutD
  rw [h1, h2]
  simp
def SlD (X : Cx) (r : V → Option Int → Option Int → Hp → VK → Prop) (f : D → Option Int → Option Int → Hc → R D) : Prop :=
  ∀ (W : WX) (σ : L2.St) (ω : Wo) (h : Hc) (x : D) (lo hi : Option Int) (v : V) (Q : VK), Rel X.K ω h → RelD X.K ω x v → Post X.K X.mg W σ ω (RelD X.K) Q (f x lo hi h) → r v lo hi ω.H Q
theorem sld_f : SlD X (rSlAll X.K) slF := fun W σ ω h x lo hi v Q r rx p => by
  unfold slF at p
  split at p
  · rename_i xs
    obtain ⟨a, vs, e1, e2, e3⟩ := rd_tup rx
    subst e1
    refine .inl ⟨a, vs, rfl, e2, fun z => ?_, fun _ q hq => ?_⟩
    · rw [← e3.len] at z
      rw [cut_all xs lo hi z.1 z.2] at p
      exact p.here r rx
    · refine p (.ref q) (ω.up q _) (Ext.up hq) (r.up hq) ?_
      unfold RelD
      exact ⟨q, _, rfl, .inl (.inl upd_same), monoL r (Ext.up hq) _ _ (cut_rel e3 lo hi)⟩
  · rename_i z
    obtain ⟨hl, p⟩ := p.if_
    exact .inr (.inl ⟨z, rd_str rx, lim_le hl, p.here r str_rd⟩)
  · split at p
    · rename_i xs q
      obtain ⟨a, vs, e1, e2, e3⟩ := rdlD_rel r q rx
      exact .inr (.inr ⟨a, vs, e1, e2, fun q hq => p (.ref q) (ω.up q _) (Ext.up hq) (r.up hq) (fz_new r hq (cut_rel e3 lo hi))⟩)
    · exact False.elim p
abbrev tOI (X : Cx) (W : WX) (m : Option SE) : TO := tOf X.K X.mg W (fun _ a b => a = b) (optI m)
abbrev DO (X : Cx) (W : WX) (e : Option Expr) (m : Option SE) : Prop := PO X e (tOI X W m)
theorem do_none : DO X W none none := ⟨fun pins s σ H Q I q => po_none.run pins s σ H Q I (by
  obtain ⟨ω, h, ds, e1, r, s, p⟩ := q
  subst e1
  exact p _ ω (Ext.refl _) r rfl)⟩
theorem do_some (he : DE X W e m) : DO X W (some e) (some m) := ⟨fun pins s σ H Q I q => (po_some he).run pins s σ H Q I (by
  obtain ⟨ω, h, ds, e1, r, s, p⟩ := q
  subst e1
  refine ⟨ω, h, ds, rfl, r, s, Post.bd (show Post X.K X.mg W σ ω _ Q ((m ds h).bd _) from p) fun d h1 v ω1 e1 r1 d1 p1 => ?_⟩
  split at p1
  · exact ⟨_, rd_int d1, p1 _ ω1 (Ext.refl _) r1 rfl⟩
  · exact False.elim p1)⟩
theorem de_sl {r : V → Option Int → Option Int → Hp → VK → Prop} {f : D → Option Int → Option Int → Hc → R D} {lo hi : Option SE} (h : PE X e (tSl r (tE X W m) (tOI X W lo) (tOI X W hi))) (hd : SlD X r f) : DE X W e (eSl f m lo hi) :=
  de_of h fun σ H Q ⟨ω, h, ds, e1, r, s, p⟩ => by
    subst e1
    exact ⟨ω, h, ds, rfl, r, s, p.bd fun x h1 v ω1 e1 r1 d1 p1 => ⟨ω1, h1, ds, rfl, r1, monoS r e1 s, p1.bd fun l h2 l' ω2 e2 r2 d2 p2 => ⟨ω2, h2, ds, rfl, r2, monoS r (e1.trans e2) s, p2.bd fun u h3 u' ω3 e3 r3 d3 p3 => by
      have d2' : l = l' := d2
      have d3' : u = u' := d3
      subst d2'; subst d3'
      exact hd W σ ω3 h3 x l u v Q r3 (mono r1 (e2.trans e3) _ _ d1) p3⟩⟩⟩
/-! ### built-in functions -/
def CallD (X : Cx) (r : List V → Hp → VK → Prop) (f : List D → Hc → R D) : Prop :=
  ∀ (W : WX) (σ : L2.St) (ω : Wo) (h : Hc) (xs : List D) (vs : List V) (Q : VK), Rel X.K ω h → RelL X.K ω xs vs → Post X.K X.mg W σ ω (RelD X.K) Q (f xs h) → r vs ω.H Q
def eCB (f : List D → Hc → R D) (as : SA) : SE := fun ds h => (as ds h).bd fun xs h1 => f xs h1
theorem de_cb {r : List V → Hp → VK → Prop} {f : List D → Hc → R D} (h : PE X e (tCB r (tA X W as))) (hd : CallD X r f) : DE X W e (eCB f as) := de_of h fun σ H Q ⟨ω, h, ds, e1, r, s, p⟩ => by
  subst e1
  exact ⟨ω, h, ds, rfl, r, s, p.bd fun xs h1 vs ω1 e1 r1 d1 p1 => hd W σ ω1 h1 xs vs Q r1 d1 p1⟩
/-- a dict's keys and values -/
def dctD (h : Hc) : D → Option (List Key × List D)
  | .dct ks ds => some (ks, ds)
  | .ref i => match h[i]? with
    | some (.dct ks ds) => some (ks, ds)
    | _ => none
  | _ => none
theorem dctD_rel {ks : List Key} {ds : List D} (r : Rel K ω h) (e : dctD h d = some (ks, ds)) (x : RelD K ω d v) : ∃ p vs, v = .ref p ∧ ω.H p = some (.dK (ks.zip vs)) ∧ ks.length = vs.length ∧ RelL K ω ds vs := by
  cases d <;> simp [dctD] at e
  · obtain ⟨rfl, rfl⟩ := e
    unfold RelD at x
    obtain ⟨p, vs, e1, e2, e3, e4⟩ := x
    exact ⟨p, vs, e1, e2.1, e3, e4⟩
  · rename_i i
    cases q : h[i]? with
    | none => simp [q] at e
    | some c =>
      cases c with
      | lst ys => simp [q] at e
      | dct ks' ds' =>
        simp [q] at e
        obtain ⟨rfl, rfl⟩ := e
        unfold RelD at x
        obtain ⟨vs, e1, e2, e3⟩ := r.cel i _ q
        exact ⟨_, vs, x.2, e1, e2, e3⟩
/-- len -/
def lenF (xs : List D) (h : Hc) : R D := match xs with
  | [.str z] => if z.length ≤ lim then .ok (.int z.length) h else .bad
  | [d] => match seqD h d with
    | some ys => .ok (.int ys.length) h
    | none => match dctD h d with
      | some (ks, _) => .ok (.int ks.length) h
      | none => .bad
  | _ => .bad
def rLenA (K : PySem.W.Frag) : List V → Hp → VK → Prop := fun xs H Q => (∃ x n, xs = [x] ∧ LenV K x H n ∧ Q (.int n) H) ∨ ∃ a kvs, xs = [V.ref a] ∧ H a = some (.dK kvs) ∧ Q (.int kvs.length) H
theorem call_lenA : CallR X (.builtin "len") (rLenA X.K) := call_len.or call_lenD
theorem zip_len {ks : List Key} {vs : List V} (e : ks.length = vs.length) : (ks.zip vs).length = ks.length := by rw [List.length_zip, e, Nat.min_self]
theorem cd_len : CallD X (rLenA X.K) lenF := fun W σ ω h xs vs Q r rx p => by
  unfold lenF at p
  split at p
  · rename_i z
    obtain ⟨hl, p⟩ := p.if_
    obtain ⟨v, ws, rfl, e2, e3⟩ := rx.inv
    rw [e3.inv0, rd_str e2]
    exact .inl ⟨_, z.length, rfl, ⟨lim_le hl, rfl⟩, p.here r int_rd⟩
  · obtain ⟨v, ws, rfl, e2, e3⟩ := rx.inv
    rw [e3.inv0]
    split at p
    · rename_i ys q
      obtain ⟨a, us, e1, e4, e5⟩ := seqD_rel r q e2
      refine .inl ⟨v, us.length, rfl, ?_, by rw [← e5.len]; exact p.here r int_rd⟩
      rw [e1]
      exact e4.elim (fun z => .inr ⟨us, z, rfl⟩) fun z => .inl ⟨us, z, rfl⟩
    · split at p
      · rename_i ks ds q
        obtain ⟨a, us, e4, e5, e6, e7⟩ := dctD_rel r q e2
        refine .inr ⟨a, _, by rw [e4], e5, ?_⟩
        rw [zip_len e6]; exact p.here r int_rd
      · exact False.elim p
  · exact False.elim p
/-- isinstance -/
def tyD (h : Hc) : D → Option String
  | .non => some "NoneType"
  | .bl _ => some "bool"
  | .int _ => some "int"
  | .str _ => some "str"
  | .tup _ => some "tuple"
  | .lst _ => some "list"
  | .scr _ => some "list"
  | .dct _ _ => some "dict"
  | .ref i => match h[i]? with
    | some (.lst _) => some "list"
    | some (.dct _ _) => some "dict"
    | none => none
  | .ty _ => none
theorem tyD_rel {t : String} (r : Rel K ω h) (e : tyD h d = some t) (x : RelD K ω d v) : TyX K ω.H v (.type t) := by
  have tl : ∀ {p : Addr} {vs : List V}, SqL K ω.H p vs → TyX K ω.H (.ref p) (.type "list") := fun z => by
    rcases z with (z | ⟨o, z⟩) | ⟨o, its, n, z1, z2, _⟩
    · exact .base (.lst z)
    · exact .base (.frz z)
    · exact .kList z1 z2
  cases d <;> simp [tyD] at e
  · subst e; rw [rd_non x]; exact .base .non
  · subst e; rw [rd_bl x]; exact .base (.bl _)
  · subst e; rw [rd_int x]; exact .base (.int _)
  · subst e; rw [rd_str x]; exact .base (.str _)
  · subst e
    obtain ⟨p, vs, rfl, z, _⟩ := rd_tup x
    rcases z with (z | ⟨o, z⟩) | ⟨o, its, n, z1, z2, _⟩
    · exact .base (.tup z)
    · exact .fTuple z
    · exact .kTuple z1 z2
  · subst e
    obtain ⟨p, vs, rfl, z, _⟩ := rd_lst x
    exact tl (.inl (.inl z))
  · subst e
    obtain ⟨p, vs, rfl, z, _⟩ := rd_scr x
    exact tl z
  · rename_i ks ds
    subst e
    obtain ⟨p, vs, rfl, z, _⟩ := dctD_rel (d := .dct ks ds) r rfl x
    exact .base (.dK z)
  · rename_i i
    cases q : h[i]? with
    | none => simp [q] at e
    | some c =>
      cases c with
      | lst ys =>
        simp [q] at e; subst e
        obtain ⟨vs, _, rfl, z, _⟩ := rd_cel r x q
        exact tl (.inl (.inl z))
      | dct ks ds =>
        simp [q] at e; subst e
        obtain ⟨p, vs, rfl, z, _⟩ := dctD_rel (d := .ref i) (ks := ks) (ds := ds) r (by simp only [dctD, q]) x
        exact .base (.dK z)
def tyNames : List String := ["NoneType", "bool", "int", "str", "tuple", "list", "dict"]
def isB (a b : String) : Bool := a == b || (a == "bool" && b == "int")
theorem isB_ok : ∀ a ∈ tyNames, ∀ b ∈ (["bool", "int", "str", "tuple", "list", "dict"] : List String), kitB a b = some (isB a b) := by decide +kernel
theorem tyD_in {t : String} (e : tyD h d = some t) : t ∈ tyNames := by
  cases d <;> simp [tyD] at e <;> try (subst e; decide)
  rename_i i
  cases q : h[i]? with
  | none => simp [q] at e
  | some c => cases c <;> simp [q] at e <;> subst e <;> decide
def tyAsked : List String := ["bool", "int", "str", "tuple", "list", "dict"]
def isF (xs : List D) (h : Hc) : R D := match xs with
  | [x, .ty b] => match tyD h x with
    | some t => if tyAsked.contains b = true then .ok (.bl (isB t b)) h else .bad
    | none => .bad
  | _ => .bad
theorem cd_is : CallD X (rIsi X.K) isF := fun W σ ω h xs vs Q r rx p => by
  unfold isF at p
  split at p
  · rename_i x b
    split at p
    · rename_i t q1
      obtain ⟨hc, p⟩ := p.if_
      obtain ⟨v, ws, rfl, e2, e3⟩ := rx.inv
      obtain ⟨u, ws', rfl, e4, e5⟩ := e3.inv
      rw [e5.inv0]
      exact ⟨v, u, .type t, .type b, isB t b, rfl, by rw [rd_ty e4]; exact .ty b, tyD_rel r q1 e2, kit_ty (isB_ok t (tyD_in q1) b (by simpa [tyAsked] using hc)), p.here r bl_rd⟩
    · exact False.elim p
  · exact False.elim p
/-- isinstance(x, (A, B)) -/
def eIs2 (m : SE) (a b : String) : SE := fun ds h => (m ds h).bd fun x h1 => match tyD h1 x with
  | some t => if tyAsked.contains a = true ∧ tyAsked.contains b = true then .ok (.bl (isB t a || isB t b)) h1 else .bad
  | none => .bad
theorem TyX.up {t : Value} {q : Addr} {o : HO} (hq : ω.H q = none) (x : TyX K ω.H v t) : TyX K (upd ω.H q o) v t := by
  have ne : ∀ {a : Addr} {u : HO}, ω.H a = some u → (upd ω.H q o) a = some u := fun z => by rw [upd_ne (ne_of_none z hq)]; exact z
  cases x with
  | base z =>
    cases z with
    | non => exact .base .non
    | bl b => exact .base (.bl b)
    | int i => exact .base (.int i)
    | str i => exact .base (.str i)
    | flt i => exact .base (.flt i)
    | lst e => exact .base (.lst (ne e))
    | frz e => exact .base (.frz (ne e))
    | tup e => exact .base (.tup (ne e))
    | dK e => exact .base (.dK (ne e))
    | dT e => exact .base (.dT (ne e))
    | ins e a b c d f => exact .base (.ins (ne e) a b c d f)
  | byt b => exact .byt b
  | set e => exact .set (ne e)
  | kList e c => exact .kList e c
  | kTuple e c => exact .kTuple e c
  | kDict e c => exact .kDict e c
  | fTuple e => exact .fTuple (ne e)
  | fDict e => exact .fDict (ne e)
theorem de_is2 {a b : String} {e : Expr} (h : PE X e (tCB (rIsiT X.K) (tCons (tE X W m) (tCons (tTup (tCons (tC (.ty a)) (tCons (tC (.ty b)) tNil))) tNil)))) : DE X W e (eIs2 m a b) := de_of h fun σ H Q ⟨ω, h, ds, e1, r, s, p⟩ => by
  subst e1
  refine ⟨ω, h, ds, rfl, r, s, Post.bd (show Post X.K X.mg W σ ω _ Q ((m ds h).bd _) from p) fun x h1 v ω1 e1 r1 d1 p1 => ?_⟩
  split at p1
  · rename_i t q1
    obtain ⟨⟨ha, hb⟩, p1⟩ := p1.if_
    refine ⟨by show 2 ≤ sizeLine; decide, fun q hq => ⟨v, q, [.ty a, .ty b], .type t, [.type a, .type b], isB t a || isB t b, rfl, upd_same, .cons (.ty a) (.cons (.ty b) .nil), TyX.up hq (tyD_rel r1 q1 d1), ?_, p1 _ (ω1.up q _) (Ext.up hq) (r1.up hq) bl_rd⟩⟩
    have za := kit_ty (K := X.K) (isB_ok t (tyD_in q1) a (by simpa [tyAsked] using ha))
    have zb := kit_ty (K := X.K) (isB_ok t (tyD_in q1) b (by simpa [tyAsked] using hb))
    refine kitAny_cons za (fun z => ?_) fun z => by rw [z]; rfl
    refine kitAny_cons zb (fun z2 => ?_) fun z2 => by rw [z, z2]; rfl
    rw [z, z2]; exact kitAny_nil
  · exact False.elim p1
/-- int -/
def intF (xs : List D) (h : Hc) : R D := match xs with
  | [.int i] => .ok (.int i) h
  | [.bl b] => .ok (.int (if b then 1 else 0)) h
  | _ => .bad
@[simp] theorem intF_int (i : Int) (h : Hc) : intF [.int i] h = .ok (.int i) h := Eq.trans rfl rfl
theorem cd_int : CallD X (fun xs H Q => (∃ i, xs = [.int i] ∧ Q (.int i) H) ∨ ∃ k, xs = [.bl k] ∧ Q (.int (if k then 1 else 0)) H) intF := fun W σ ω h xs vs Q r rx p => by
  unfold intF at p
  split at p
  · obtain ⟨v, ws, rfl, e2, e3⟩ := rx.inv
    rw [e3.inv0, rd_int e2]
    exact .inl ⟨_, rfl, p.here r int_rd⟩
  · obtain ⟨v, ws, rfl, e2, e3⟩ := rx.inv
    rw [e3.inv0, rd_bl e2]
    exact .inr ⟨_, rfl, p.here r int_rd⟩
  · exact False.elim p
/-- math.gcd -/
def gcdF (xs : List D) (h : Hc) : R D := match xs with
  | [.int i, .int j] => .ok (.int ((Nat.gcd i.natAbs j.natAbs : Nat) : Int)) h
  | _ => .bad
@[simp] theorem gcdF_int (i j : Int) (h : Hc) : gcdF [.int i, .int j] h = .ok (.int ((Nat.gcd i.natAbs j.natAbs : Nat) : Int)) h := Eq.trans rfl rfl
theorem cd_gcd : CallD X rGcd gcdF := fun W σ ω h xs vs Q r rx p => by
  unfold gcdF at p
  split at p
  · obtain ⟨v, ws, rfl, e2, e3⟩ := rx.inv
    obtain ⟨v', ws', rfl, e4, e5⟩ := e3.inv
    rw [e5.inv0, rd_int e2, rd_int e4]
    exact ⟨_, _, rfl, p.here r int_rd⟩
  · exact False.elim p
/-- tuple(xs), list(xs) -/
def tupleF (xs : List D) (h : Hc) : R D := match xs with
  | [.tup ys] => .ok (.tup ys) h
  | [d] => match rdlD h d with
    | some ys => .ok (.tup ys) h
    | none => .bad
  | _ => .bad
theorem cd_tuple : CallD X (fun xs H Q => ∃ p ys, xs = [.ref p] ∧ ((SqL X.K H p ys ∧ ∀ l, H l = none → Q (.ref l) (upd H l (.tup ys))) ∨ (SqT X.K H p ys ∧ Q (.ref p) H))) tupleF := fun W σ ω h xs vs Q r rx p => by
  unfold tupleF at p
  split at p
  · obtain ⟨v, ws, rfl, e2, e3⟩ := rx.inv
    rw [e3.inv0]
    obtain ⟨a, us, e4, e5, e6⟩ := rd_tup e2
    subst e4
    exact ⟨a, us, rfl, .inr ⟨e5, p.here r e2⟩⟩
  · obtain ⟨v, ws, rfl, e2, e3⟩ := rx.inv
    rw [e3.inv0]
    split at p
    · rename_i ys q
      obtain ⟨a, us, e4, e5, e6⟩ := rdlD_rel r q e2
      subst e4
      refine ⟨a, us, rfl, .inl ⟨e5, fun l hl => p (.ref l) (ω.up l _) (Ext.up hl) (r.up hl) ?_⟩⟩
      unfold RelD
      exact ⟨l, _, rfl, .inl (.inl upd_same), monoL r (Ext.up hl) _ _ e6⟩
    · exact False.elim p
  · exact False.elim p
def listF (xs : List D) (h : Hc) : R D := match xs with
  | [d] => match seqD h d with
    | some ys => .ok (.lst ys) h
    | none => .bad
  | _ => .bad
def listC (xs : List D) (h : Hc) : R D := match xs with
  | [d] => match seqD h d with
    | some ys => .ok (.ref h.length) (h ++ [.lst ys])
    | none => .bad
  | _ => .bad
theorem cd_list : CallD X (fun xs H Q => ∃ p ys, xs = [.ref p] ∧ (SqL X.K H p ys ∨ SqT X.K H p ys) ∧ ∀ l, H l = none → Q (.ref l) (upd H l (.lst ys))) listF := fun W σ ω h xs vs Q r rx p => by
  unfold listF at p
  split at p
  · obtain ⟨v, ws, rfl, e2, e3⟩ := rx.inv
    rw [e3.inv0]
    split at p
    · rename_i ys q
      obtain ⟨a, us, e4, e5, e6⟩ := seqD_rel r q e2
      subst e4
      exact ⟨a, us, rfl, e5.symm, fun l hl => p (.ref l) (ω.up l _) (Ext.up hl) (r.up hl) (fz_new r hl e6)⟩
    · exact False.elim p
  · exact False.elim p
/-- sum, all, any of a list -/
def intsD : List D → Option (List Int)
  | [] => some []
  | .int i :: r => (intsD r).map (i :: ·)
  | _ :: _ => none
def blsD : List D → Option (List Bool)
  | [] => some []
  | .bl i :: r => (blsD r).map (i :: ·)
  | _ :: _ => none
def strsD : List D → Option (List Str)
  | [] => some []
  | .str i :: r => (strsD r).map (i :: ·)
  | _ :: _ => none
theorem intsD_eq : ∀ {ds : List D} {ns : List Int}, intsD ds = some ns → ds = ns.map D.int
  | [], ns, e => by simp [intsD] at e; subst e; rfl
  | d :: ds, ns, e => by
    cases d <;> simp [intsD] at e
    obtain ⟨a, e1, rfl⟩ := e
    rw [intsD_eq e1]; rfl
theorem blsD_eq : ∀ {ds : List D} {ns : List Bool}, blsD ds = some ns → ds = ns.map D.bl
  | [], ns, e => by simp [blsD] at e; subst e; rfl
  | d :: ds, ns, e => by
    cases d <;> simp [blsD] at e
    obtain ⟨a, e1, rfl⟩ := e
    rw [blsD_eq e1]; rfl
theorem strsD_eq : ∀ {ds : List D} {ns : List Str}, strsD ds = some ns → ds = ns.map D.str
  | [], ns, e => by simp [strsD] at e; subst e; rfl
  | d :: ds, ns, e => by
    cases d <;> simp [strsD] at e
    obtain ⟨a, e1, rfl⟩ := e
    rw [strsD_eq e1]; rfl
@[simp] theorem intsD_map (ns : List Int) : intsD (ns.map D.int) = some ns := by induction ns with
  | nil => rfl
  | cons n ns ih => simp [intsD, ih]
@[simp] theorem blsD_map (ns : List Bool) : blsD (ns.map D.bl) = some ns := by induction ns with
  | nil => rfl
  | cons n ns ih => simp [blsD, ih]
/-- one list of ints (bools), and what is made of it -/
def lF {α : Type} (get : List D → Option (List α)) (g : List α → D) (xs : List D) (h : Hc) : R D := match xs with
  | [d] => match rdlD h d with
    | some ys => match get ys with
      | some ns => .ok (g ns) h
      | none => .bad
    | none => .bad
  | _ => .bad
abbrev sumF := lF intsD fun ns => .int ns.sum
abbrev allF := lF blsD fun bs => .bl (bs.all id)
abbrev anyF := lF blsD fun bs => .bl (bs.any id)
theorem lF_get {α : Type} {get : List D → Option (List α)} {g : List α → D} {xs : List D} {vs : List V} {Q : VK} {σ : L2.St} (r : Rel X.K ω h) (rx : RelL X.K ω xs vs) (p : Post X.K X.mg W σ ω (RelD X.K) Q (lF get g xs h)) :
    ∃ a us ys ns, vs = [.ref a] ∧ SqL X.K ω.H a us ∧ get ys = some ns ∧ RelL X.K ω ys us ∧ Post X.K X.mg W σ ω (RelD X.K) Q (.ok (g ns) h) := by
  unfold lF at p
  split at p
  · obtain ⟨v, ws, rfl, e2, e3⟩ := rx.inv
    rw [e3.inv0]
    split at p
    · rename_i ys q
      split at p
      · rename_i ns q2
        obtain ⟨a, us, e4, e5, e6⟩ := rdlD_rel r q e2
        subst e4
        exact ⟨a, us, ys, ns, rfl, e5, q2, e6, p⟩
      · exact False.elim p
    · exact False.elim p
  · exact False.elim p
theorem cd_all : CallD X (rAll X.K) allF := fun W σ ω h xs vs Q r rx p => by
  obtain ⟨a, us, ys, ns, rfl, e1, e2, e3, p⟩ := lF_get r rx p
  rw [blsD_eq e2] at e3
  rw [e3.bls] at e1
  exact ⟨a, ns, rfl, e1, p.here r bl_rd⟩
/-! ### methods of lists -/
def MtD (X : Cx) (T : String) (r : V → List V → Hp → VK → Prop) (f : D → List D → Hc → R D) : Prop :=
  ∀ (W : WX) (σ : L2.St) (ω : Wo) (h : Hc) (x : D) (xs : List D) (v : V) (vs : List V) (Q : VK), Rel X.K ω h → RelD X.K ω x v → RelL X.K ω xs vs → Post X.K X.mg W σ ω (RelD X.K) Q (f x xs h) → r v vs ω.H Q
/-- of which type the receiver is, as it is read ahead of the arguments -/
def kindOk (h : Hc) (T : String) (x : D) : Bool := if T == "str" then (match x with | .str _ => true | _ => false) else if T == "list" then (rdlD h x).isSome else if T == "dict" then (dctD h x).isSome else false
theorem kindOk_rel {T : String} (r : Rel K ω h) (e : kindOk h T d = true) (x : RelD K ω d v) : tyV K T v ω.H := by
  unfold kindOk at e
  split at e
  · rename_i ht
    have ht' : T = "str" := by simpa using ht
    subst ht'
    cases d <;> simp at e
    rw [rd_str x]; rfl
  · split at e
    · rename_i ht
      have ht' : T = "list" := by simpa using ht
      subst ht'
      obtain ⟨ys, q⟩ := Option.isSome_iff_exists.mp e
      obtain ⟨a, us, rfl, e5, e6⟩ := rdlD_rel r q x
      exact .inl ⟨rfl, us, e5⟩
    · split at e
      · rename_i ht
        have ht' : T = "dict" := by simpa using ht
        subst ht'
        obtain ⟨⟨ks, ds⟩, q⟩ := Option.isSome_iff_exists.mp e
        obtain ⟨a, us, rfl, e5, e6⟩ := dctD_rel r q x
        exact .inr (.inr (.inl ⟨rfl, .inl ⟨_, e5⟩⟩))
      · cases e
def eBM (T : String) (f : D → List D → Hc → R D) (m : SE) (as : SA) : SE := fun ds h => (m ds h).bd fun x h1 => if kindOk h1 T x = true then (as ds h1).bd fun xs h2 => f x xs h2 else .bad
def eBM0 (T : String) (f : D → List D → Hc → R D) (m : SE) : SE := fun ds h => (m ds h).bd fun x h1 => if kindOk h1 T x = true then f x [] h1 else .bad
theorem de_bm {T : String} {r : V → List V → Hp → VK → Prop} {f : D → List D → Hc → R D} (h : PE X e (tBM X.K T r (tE X W m) (tA X W as))) (hd : MtD X T r f) : DE X W e (eBM T f m as) := de_of h fun σ H Q ⟨ω, h, ds, e1, r, s, p⟩ => by
  subst e1
  refine ⟨ω, h, ds, rfl, r, s, Post.bd (show Post X.K X.mg W σ ω _ Q ((m ds h).bd _) from p) fun x h1 v ω1 e1 r1 d1 p1 => ?_⟩
  obtain ⟨hk, p1⟩ := p1.if_
  exact ⟨kindOk_rel r1 hk d1, ω1, h1, ds, rfl, r1, monoS r e1 s, p1.bd fun xs h2 vs ω2 e2 r2 d2 p2 => hd W σ ω2 h2 x xs v vs Q r2 (mono r1 e2 _ _ d1) d2 p2⟩
theorem de_bm0 {T : String} {r : V → List V → Hp → VK → Prop} {f : D → List D → Hc → R D} (h : PE X e (tBM0 X.K T r (tE X W m))) (hd : MtD X T r f) : DE X W e (eBM0 T f m) := de_of h fun σ H Q ⟨ω, h, ds, e1, r, s, p⟩ => by
  subst e1
  refine ⟨ω, h, ds, rfl, r, s, Post.bd (show Post X.K X.mg W σ ω _ Q ((m ds h).bd _) from p) fun x h1 v ω1 e1 r1 d1 p1 => ?_⟩
  obtain ⟨hk, p1⟩ := p1.if_
  exact ⟨kindOk_rel r1 hk d1, hd W σ ω1 h1 x [] v [] Q r1 d1 RelL.nil p1⟩
/-- xs.append(d) -/
def appF (x : D) (as : List D) (h : Hc) : R D := match x, as with
  | .ref i, [d] => match h[i]? with
    | some (.lst xs) => if xs.length < lim then .ok .non (h.set i (.lst (xs ++ [d]))) else .bad
    | _ => .bad
  | _, _ => .bad
theorem put_lst {i : Nat} {xs ys : List D} {vs : List V} (r : Rel K ω h) (q : h[i]? = some (.lst xs)) (y : RelL K ω ys vs) :
    Ext ω (ω.up (ω.β i) (.lst vs)) ∧ Rel K (ω.up (ω.β i) (.lst vs)) (h.set i (.lst ys)) := by
  have hi : i < ω.n := by rw [r.n]; exact (List.getElem?_eq_some_iff.mp q).1
  obtain ⟨o, ho, _⟩ := r.mut hi
  have e := Ext.put (o := .lst vs) hi ho
  exact ⟨e, r.put hi ⟨vs, upd_same, monoL r e _ _ y⟩⟩
theorem md_app : MtD X "list" rAppend appF := fun W σ ω h x xs v vs Q r rx ry p => by
  unfold appF at p
  split at p
  · rename_i i d
    split at p
    · rename_i ys q
      obtain ⟨hl, p⟩ := p.if_
      obtain ⟨us, hi, rfl, e2, e3⟩ := rd_cel r rx q
      obtain ⟨u, ws, rfl, e4, e5⟩ := ry.inv
      rw [e5.inv0]
      obtain ⟨e, r'⟩ := put_lst r q (e3.append (RelL.cons e4 RelL.nil))
      exact ⟨_, us, u, rfl, rfl, e2, by rw [← e3.len]; exact lim_lt hl, p _ _ e r' non_rd⟩
    · exact False.elim p
  · exact False.elim p
/-- xs.pop() -/
def popF (x : D) (as : List D) (h : Hc) : R D := match x, as with
  | .ref i, [] => match h[i]? with
    | some (.lst xs) => match xs[xs.length - 1]? with
      | some d => .ok d (h.set i (.lst xs.dropLast))
      | none => .bad
    | _ => .bad
  | _, _ => .bad
theorem RelL.dropLast {xs : List D} {vs : List V} (x : RelL K ω xs vs) : RelL K ω xs.dropLast vs.dropLast := by
  rw [List.dropLast_eq_take, List.dropLast_eq_take, x.len]
  exact x.take _
theorem md_pop : MtD X "list" rPop popF := fun W σ ω h x xs v vs Q r rx ry p => by
  unfold popF at p
  split at p
  · rename_i i
    split at p
    · rename_i ys q
      split at p
      · rename_i d q2
        obtain ⟨us, hi, rfl, e2, e3⟩ := rd_cel r rx q
        rw [ry.inv0]
        obtain ⟨w, e4, e5⟩ := e3.get q2
        obtain ⟨e, r'⟩ := put_lst r q e3.dropLast
        exact ⟨_, us, w, rfl, rfl, e2, by rw [← e3.len]; exact e4, p _ _ e r' (mono r e _ _ e5)⟩
      · exact False.elim p
    · exact False.elim p
  · exact False.elim p
/-! ### stores -/
def SetD (X : Cx) (r : TSet) (f : D → D → D → Hc → Option Hc) : Prop :=
  ∀ (ω : Wo) (h h' : Hc) (o i x : D) (ov iv v : V) (Q : Hp → Prop), Rel X.K ω h → RelD X.K ω o ov → RelD X.K ω i iv → RelD X.K ω x v → f o i x h = some h' → (∀ ω', Ext ω ω' → Rel X.K ω' h' → Q ω'.H) → r ov iv v ω.H Q
def setF (o i x : D) (h : Hc) : Option Hc := match o, i with
  | .ref j, .int k => match h[j]? with
    | some (.lst xs) => (ixN xs.length k).map fun n => h.set j (.lst (xs.set n x))
    | _ => none
  | _, _ => none
theorem sd_set : SetD X rSetL setF := fun ω h h' o i x ov iv v Q r ro ri rx e q => by
  unfold setF at e
  split at e
  · rename_i j k
    split at e
    · rename_i xs q1
      rw [Option.map_eq_some_iff] at e
      obtain ⟨n, e1, rfl⟩ := e
      obtain ⟨us, hj, rfl, e2, e3⟩ := rd_cel r ro q1
      obtain ⟨ex, r'⟩ := put_lst r q1 (RelL.set rx n e3)
      exact ⟨_, us, k, n, rfl, rd_int ri, e2, by rw [← e3.len]; exact e1, q _ ex r'⟩
    · cases e
  · cases e
def sPut (f : D → D → D → Hc → Option Hc) (me mo mi : SE) : SS := fun ds h => sBd (me ds h) ds fun x h1 => sBd (mo ds h1) ds fun o h2 => sBd (mi ds h2) ds fun i h3 => match f o i x h3 with
  | some h4 => .nx ds h4
  | none => .bad
theorem ds_put {o i e : Expr} {me mo mi : SE} {r : TSet} {f : D → D → D → Hc → Option Hc} {p' : Pos} (h : PS X (.Assign [.Subscript o i p'] e pos) (tAsg (tE X W me) (gSub (tE X W mo) (tE X W mi) r))) (hd : SetD X r f) : DS X W (.Assign [.Subscript o i p'] e pos) (sPut f me mo mi) :=
  ds_of h fun E σ H ⟨ω, h, ds, e1, r, s, p⟩ => by
    subst e1
    refine ⟨ω, h, ds, rfl, r, s, PostO.bd r s p fun x h1 v ω1 e1 r1 d1 s1 p1 => ⟨ω1, h1, ds, rfl, r1, s1, PostO.bd r1 s1 p1 fun o h2 u ω2 e2 r2 d2 s2 p2 => ⟨ω2, h2, ds, rfl, r2, s2, PostO.bd r2 s2 p2 fun i h3 w ω3 e3 r3 d3 s3 p3 => ?_⟩⟩⟩
    cases q : f o i x h3 with
    | none => rw [q] at p3; exact False.elim p3
    | some h4 =>
      rw [q] at p3
      exact hd ω3 h3 h4 o i x u w v _ r3 (mono r2 e3 _ _ d2) d3 (mono r1 (e2.trans e3) _ _ d1) q fun ω4 e4 r4 => p3 σ ω4 e4 r4 (monoS r3 e4 s3)
/-- x op= e -/
def sAug (i : Nat) (f : D → D → Hc → R D) (me : SE) : SS := fun ds h => match ds[i]? with
  | some (some x) => sBd ((me ds h).bd fun y h1 => f x y h1) ds fun z h2 => .nx (ds.set i (some z)) h2
  | _ => .bad
theorem ds_aug {st : Stmt} {i : Nat} {me : SE} {r : R2} {f : D → D → Hc → R D} (h : PS X st (tAug i (tE X W me) r)) (hd : OpD X r f) : DS X W st (sAug i f me) := ds_of h fun E σ H ⟨ω, h, ds, e1, r, s, p⟩ => by
  subst e1
  unfold sAug at p
  split at p
  · rename_i x q
    obtain ⟨v, e2, rx⟩ := s.2 i x q
    refine ⟨v, e2, ω, h, ds, rfl, r, s, ?_⟩
    have p' : Post X.K X.mg W σ ω (RelD X.K) (fun z H2 => E.nx (σ.set i (some z)) H2) ((me ds h).bd fun y h1 => f x y h1) := PostO.bd r s p fun z h2 w ω2 e2 r2 d2 s2 p2 => p2 _ ω2 (Ext.refl _) r2 (s2.set i d2)
    exact p'.bd fun y h1 u ω1 e1 r1 d1 p1 => hd W σ ω1 h1 x y v u _ r1 (mono r e1 _ _ rx) d1 p1
  · exact False.elim p
/-! ### what is walked -/
mutual
/-- equality of data, to be reckoned -/
def eqDD : D → D → Bool
  | .non, .non => true
  | .bl a, .bl b => a == b
  | .int a, .int b => decide (a = b)
  | .str a, .str b => decide (a = b)
  | .ty a, .ty b => decide (a = b)
  | .tup a, .tup b => eqDL a b
  | .lst a, .lst b => eqDL a b
  | .scr a, .scr b => eqDL a b
  | .dct k a, .dct l b => decide (k = l) && eqDL a b
  | .ref a, .ref b => decide (a = b)
  | _, _ => false
def eqDL : List D → List D → Bool
  | [], [] => true
  | a :: r, b :: s => eqDD a b && eqDL r s
  | _, _ => false
end
mutual
theorem eqDD_eq : ∀ (a b : D), eqDD a b = true → a = b
  | .non, b, h => by cases b <;> simp [eqDD] at h ⊢
  | .bl x, b, h => by cases b <;> simp [eqDD] at h ⊢; exact h
  | .int x, b, h => by cases b <;> simp [eqDD] at h ⊢; exact h
  | .str x, b, h => by cases b <;> simp [eqDD] at h ⊢; exact h
  | .ty x, b, h => by cases b <;> simp [eqDD] at h ⊢; exact h
  | .tup x, b, h => by cases b <;> simp [eqDD] at h ⊢; exact eqDL_eq _ _ h
  | .lst x, b, h => by cases b <;> simp [eqDD] at h ⊢; exact eqDL_eq _ _ h
  | .scr x, b, h => by cases b <;> simp [eqDD] at h ⊢; exact eqDL_eq _ _ h
  | .dct k x, b, h => by cases b <;> simp [eqDD] at h ⊢; exact ⟨h.1, eqDL_eq _ _ h.2⟩
  | .ref x, b, h => by cases b <;> simp [eqDD] at h ⊢; exact h
theorem eqDL_eq : ∀ (a b : List D), eqDL a b = true → a = b
  | [], b, h => by cases b <;> simp [eqDL] at h ⊢
  | x :: r, b, h => by
    cases b with
    | nil => simp [eqDL] at h
    | cons y s =>
      simp [eqDL] at h
      rw [eqDD_eq _ _ h.1, eqDL_eq _ _ h.2]
end
mutual
theorem eqDD_self : ∀ (a : D), eqDD a a = true
  | .non => by unfold eqDD; rfl
  | .bl x => by unfold eqDD; simp
  | .int x => by unfold eqDD; simp
  | .str x => by unfold eqDD; simp
  | .ty x => by unfold eqDD; simp
  | .tup x => by unfold eqDD; exact eqDL_self x
  | .lst x => by unfold eqDD; exact eqDL_self x
  | .scr x => by unfold eqDD; exact eqDL_self x
  | .dct k x => by unfold eqDD; simp [eqDL_self x]
  | .ref x => by unfold eqDD; simp
theorem eqDL_self : ∀ (a : List D), eqDL a a = true
  | [] => by unfold eqDL; rfl
  | x :: r => by unfold eqDL; simp [eqDD_self x, eqDL_self r]
end
/-- the sequence is as it was -/
def chkQ (d : D) (xs : List D) : Hc → Bool := fun h' => match seqD h' d with
  | some ys => eqDL ys xs
  | none => false
theorem chkQ_spec {d : D} {xs : List D} {h' : Hc} (e : chkQ d xs h' = true) : seqD h' d = some xs := by
  unfold chkQ at e
  split at e
  · rename_i ys q
    rw [q, eqDL_eq _ _ e]
  · cases e
theorem chkQ_of {d : D} {xs : List D} {h' : Hc} (e : seqD h' d = some xs) : chkQ d xs h' = true := by
  unfold chkQ
  rw [e]
  exact eqDL_self xs
/-- a sequence -/
def iSeq (m : SE) : SI := fun ds h => (m ds h).bd fun d h1 => match seqD h1 d with
  | some xs => .ok ⟨xs, chkQ d xs⟩ h1
  | none => .bad
theorem itOk_list {xs : List D} {a : Addr} (r : Rel K ω h) (x : RelD K ω d (.ref a)) (hs : ∀ h', seqD h' d = some xs → rdlD h' d = some xs) : ItOk K ω ⟨xs, chkQ d xs⟩ (Itl K a) := fun i ω' h' e r' hk => by
  replace hk : seqD h' d = some xs := chkQ_spec (show chkQ d xs h' = true from hk)
  obtain ⟨p, vs, e1, e2, e3⟩ := rdlD_rel r' (hs h' hk) (mono r e _ _ x)
  cases e1
  refine ⟨fun d hd => ?_, fun hn => ⟨vs, e2, ?_⟩⟩
  · obtain ⟨v, e4, e5⟩ := e3.get hd
    refine ⟨⟨vs, v, e2, e4⟩, fun y H' ⟨e6, e7⟩ => ⟨ω', e6.symm, Ext.refl _, r', ?_⟩⟩
    have := e7 vs e2
    rw [e4] at this
    cases this
    exact e5
  · rw [← e3.len]; exact List.getElem?_eq_none_iff.mp hn
theorem itOk_tup {xs : List D} {a : Addr} (r : Rel K ω h) (x : RelD K ω (.tup xs) (.ref a)) : ItOk K ω ⟨xs, chkQ (.tup xs) xs⟩ (Itt K a) := fun i ω' h' e r' hk => by
  replace hk : seqD h' (.tup xs) = some xs := chkQ_spec (show chkQ (.tup xs) xs h' = true from hk)
  obtain ⟨p, vs, e1, e2, e3⟩ := rd_tup (mono r e _ _ x)
  cases e1
  refine ⟨fun d hd => ?_, fun hn => ⟨vs, e2, ?_⟩⟩
  · obtain ⟨v, e4, e5⟩ := e3.get hd
    refine ⟨⟨vs, v, e2, e4⟩, fun y H' ⟨e6, e7⟩ => ⟨ω', e6.symm, Ext.refl _, r', ?_⟩⟩
    have := e7 vs e2
    rw [e4] at this
    cases this
    exact e5
  · rw [← e3.len]; exact List.getElem?_eq_none_iff.mp hn
def isTup : D → Bool
  | .tup _ => true
  | _ => false
theorem rdl_of_seq {xs : List D} (hn : isTup d = false) (e : seqD h d = some xs) : rdlD h d = some xs := by
  cases d <;> simp [isTup] at hn <;> first | exact e | (simp [seqD] at e)
theorem di_seq {tg : Expr} (he : DE X W e m) : DI X W tg e (iSeq m) := di_of (pi_or (pi_list he) (pi_tup he)) fun σ H R ⟨ω, h, ds, e1, r, s, p⟩ => by
  subst e1
  have p' : Post X.K X.mg W σ ω (ItOk X.K) R ((m ds h).bd fun d h1 => match seqD h1 d with
    | some xs => .ok ⟨xs, chkQ d xs⟩ h1
    | none => .bad) := p
  cases q : m ds h with
  | ok d h1 =>
    by_cases ht : isTup d = true
    · refine .inr ⟨ω, h, ds, rfl, r, s, ?_⟩
      rw [q]
      intro v ω1 e1 r1 d1
      rw [q] at p'
      cases d <;> simp [isTup] at ht
      rename_i xs
      obtain ⟨a, vs, rfl, e4, e5⟩ := rd_tup d1
      exact ⟨a, rfl, ⟨vs, e4⟩, (show Post X.K X.mg W σ ω (ItOk X.K) R (.ok ⟨xs, chkQ (.tup xs) xs⟩ h1) from p') _ ω1 e1 r1 (itOk_tup r1 d1)⟩
    · have ht' : isTup d = false := by simpa using ht
      refine .inl ⟨ω, h, ds, rfl, r, s, ?_⟩
      rw [q]
      intro v ω1 e1 r1 d1
      rw [q] at p'
      simp only [Mp.R.bd_ok] at p'
      split at p'
      · rename_i xs q2
        obtain ⟨a, vs, rfl, e4, e5⟩ := rdlD_rel r1 (rdl_of_seq ht' q2) d1
        exact ⟨a, rfl, ⟨vs, e4⟩, p' _ ω1 e1 r1 (itOk_list r1 d1 fun h' z => rdl_of_seq ht' z)⟩
      · exact False.elim p'
  | ex x fs vs h1 =>
    refine .inl ⟨ω, h, ds, rfl, r, s, ?_⟩
    rw [q] at p' ⊢; exact p'
  | bad => rw [q] at p'; exact False.elim p'
/-- range -/
def upFrom (lo : Int) (n : Nat) : List D := (List.range n).map fun (i : Nat) => D.int (lo + (i : Int))
def iRg1 (as : SA) : SI := fun ds h => (as ds h).bd fun xs h1 => match xs with
  | [.int j] => if -(2 ^ 62) ≤ j ∧ j < 2 ^ 62 then .ok ⟨upFrom 0 j.toNat, fun _ => true⟩ h1 else .bad
  | _ => .bad
def iRg2 (as : SA) : SI := fun ds h => (as ds h).bd fun xs h1 => match xs with
  | [.int i, .int j] => if -(2 ^ 62) ≤ i ∧ i < 2 ^ 62 ∧ -(2 ^ 62) ≤ j ∧ j < 2 ^ 62 then .ok ⟨upFrom i (j - i).toNat, fun _ => true⟩ h1 else .bad
  | _ => .bad
theorem itOk_rng {lo : Int} {n : Nat} : ItOk K ω ⟨upFrom lo n, fun _ => true⟩ (Itr lo n) := fun i ω' h' e r' hk => by
  unfold upFrom
  refine ⟨fun d hd => ?_, fun hn => ?_⟩
  · by_cases hi : i < n
    · have : d = .int (lo + (i : Int)) := by
        simp [List.getElem?_map, List.getElem?_range hi] at hd
        exact hd.symm
      subst this
      refine ⟨hi, fun y H' ⟨e6, e7⟩ => ⟨ω', e6.symm, Ext.refl _, r', ?_⟩⟩
      rw [e7]; exact int_rd
    · rw [List.getElem?_map, List.getElem?_eq_none (by simpa using Nat.not_lt.mp hi)] at hd; cases hd
  · simp only [List.getElem?_map, Option.map_eq_none_iff, List.getElem?_eq_none_iff, List.length_range] at hn
    exact hn
theorem di_rg1 {tg : Expr} (h : PI X tg e (iRng1 (tA X W as))) : DI X W tg e (iRg1 as) := di_of h fun σ H R ⟨ω, h, ds, e1, r, s, p⟩ => by
  subst e1
  refine ⟨ω, h, ds, rfl, r, s, Post.bd (show Post X.K X.mg W σ ω _ R ((as ds h).bd _) from p) fun xs h1 vs ω1 e1 r1 d1 p1 => ?_⟩
  split at p1
  · rename_i j
    obtain ⟨hc, p1⟩ := p1.if_
    obtain ⟨v, ws, rfl, e2, e3⟩ := d1.inv
    rw [e3.inv0, rd_int e2]
    exact ⟨j, rfl, hc.1, hc.2, p1 _ ω1 (Ext.refl _) r1 itOk_rng⟩
  · exact False.elim p1
theorem di_rg2 {tg : Expr} (h : PI X tg e (iRng2 (tA X W as))) : DI X W tg e (iRg2 as) := di_of h fun σ H R ⟨ω, h, ds, e1, r, s, p⟩ => by
  subst e1
  refine ⟨ω, h, ds, rfl, r, s, Post.bd (show Post X.K X.mg W σ ω _ R ((as ds h).bd _) from p) fun xs h1 vs ω1 e1 r1 d1 p1 => ?_⟩
  split at p1
  · rename_i i j
    obtain ⟨hc, p1⟩ := p1.if_
    obtain ⟨v, ws, rfl, e2, e3⟩ := d1.inv
    obtain ⟨v', ws', rfl, e4, e5⟩ := e3.inv
    rw [e5.inv0, rd_int e2, rd_int e4]
    exact ⟨i, j, rfl, hc, p1 _ ω1 (Ext.refl _) r1 itOk_rng⟩
  · exact False.elim p1
end
end Mp
/-! LayG: truth, defs as they stand behind the top, the end. -/
namespace Mp
open PySem PySem.Spec PyProof.Rows L2
section
variable {X : Cx} {W : WX} {K : PySem.W.Frag} {mg : Str → Option Value} {ω ω' : Wo} {h h' : Hc} {d : D} {v : V} {e a b : Expr} {es : List Expr} {m ma mb : SE} {as : SA} {pos p : Pos} {x : Str}
/-! ### truth -/
def truD (h : Hc) : D → Option Bool
  | .non => some false
  | .bl b => some b
  | .int i => some (i != 0)
  | .str z => if z.length ≤ lim then some ((z.length : Int) != 0) else none
  | d => match seqD h d with
    | some xs => some (!xs.isEmpty)
    | none => match dctD h d with
      | some (ks, _) => some (!ks.isEmpty)
      | none => none
theorem emp_len {α β : Type} : ∀ {xs : List α} {ys : List β}, xs.length = ys.length → xs.isEmpty = ys.isEmpty
  | [], [], _ => rfl
  | [], _ :: _, e => by simp at e
  | _ :: _, [], e => by simp at e
  | _ :: _, _ :: _, _ => rfl
theorem truD_rel {k : Bool} (r : Rel K ω h) (e : truD h d = some k) (x : RelD K ω d v) : TruV K v ω.H k := by
  have go : ∀ d, RelD K ω d v → (match seqD h d with
    | some xs => some (!xs.isEmpty)
    | none => match dctD h d with
      | some (ks, _) => some (!ks.isEmpty)
      | none => none) = some k → TruV K v ω.H k := by
    intro d x e
    split at e
    · rename_i xs q
      cases e
      obtain ⟨a, us, rfl, e4, e5⟩ := seqD_rel r q x
      rcases e4 with e4 | e4
      · exact .inr (.inl ⟨us, e4, by rw [emp_len e5.len]⟩)
      · exact .inl ⟨us, e4, by rw [emp_len e5.len]⟩
    · split at e
      · rename_i ks ds q
        cases e
        obtain ⟨a, us, rfl, e5, e6, e7⟩ := dctD_rel r q x
        exact .inr (.inr ⟨_, e5, by rw [emp_len (zip_len e6)]⟩)
      · cases e
  cases d with
  | non => simp only [truD, Option.some.injEq] at e; rw [rd_non x]; exact (show k = false from e.symm)
  | bl b => simp only [truD, Option.some.injEq] at e; rw [rd_bl x]; exact (show k = b from e.symm)
  | int i => simp only [truD, Option.some.injEq] at e; rw [rd_int x]; exact (show k = (i != 0) from e.symm)
  | str z =>
    simp only [truD] at e
    by_cases hl : z.length ≤ lim
    · rw [if_pos hl] at e; cases e; rw [rd_str x]; exact ⟨lim_le hl, rfl⟩
    · rw [if_neg hl] at e; cases e
  | tup xs => exact go _ x e
  | lst xs => exact go _ x e
  | scr xs => exact go _ x e
  | dct ks xs => exact go _ x e
  | ref i => exact go _ x e
  | ty t => exact go _ x e
def bTru (m : SE) : SB := fun ds h => (m ds h).bd fun x h1 => match truD h1 x with
  | some b => .ok b h1
  | none => .bad
theorem dt_tru (ha : DE X W e m) (he : ∀ whole, isTrue e X.env whole = (do let v ← whole; standAt e.pos; holding [v] (truthy v)) := by intro _; rfl) : DT X W e (bTru m) :=
  dt_of (pt_truth ha he) fun σ H Q ⟨ω, h, ds, e1, r, s, p⟩ => by
    subst e1
    refine ⟨ω, h, ds, rfl, r, s, Post.bd (show Post X.K X.mg W σ ω _ Q ((m ds h).bd _) from p) fun x h1 v ω1 e1 r1 d1 p1 => ?_⟩
    split at p1
    · rename_i b q
      exact ⟨b, truD_rel r1 q d1, p1 b ω1 (Ext.refl _) r1 rfl⟩
    · exact False.elim p1
end
/-! ### a def of the text -/
def DefAt (K : PySem.W.Frag) (mg : Str → Option Value) (x qual : Str) (st : Stmt) (ps : List Str) : Prop := ∃ (f : Addr) (fd : FuncData), mg x = some (.ref f) ∧ Fun K x qual st f fd ∧ Binds K fd ps []
/-- a def that is as its data function says -/
def Good (P : Program) (w : World) (K : PySem.W.Frag) (mg : Str → Option Value) (base : Heap) (x : Str) (k : Nat) (ps : List Str) (m : Fn) : Prop :=
  ∃ (f : Addr) (fd : FuncData), mg x = some (.ref f) ∧ PySem.W.keepIn K (.ref f) = true ∧ Binds K fd ps [] ∧ (∃ oc od sl, K.lookup f = some ⟨oc, od, .func fd, sl⟩) ∧ FnOk P w K mg base (L2.CX P w) k f fd ps (spD K mg ps.length m)
section
variable {P : Program} {w : World} {K : PySem.W.Frag} {mg : Str → Option Value} {base : Heap} {x qual : Str} {st : Stmt} {ps N : List Str} {k j : Nat} {m : SS}
theorem fun_lk {f : Addr} {fd : FuncData} (F : Fun K x qual st f fd) : ∃ oc od sl, K.lookup f = some ⟨oc, od, .func fd, sl⟩ := by
  obtain ⟨oc, od, kV, doc, pm, an, cdv, ct, osl, rfl, lk, hcd⟩ := F.ex
  exact ⟨oc, od, osl, lk⟩
abbrev DefX (P : Program) (w : World) (K : PySem.W.Frag) (mg : Str → Option Value) (base : Heap) (N : List Str) (qual : Str) (st : Stmt) (f : Addr) (cdv : Value) (A : Around) (outer : List Env) (s : Shared) (H : Hp) (E : XK) : Cx := cxOf (L2.CX P w) P w K mg base N qual (defScope st) f cdv A outer s H E
theorem DefAt.good (D : DefAt K mg x qual st ps) (S : FnScope N ps (defScope st))
    (hb : ∀ (f : Addr) (cdv : Value) (A : Around) (outer : List Env) (s : Shared) (H : Hp) (E : XK), Room k (DefX P w K mg base N qual st f cdv A outer s H E).A → DSs (DefX P w K mg base N qual st f cdv A outer s H E) (WF E) (defBody st) m) :
    Good P w K mg base x (k + 1) ps (runB N.length m) := by
  obtain ⟨f, fd, g, F, b⟩ := D
  exact ⟨f, fd, g, F.kp, b, fun_lk F, fn_ok F S fun cdv A outer s H E hr => hb f cdv A outer s H E hr⟩
/-- nothing is claimed -/
theorem DefAt.none (D : DefAt K mg x qual st ps) (S : FnScope N ps (defScope st)) : Good P w K mg base x 1 ps (fun _ _ => .bad) := by
  obtain ⟨f, fd, g, F, b⟩ := D
  refine ⟨f, fd, g, F.kp, b, fun_lk F, (fn_ok (k := 0) (m := sBad) F S fun cdv A outer s H E hr => ⟨fun pins s σ H E I ⟨ω, h, ds, e1, r, s', p⟩ => False.elim p⟩).imp fun vs H Q E z => ?_⟩
  obtain ⟨_, ω, h, ds, _, _, _, p⟩ := z
  exact False.elim p
theorem Good.mono {m : Fn} (G : Good P w K mg base x j ps m) (h : j ≤ k) : Good P w K mg base x k ps m := by
  obtain ⟨f, fd, g, kp, b, lk, F⟩ := G
  exact ⟨f, fd, g, kp, b, lk, F.mono h⟩
end
section
variable {X : Cx} {W : WX} {e : Expr} {es : List Expr} {as : SA} {m : Fn} {pos p : Pos} {x : Str} {ps : List Str} {k : Nat}
theorem dc (tk : Takes X W) (G : Good X.prog X.w X.K X.mg X.base x k ps m) (hr : Room k X.A) (hg : Gl X x) (hn : (e :: es).length = ps.length) (hl : ∀ ds h xs h', as ds h = .ok xs h' → xs.length = (e :: es).length) (ha : DA X W (e :: es) as)
    (hdb : (x == ("__debug__" : Str)) = false := by decide) (he : starEach (e :: es) X.env = (false, eval e X.env) :: starEach es X.env := by rfl) (hpl : (backTo pos (starEach es X.env)).any (·.1) = false := by rfl) : DE X W (.Call (.Name x p) (e :: es) [] pos) (eCall m as) := by
  obtain ⟨f, fd, g, kp, b, _, F⟩ := G
  exact de_call tk F hr hg g kp b hn hl ha hdb he hpl
/-- a value of the top: d stands for it in every world -/
def TopVal (K : PySem.W.Frag) (mg : Str → Option Value) (x : Str) (d : D) : Prop := ∃ (u : Value) (v : V), mg x = some u ∧ RelV v u ∧ ∀ ω : Wo, RelD K ω d v
theorem de_top {d : D} (hg : Gl X x) (T : TopVal X.K X.mg x d) (hd : (x == ("__debug__" : Str)) = false := by decide) : DE X W (.Name x pos) (eC d) := by
  obtain ⟨u, v, h1, h2, h3⟩ := T
  exact de_c (pe_glob hg h1 h2 hd) h3
/-- a built-in type as a value -/
theorem de_bty {n : String} (hg : Gl X x) (hm : X.mg x = none) (hv : bootBuiltins x = some (.type n)) (hn : x ≠ "__name__" := by decide) (hd : (x == ("__debug__" : Str)) = false := by decide) : DE X W (.Name x pos) (eC (.ty n)) :=
  de_c (v := .ty n) (pe_bltn hg hm hv (show RelV (.ty n) (.type n) from rfl) hn hd) fun _ => ty_rd
end
section
variable {X : Cx} {W : WX} {K : PySem.W.Frag} {mg : Str → Option Value} {ω ω' : Wo} {h h' : Hc} {d : D} {v : V} {e a b : Expr} {es : List Expr} {m ma mb : SE} {as : SA} {pos : Pos}
theorem hu_of64 {k : Nat} (hr : Room k X.A) : X.A.units + 64 < cLine := by have := hr.un; omega
/-! ### targets, comprehensions, as they are printed -/
theorem dgsC {p : Pt} {ps : List Pt} (h1 : DG X e p) (h2 : DGs X es ps) (h : PG X e (tP X.K p) → PGs X es (tPs X.K ps) → PGs X (e :: es) (gCons (tP X.K p) (tPs X.K ps))) : DGs X (e :: es) (p :: ps) := dgs_cons h1 h2 (h h1 h2)
theorem dgT {k : Nat} {ps : List Pt} (hc : X.calm = true) (h : DGs X es ps) (h1 : PGs X es (tPs X.K ps) → PG X (.Tuple es k pos) (gTup X.K ps.length (tPs X.K ps))) (h2 : PGs X es (tPs X.K ps) → PG X (.Tuple es k pos) (gLst X.K ps.length (tPs X.K ps))) : DG X (.Tuple es k pos) (.t ps) := dg_t hc h (h1 h) (h2 h)
theorem dts_nil : PTs X [] (tT X W (fun _ h => .ok true h)) := ⟨fun pins s σ H Q I q => pts_nil.run pins s σ H Q I (by
  obtain ⟨ω, h, ds, e1, r, s, p⟩ := q
  subst e1
  exact p _ ω (Ext.refl _) r rfl)⟩
theorem dts_one {t : SB} (h : DT X W e t) : PTs X [e] (tT X W t) := pts_one h
theorem ds_setLc {i : Nat} {st : Stmt} {mi : SI} {p : Pt} {own : List Nat} {c : SB} (ho : ∀ i ∈ p.slots, i ∈ own) (h : PS X st (tAsg (tLc (tI X W mi) (tP X.K p) (tT X W0 c) (tE X W0 m) own) (gName i))) : DS X W st (sSet i (eLc mi p own c m)) := ds_of h fun E σ H ⟨ω, h, ds, e1, r, s, q⟩ => by
  subst e1
  refine lcW (W := W) (fin := fun xs h => .ok (.lst xs) h) ho lc_fz σ ω.H _ ⟨ω, h, ds, rfl, r, s, ?_⟩
  exact PostO.bd r s q fun d h1 v ω' e r1 rd s1 p1 => p1 _ ω' (Ext.refl _) r1 (s1.set i rd)
theorem ds_setLcC {i : Nat} {st : Stmt} {mi : SI} {p : Pt} {own : List Nat} {c : SB} (ho : ∀ i ∈ p.slots, i ∈ own) (h : PS X st (tAsg (tLc (tI X W mi) (tP X.K p) (tT X W0 c) (tE X W0 m) own) (gName i))) : DS X W st (sSet i (eLcC mi p own c m)) := ds_of h fun E σ H ⟨ω, h, ds, e1, r, s, q⟩ => by
  subst e1
  refine lcW (W := W) (fin := fun xs h => .ok (.ref h.length) (h ++ [.lst xs])) ho lc_cell σ ω.H _ ⟨ω, h, ds, rfl, r, s, ?_⟩
  exact PostO.bd r s q fun d h1 v ω' e r1 rd s1 p1 => p1 _ ω' (Ext.refl _) r1 (s1.set i rd)
/-- x, y = a, b -/
def sPar (i j : Nat) (as : SA) : SS := fun ds h => sBd (as ds h) ds fun xs h1 => match xs with
  | [x, y] => .nx ((ds.set i (some x)).set j (some y)) h1
  | _ => .bad
abbrev addI := i0F fun i j => .int (i + j)
theorem opd_addI : OpD X (rI0 fun i j => .int (i + j)) addI := opd_i0 fun _ _ _ => int_rd
abbrev mulI := iF (fun i j => decide (-(2 ^ 64) < i ∧ i < 2 ^ 64) || decide (-(2 ^ 64) < j ∧ j < 2 ^ 64)) fun i j => .int (i * j)
end
/-! ### the end -/
/-- the script: a list that is locked or written, or one of the caller's own -/
def scD (b : Bool) (xs : List D) : D := if b = true then .scr xs else .lst xs
def spTrue (K : PySem.W.Frag) : Sp := fun vs H Q _ => ∃ (a : Addr) (ns : List Int), vs = [.ref a] ∧ TabsK K H ∧ SqL K H a (ns.map V.int) ∧ ns.length ≤ 63 ∧ ∀ H', Q (.bl true) H'
theorem scr_rel {K : PySem.W.Frag} {H : Hp} {a : Addr} {ns : List Int} (h : SqL K H a (ns.map V.int)) : ∃ b, RelD K ⟨fun _ => False, fun _ => 0, 0, H⟩ (scD b (ns.map D.int)) (.ref a) := by
  rcases h with (h | ⟨o, h⟩) | h
  · refine ⟨false, ?_⟩
    show RelD K _ (.lst (ns.map D.int)) (.ref a)
    unfold RelD
    exact ⟨a, _, rfl, ⟨h, fun z => z⟩, RelL.of_ints ns⟩
  · refine ⟨true, ?_⟩
    show RelD K _ (.scr (ns.map D.int)) (.ref a)
    unfold RelD
    exact ⟨a, _, rfl, .inl ⟨o, h⟩, RelL.of_ints ns⟩
  · refine ⟨true, ?_⟩
    show RelD K _ (.scr (ns.map D.int)) (.ref a)
    unfold RelD
    exact ⟨a, _, rfl, .inr h, RelL.of_ints ns⟩
/-- the law's promise from its data function -/
theorem law_sp {K : PySem.W.Frag} {mg : Str → Option Value} {m : Fn} (hm : ∀ (b : Bool) (ns : List Int), ns.length ≤ 63 → ∃ h, m [scD b (ns.map D.int)] [] = .ok (.bl true) h) {vs : List V} {H : Hp} {Q : VK} {E : XK} (h : spTrue K vs H Q E) : spD K mg 1 m vs H Q E := by
  obtain ⟨a, ns, rfl, hO, hS, hl, q⟩ := h
  obtain ⟨b, hb⟩ := scr_rel hS
  obtain ⟨h', e⟩ := hm b ns hl
  refine ⟨rfl, ⟨fun _ => False, fun _ => 0, 0, H⟩, [], [scD b (ns.map D.int)], rfl, ⟨rfl, fun i j hi => absurd hi (Nat.not_lt_zero _), fun i hi => absurd hi (Nat.not_lt_zero _), fun q z => False.elim z, fun i c hi => by simp at hi, hO⟩, RelL.cons hb RelL.nil, ?_⟩
  rw [e]
  intro v ω' _ _ rv
  rw [rd_bl rv]
  exact q _
/-- the law's own code object and its table -/
structure LawTab (K : PySem.W.Frag) (mg : Str → Option Value) (base : Heap) (c P : Addr) : Prop where
  tb : LamX.TabB base mg c P
  ht : PySem.W.tabIn K "law" = some (c, P)
theorem walk_law {l : PySem.W.OpenLaw} {k : Nat} {q : Program} {loose : List Str} {XP : (Str → Option Value) → Heap → Prop} {YP : World → Heap → Prop} {d : DefRec} {K : Params → PySem.W.Frag} (hn : l.most = some 63) (hdf : d.params.defaults = []) (hr : Room k callerA)
    (hY : ∀ (w : World) (h : Heap), YP w h → (K w.params).In h)
    (rt : ∃ rd, (recsOf q).find? (fun e => e.name == ("law" : Str)) = some rd)
    (F : ∀ (w : World) (mg : Str → Option Value) (fa : Addr) (h : Heap), (K w.params).In h → h.Ns mainGlobals mg → mg d.name = some (.ref fa) →
      ∃ (fd : FuncData) (c P : Addr), PySem.W.tabIn (K w.params) "law" = some (c, P) ∧ (K w.params).lookup P = none ∧ (∀ (s : Shared) (u : Value), BindsTo s fd ⟨[u], []⟩ [("script", u)]) ∧
        ∀ base : Heap, (K w.params).In base → base.Ns mainGlobals mg → LawTab (K w.params) mg base c P → FnOk l.prog w (K w.params) mg base (L2.CX l.prog w) k fa fd ["script"] (spTrue (K w.params))) :
    PySem.W.WalkO q loose XP YP l.row.toRowW d [] (fun f vs => PySem.call f vs) := by
  refine Att.attach_callB hn hdf fun w s₀ s₁ mg mb fa o pm cd doc a vs ns G Y ho hd hcd hmg hobj hints hlen hbits hg => ?_
  have KX := hY w _ Y
  obtain ⟨fd, c, P, ht, nT, hb, hF⟩ := F w mg fa _ KX G.T.g hmg
  obtain ⟨rd, hrd⟩ := rt
  obtain ⟨hc, hP⟩ := PySem.W.tab_of G.T KX hrd ht
  refine LamX.law_callTs (cs := [(c, P)]) (sp := spTrue (K w.params)) KX G.T.g G.T.b G.T.builtins G.T.nolimit hg (fun p hp => ?_) (fun p hp => ?_) (fun p hp => ?_) G.T.bmain hobj hints (Nat.le_trans hlen (by decide)) hr
    (fun base hk hns tb => hF base hk hns ⟨tb (c, P) (by simp), ht⟩) hb (fun H hH hS => ⟨a, ns, rfl, ?_, hS, hlen, fun _ => rfl⟩) fun H e s' z => ?_
  · have e : p = (c, P) := by simpa using hp
    rw [e]; exact hP
  · have e : p = (c, P) := by simpa using hp
    rw [e]; exact nT
  · have e : p = (c, P) := by simpa using hp
    rw [e]; exact hc
  · have e : tabT (K w.params) = [(P, ("law.<locals>.<lambda>" : Str))] := by unfold tabT; rw [ht]
    unfold TabsK
    rw [e]
    intro p hp
    have e2 : p = (P, ("law.<locals>.<lambda>" : Str)) := by simpa using hp
    rw [e2]
    exact LamX.TabS.nil (hH (c, P) (by simp))
  · obtain ⟨_, _, _, _, _, _, _, _, _, _, _, _, e⟩ := z
    exact e
end Mp
/-! LayH: min, max, lcm; what is walked with its number. -/
namespace Mp
open PySem PySem.Spec PyProof.Rows L2
/-! ### enumerate of a tuple -/
theorem enumB1 {v : Value} {ob : Obj} {Z : Heap → Prop} (B : Begins v ob Z) :
    Meets (Builtin.«enumerate.__new__» ⟨[.type "enumerate", v], []⟩) (fun _ R z => Z z.heap ∧
      R (.ok (.ret (.ref (z.heap.push ob).objs.size))) { z with heap := (z.heap.push ob).push { cls := .type "enumerate", data := .fields #[.none, .bool false, .ref z.heap.objs.size, rawInt 0, .none, .none] } }) :=
  .of_wp fun prog w A R z q => by
    obtain ⟨hp, gg, dd, tk, oo⟩ := z
    obtain ⟨q1, q2⟩ := q
    have hsub := sub_enumerate
    have go : ∀ {A' : Around} {E' : Value → Shared → Prop} {Q' : Value → Shared → Prop}, Q' (.ref hp.objs.size) ⟨hp.push ob, gg, dd, tk, oo⟩ → wpAny (model prog w) A' (pyIter v) Q' E' ⟨hp, gg, dd, tk, oo⟩ :=
      fun x => B.iter prog w _ _ ⟨hp, gg, dd, tk, oo⟩ _ q1 x
    wp_walk
    refine wpAny_stack_any fun _ => wpAny_pure ?_
    split
    · rename_i c _ _ _ _ _
      cases (c == Value.type "enumerate") <;> (wp_walk using go; exact ⟨_, rfl, q2⟩)
    · wp_walk using go
      exact ⟨_, rfl, q2⟩
theorem enum_one {prog : Program} {w : World} {A : Around} {E : Value → Shared → Prop} {z : Shared} {v : Value} {ob : Obj} {Z : Heap → Prop} {Q : Value → Shared → Prop} (B : Begins v ob Z) (q1 : Z z.heap)
    (q : ∀ h2, IsEnum h2 (z.heap.objs.size + 1) z.heap.objs.size 0 .none → h2.get? z.heap.objs.size = some ob → (∀ b u, z.heap.get? b = some u → h2.get? b = some u) → Q (.ref (z.heap.objs.size + 1)) { z with heap := h2 }) :
    wpAny (model prog w) A (call (.type "enumerate") [v]) Q E z := by
  refine callType_new F.called_enumerate (by decide) (F.typeCall_enumerate_1 _) (F.newCall_enumerate_1 _) (fun b => F.args_object_init_2 b _) F.entry_enumerate_new (enumB1 B) ⟨q1, ?_⟩
  have sz : (z.heap.push ob).objs.size = z.heap.objs.size + 1 := Heap.size_push ..
  show _ ∧ _
  rw [sz]
  have he : IsEnum ((z.heap.push ob).push { cls := .type "enumerate", data := .fields #[.none, .bool false, .ref z.heap.objs.size, rawInt 0, .none, .none] }) (z.heap.objs.size + 1) z.heap.objs.size 0 .none := by
    have e := Heap.get?_push_size (z.heap.push ob) (o := { cls := .type "enumerate", data := .fields #[.none, .bool false, .ref z.heap.objs.size, rawInt 0, .none, .none] }) rfl
    rw [sz] at e; exact e
  exact ⟨⟨_, he, rfl⟩, q _ he (Heap.get?_push_of_some _ (Heap.get?_push_size _ B.free)) fun b u x => Heap.get?_push_of_some _ (Heap.get?_push_of_some _ x)⟩
/-- the tuple at a, each item in a new pair -/
def ItE (K : PySem.W.Frag) (a : Addr) : It where
  go i H := ∃ (xs : List V) (x : V), SqT K H a xs ∧ xs[i]? = some x
  yld i H v H' := ∃ T x, v = .ref T ∧ H T = none ∧ H' = upd H T (.tup [.int (i : Nat), x]) ∧ ∀ xs, SqT K H a xs → xs[i]? = some x
  stop i H := ∃ xs : List V, SqT K H a xs ∧ xs.length ≤ i
theorem turn_enT {P : Program} {w : World} {K : PySem.W.Frag} {elts : List Expr} {kk : Nat} {tpos : Pos} (a e it : Addr) (hai : a ≠ it) (hae : e ≠ a) :
    Turn P w K (.Tuple elts kk tpos) (ItE K a) [e, it] e (fun i g => (∃ old, IsEnum g e it ((i : Nat) : Int) old) ∧ g.IsTupleIter it a i ∧ e ≠ it) where
  mem := by simp
  obj := fun i g st b hb => by
    obtain ⟨⟨old, he⟩, ⟨u, hu, hc, hd⟩, _⟩ := st
    have z : b = e ∨ b = it := by simpa using hb
    rcases z with rfl | rfl
    · exact ⟨_, he, fun v q => nomatch q⟩
    · exact ⟨u, hu, fun v q => by rw [hd] at q; cases q⟩
  keep := fun i g g' st k => by
    obtain ⟨⟨old, he⟩, hi, hne⟩ := st
    exact ⟨⟨old, k e (by simp) _ he⟩, hi.at fun u q => k it (by simp) u q, hne⟩
  item := by
    intro X hP hw hK hc i pins s σ H E I hf st hg
    subst hP hw hK
    obtain ⟨⟨old, he⟩, hit, hne⟩ := st
    obtain ⟨xs, x, hq, hx⟩ := hg
    obtain ⟨its, rv, p, _⟩ := I.tuple hq
    obtain ⟨u, hu, ru⟩ := rv.get hx
    have lte : e < s.heap.objs.size := Heap.lt_size he
    have lti : it < s.heap.objs.size := by obtain ⟨_, q, _⟩ := hit; exact Heap.lt_size q
    have hlt : i < its.toArray.size := by
      have := (List.getElem?_eq_some_iff.mp hu).1
      simpa using this
    refine wpAny_pyNext_enum_itemD (Draws.tuple (prog := X.prog) (w := X.w) (A := X.A.in1) (show X.A.in1.handled = none from I.ok.hd hc) it a hai its.toArray) he ⟨hit, p⟩ hlt hne (by simp [hne, hae]) fun y h1 tk py ho st1 hT hsz hk => ?_
    have ey : y = u := by
      have : its.toArray[i]? = some u := by simpa using hu
      rw [this] at py; exact (Option.some.inj py).symm
    subst ey
    refine ⟨_, rfl, wpAny_letOwnedTupleGo_enum (s := { s with heap := h1, toks := tk + 1 }) ho fun h2 he2 sb => ?_⟩
    have hT2 := (sb.2 s.heap.objs.size (Nat.ne_of_gt lte)).trans hT
    have new : ObjOk X.prog X.w (upd H s.heap.objs.size (.tup [.int (i : Nat), x])) h2 s.heap.objs.size (.tup [.int (i : Nat), x]) := by
      refine ⟨by show 2 ≤ sizeLine; decide, [.int i tk, y], .cons ⟨_, rfl⟩ (.cons ru .nil), ?_⟩
      exact ⟨_, hT2, rfl, _, rfl⟩
    have I1 : Inv X pins σ (upd H s.heap.objs.size (.tup [.int (i : Nat), x])) { s with heap := h2, toks := tk + 1 } :=
      I.turnedNew (ch := [e, it]) (fun b ob hb q => by
        have n1 : b ≠ e := fun z => hb (by simp [z])
        have n2 : b ≠ it := fun z => hb (by simp [z])
        exact (sb.2 b n1).trans (hk b ob n1 n2 q)) hf (Nat.le_refl _) new
    refine ⟨.ref s.heap.objs.size, _, I1, rfl, ⟨_, x, rfl, I.hok.fresh (Nat.le_refl _), rfl, fun ys hy => by rw [I.tuple_inj hy hq]; exact hx⟩, ⟨⟨y, ?_⟩, st1.1.at fun u q => (sb.2 it (Ne.symm hne)).trans q, hne⟩, fun b hb => ?_⟩
    · have z : ((i + 1 : Nat) : Int) = (i : Int) + 1 := by omega
      rw [z]; exact he2
    · have z : b = e ∨ b = it := by simpa using hb
      have lb : b < s.heap.objs.size := by
        rcases z with rfl | rfl
        · exact lte
        · exact lti
      rw [upd_ne (Nat.ne_of_lt lb)]
      exact (hf b hb).1
  done := by
    intro X hP hw hK hc i pins s σ H E I hf st hg
    subst hP hw hK
    obtain ⟨⟨old, he⟩, hit, hne⟩ := st
    obtain ⟨xs, hq, hx⟩ := hg
    obtain ⟨its, rv, p, _⟩ := I.tuple hq
    obtain ⟨f0, f1, f2, f3, f4, f5⟩ := hf it (by simp)
    have hl := rv.length
    have D : Draws X.prog X.w X.A.in1 it [it, a] i (fun _ _ => True) (fun j g => j = i ∧ g.IsTupleIter it a i ∧ g.IsTuple a its.toArray) := {
      live := fun j g st2 => by
        obtain ⟨_, ⟨u, hu, _⟩, _⟩ := st2
        exact ⟨u, hu⟩
      frame := fun j g g' st2 k => ⟨st2.1, st2.2.1.at fun u q => k it (by simp) u q, st2.2.2.at fun u q => k a (by simp) u q⟩
      item := fun j s2 Q2 E2 hj st2 hQ2 => absurd st2.1 (Nat.ne_of_lt hj)
      done := fun s2 Q2 E2 st2 hE2 => wpAny_nextOf_tuple_end (show X.A.in1.handled = none from I.ok.hd hc) st2.2.1 st2.2.2 (by simp; omega) hE2 }
    exact wpAny_pyNext_enum_endD D he ⟨rfl, hit, p⟩ fun h1 eb => ⟨rfl, I.turned (t' := s.toks) (fun b u hb q => eb b u hb q) f0 f1 f3 f4 f5⟩
  self := fun A i s Q E st q => by
    obtain ⟨⟨old, he⟩, _⟩ := st
    exact wpAny_pyIter_enum he q
/-- enumerate of a list or of a tuple -/
def iEnB (K : PySem.W.Frag) (ta : TA) : TI := fun σ H R => ta σ H fun vs H1 => ∃ a xs, vs = [.ref a] ∧ ((SqL K H1 a xs ∧ R (Ite K a) H1) ∨ (SqT K H1 a xs ∧ R (ItE K a) H1))
theorem pi_enB {X : Cx} {e : Expr} {ta : TA} {p pos tpos : Pos} {elts : List Expr} {kk : Nat} (hg : Gl X "enumerate") (hm : X.mg "enumerate" = none) (ha : PA X [e] ta) (st : starEach [e] X.env = [(false, eval e X.env)] := by rfl) :
    PI X (.Tuple elts kk tpos) (.Call (.Name "enumerate" p) [e] [] pos) (iEnB X.K ta) := by
  refine ⟨fun pins s σ H R I q => ?_⟩
  refine Call_ (ld_blt I hg hm boot_enumerate (PyProof.Rows.callWith_type1 (thn (ha.run pos pins s σ H _ I q) fun us s1 ⟨vs, H1, I1, r1, q1⟩ => ?_) st rfl))
  obtain ⟨a, xs, rfl, q1⟩ := q1
  obtain ⟨u, rfl, r⟩ := vals1 r1
  cases r
  have fresh : ∀ b ∈ [s1.heap.objs.size + 1, s1.heap.objs.size], FpOk X pins H1 b := fun b hb => by
    have hle : s1.heap.objs.size ≤ b := by
      simp only [List.mem_cons, List.not_mem_nil, or_false] at hb
      omega
    exact I1.fpOk hle (I1.hok.fresh hle)
  rcases q1 with ⟨hq, q⟩ | ⟨hq, q⟩
  · obtain ⟨its, rv, p1, _⟩ := I1.list hq
    refine call_enumerate_list p1.isList fun h2 he hit _ hk => wpAny_pyIter_enum he ?_
    exact ⟨s1.heap.objs.size + 1, [s1.heap.objs.size + 1, s1.heap.objs.size], _, _, H1, rfl, I1.kept (t' := s1.toks) hk, turn_enum a (s1.heap.objs.size + 1) s1.heap.objs.size, ⟨⟨.none, he⟩, hit, Nat.succ_ne_self _⟩, fresh, q⟩
  · obtain ⟨its, rv, p1, _⟩ := I1.tuple hq
    have lta : a < s1.heap.objs.size := by
      obtain ⟨u, hu, _⟩ := id p1
      exact Heap.lt_size hu
    have ne1 : a ≠ s1.heap.objs.size := Nat.ne_of_lt lta
    have ne2 : s1.heap.objs.size + 1 ≠ a := fun z => Nat.lt_irrefl a (Nat.lt_of_lt_of_le lta (z ▸ Nat.le_succ _))
    refine enum_one (begins_tuple a its.toArray) p1 fun h2 he ho hk => wpAny_pyIter_enum he ?_
    have hit : h2.IsTupleIter s1.heap.objs.size a 0 := ⟨_, ho, rfl, rfl⟩
    exact ⟨s1.heap.objs.size + 1, [s1.heap.objs.size + 1, s1.heap.objs.size], _, _, H1, rfl, I1.kept (t' := s1.toks) hk, turn_enT a (s1.heap.objs.size + 1) s1.heap.objs.size ne1 ne2, ⟨⟨.none, he⟩, hit, Nat.succ_ne_self _⟩, fresh, q⟩
/-- each item with its number -/
def enumD : Nat → List D → List D
  | _, [] => []
  | n, x :: r => .tup [.int n, x] :: enumD (n + 1) r
theorem enumD_get : ∀ (n : Nat) (xs : List D) (i : Nat), (enumD n xs)[i]? = (xs[i]?).map fun x => .tup [.int ((n + i : Nat) : Int), x]
  | n, [], i => by simp [enumD]
  | n, x :: r, 0 => by simp [enumD]
  | n, x :: r, i + 1 => by
    unfold enumD
    rw [List.getElem?_cons_succ, List.getElem?_cons_succ, enumD_get (n + 1) r i]
    have : n + 1 + i = n + (i + 1) := by omega
    rw [this]
def enF (xs : List D) (h : Hc) : R ItD := match xs with
  | [d] => match seqD h d with
    | some ys => .ok ⟨enumD 0 ys, chkQ d ys⟩ h
    | none => .bad
  | _ => .bad
def iEnu (as : SA) : SI := fun ds h => (as ds h).bd enF
theorem pairUp {K : PySem.W.Frag} {ω : Wo} {h : Hc} {T : Addr} {x y : D} {v w : V} (r : Rel K ω h) (hT : ω.H T = none) (rx : RelD K ω x v) (ry : RelD K ω y w) :
    ∃ ω2, ω2.H = upd ω.H T (.tup [v, w]) ∧ Ext ω ω2 ∧ Rel K ω2 h ∧ RelD K ω2 (.tup [x, y]) (.ref T) := by
  refine ⟨ω.up T (.tup [v, w]), rfl, Ext.up hT, r.up hT, ?_⟩
  unfold RelD
  exact ⟨T, _, rfl, .inl (.inl upd_same), monoL r (Ext.up hT) _ _ (.cons rx (.cons ry .nil))⟩
section
variable {K : PySem.W.Frag} {ω : Wo} {h : Hc} {d : D}
theorem itOk_enL {xs : List D} {a : Addr} (r : Rel K ω h) (x : RelD K ω d (.ref a)) (hs : ∀ h', seqD h' d = some xs → rdlD h' d = some xs) : ItOk K ω ⟨enumD 0 xs, chkQ d xs⟩ (Ite K a) := fun i ω' h' e r' hk => by
  replace hk : seqD h' d = some xs := chkQ_spec (show chkQ d xs h' = true from hk)
  obtain ⟨p, vs, e1, e2, e3⟩ := rdlD_rel r' (hs h' hk) (mono r e _ _ x)
  cases e1
  refine ⟨fun y hd => ?_, fun hn => ⟨vs, e2, ?_⟩⟩
  · rw [enumD_get] at hd
    cases q : xs[i]? with
    | none => rw [q] at hd; cases hd
    | some y0 =>
      rw [q] at hd
      simp only [Option.map_some, Option.some.injEq] at hd
      subst hd
      obtain ⟨v, e4, e5⟩ := e3.get q
      refine ⟨⟨vs, v, e2, e4⟩, fun w H' ⟨T, w0, ew, hT, eH, e7⟩ => ?_⟩
      have := e7 vs e2
      rw [e4] at this
      cases this
      obtain ⟨ω2, f1, f2, f3, f4⟩ := pairUp (x := .int ((0 + i : Nat) : Int)) r' hT (int_rd (i := ((0 + i : Nat) : Int))) e5
      subst ew
      refine ⟨ω2, ?_, f2, f3, f4⟩
      rw [eH, f1, Nat.zero_add]
  · rw [enumD_get] at hn
    rw [← e3.len]; exact List.getElem?_eq_none_iff.mp (by simpa using hn)
theorem itOk_enT {xs : List D} {a : Addr} (r : Rel K ω h) (x : RelD K ω (.tup xs) (.ref a)) : ItOk K ω ⟨enumD 0 xs, chkQ (.tup xs) xs⟩ (ItE K a) := fun i ω' h' e r' hk => by
  replace hk : seqD h' (.tup xs) = some xs := chkQ_spec (show chkQ (.tup xs) xs h' = true from hk)
  obtain ⟨p, vs, e1, e2, e3⟩ := rd_tup (mono r e _ _ x)
  cases e1
  refine ⟨fun y hd => ?_, fun hn => ⟨vs, e2, ?_⟩⟩
  · rw [enumD_get] at hd
    cases q : xs[i]? with
    | none => rw [q] at hd; cases hd
    | some y0 =>
      rw [q] at hd
      simp only [Option.map_some, Option.some.injEq] at hd
      subst hd
      obtain ⟨v, e4, e5⟩ := e3.get q
      refine ⟨⟨vs, v, e2, e4⟩, fun w H' ⟨T, w0, ew, hT, eH, e7⟩ => ?_⟩
      have := e7 vs e2
      rw [e4] at this
      cases this
      obtain ⟨ω2, f1, f2, f3, f4⟩ := pairUp (x := .int ((0 + i : Nat) : Int)) r' hT (int_rd (i := ((0 + i : Nat) : Int))) e5
      subst ew
      refine ⟨ω2, ?_, f2, f3, f4⟩
      rw [eH, f1, Nat.zero_add]
  · rw [enumD_get] at hn
    rw [← e3.len]; exact List.getElem?_eq_none_iff.mp (by simpa using hn)
end
section
variable {X : Cx} {W : WX} {e : Expr} {as : SA}
theorem di_enu {tg : Expr} (he : PI X tg e (iEnB X.K (tA X W as))) : DI X W tg e (iEnu as) := di_of he fun σ H R ⟨ω, h, ds, e1, r, s, p⟩ => by
  subst e1
  refine ⟨ω, h, ds, rfl, r, s, Post.bd (show Post X.K X.mg W σ ω _ R ((as ds h).bd _) from p) fun xs h1 vs ω1 e1 r1 d1 p1 => ?_⟩
  unfold enF at p1
  split at p1
  · rename_i d
    obtain ⟨v, ws, rfl, e2, e3⟩ := d1.inv
    rw [e3.inv0]
    split at p1
    · rename_i ys q
      by_cases ht : isTup d = true
      · cases d <;> simp [isTup] at ht
        rename_i zs
        obtain ⟨a, us, rfl, e4, e5⟩ := rd_tup e2
        simp [seqD] at q
        subst q
        exact ⟨a, us, rfl, .inr ⟨e4, p1 _ ω1 (Ext.refl _) r1 (itOk_enT r1 e2)⟩⟩
      · have ht' : isTup d = false := by simpa using ht
        obtain ⟨a, us, rfl, e4, e5⟩ := rdlD_rel r1 (rdl_of_seq ht' q) e2
        exact ⟨a, us, rfl, .inl ⟨e4, p1 _ ω1 (Ext.refl _) r1 (itOk_enL r1 e2 fun h' z => rdl_of_seq ht' z)⟩⟩
    · exact False.elim p1
  · exact False.elim p1
end
/-! ### the least and the most -/
theorem cr_or {X : Cx} {f : Value} {r1 r2 : List V → Hp → VK → Prop} (h1 : CallR X f r1) (h2 : CallR X f r2) : CallR X f (fun xs H Q => r1 xs H Q ∨ r2 xs H Q) := by
  intro pins s σ H xs us Q I r q
  rcases q with q | q
  · exact h1 pins s σ H xs us Q I r q
  · exact h2 pins s σ H xs us Q I r q
def leastI : Int → List Int → Int
  | m, [] => m
  | m, n :: r => leastI (if n < m then n else m) r
def mostI : Int → List Int → Int
  | m, [] => m
  | m, n :: r => mostI (if m < n then n else m) r
theorem mostI_spec : ∀ (r : List Int) (m : Int), mostI m r ∈ m :: r ∧ ∀ y ∈ m :: r, y ≤ mostI m r
  | [], m => by simp [mostI]
  | n :: r, m => by
    obtain ⟨h1, h2⟩ := mostI_spec r (if m < n then n else m)
    unfold mostI
    by_cases c : m < n
    · rw [if_pos c] at h1 h2 ⊢
      refine ⟨List.mem_cons_of_mem _ h1, fun y hy => ?_⟩
      rcases List.mem_cons.mp hy with rfl | hy
      · have := h2 n (by simp); omega
      · exact h2 y hy
    · rw [if_neg c] at h1 h2 ⊢
      refine ⟨?_, fun y hy => ?_⟩
      · rcases List.mem_cons.mp h1 with q | q
        · rw [q]; simp
        · exact List.mem_cons_of_mem _ (List.mem_cons_of_mem _ q)
      · rcases List.mem_cons.mp hy with rfl | hy
        · exact h2 _ (by simp)
        · rcases List.mem_cons.mp hy with rfl | hy
          · have := h2 m (by simp); omega
          · exact h2 y (List.mem_cons_of_mem _ hy)
/-! ### sums and bests of tuples -/
section
variable {prog : Program} {w : World} {A : Around} {E : Value → Shared → Prop} {z : Shared} {a : Addr} {xs : Array (Int × Tok)} {Q : Value → Shared → Prop}
theorem iter_tupI (ht : z.heap.IsTuple a (intItems xs))
    (q : ∀ z2 : Shared, z2 = { z with heap := z.heap.push { cls := .type "tuple_iterator", data := .fields #[.ref a, .int 0 0] } } →
      (z2.heap.IsTupleIter z.heap.objs.size a 0 ∧ z2.heap.IsTuple a (intItems xs)) → (∀ b ∈ [z.heap.objs.size, a], b < z2.heap.objs.size) → a ≠ z.heap.objs.size →
      (∀ h' : Heap, (∀ b o, b ∉ [z.heap.objs.size] → z2.heap.get? b = some o → h'.get? b = some o) → ∀ b o, z.heap.get? b = some o → h'.get? b = some o) → Q (.ref z.heap.objs.size) z2) : wpAny (model prog w) A (pyIter (.ref a)) Q E z := by
  have lta : a < z.heap.objs.size := by
    obtain ⟨_, e, _⟩ := ht
    exact Heap.lt_size e
  have sz : ∀ ob, (z.heap.push ob).objs.size = z.heap.objs.size + 1 := fun ob => Heap.size_push ..
  refine wpAny_pyIter_tuple ht (q _ rfl ⟨⟨_, Heap.get?_push_size _ rfl, rfl, rfl⟩, ht.at fun o e => Heap.get?_push_of_some _ e⟩ (fun b hb => ?_) (Nat.ne_of_lt lta) fun h' hk b o e => ?_)
  · show b < (z.heap.push _).objs.size
    rw [sz]
    simp only [List.mem_cons, List.not_mem_nil, or_false] at hb
    rcases hb with rfl | rfl
    · exact Nat.lt_succ_self _
    · exact Nat.lt_succ_of_lt lta
  · refine hk b o (fun hm => ?_) (Heap.get?_push_of_some _ e)
    have : b = z.heap.objs.size := by simpa using hm
    rw [this] at e
    exact Nat.lt_irrefl _ (Heap.lt_size e)
theorem sum_tupI (hh : A.handled = none) (ht : z.heap.IsTuple a (intItems xs)) (q : ∀ h' tk t', (∀ b o, z.heap.get? b = some o → h'.get? b = some o) → Q (.int (preSum (numAt xs) xs.size) t') { z with heap := h', toks := tk }) :
    wpAny (model prog w) A (call (.builtin "sum") [.ref a]) Q E z := by
  refine call_sum_walkG (iter_tupI ht fun z2 e st hfp hne old => ?_)
  subst e
  refine ⟨_, _, _, _, _, _, numAt xs, rfl, Walks.tuple (A := A.in1) hh _ a hne (intItems xs), st, hfp, (fun _ _ => intItems_at), fun h' tk t' hk => ?_⟩
  simpa [intItems] using q h' tk t' (old h' hk)
theorem max_tupI (hh : A.handled = none) (ht : z.heap.IsTuple a (intItems xs)) (hne : 0 < xs.size)
    (q : ∀ v h' tk, (intItems xs)[argBest (fun i j => decide (numAt xs i > numAt xs j)) (xs.size - 1)]? = some v → (∀ b o, z.heap.get? b = some o → h'.get? b = some o) → Q v { z with heap := h', toks := tk }) : wpAny (model prog w) A (call (.builtin "max") [.ref a]) Q E z := by
  refine call_max_walk (iter_tupI ht fun z2 e st hfp hn old => ?_)
  subst e
  refine ⟨_, _, _, _, _, _, _, rfl, Walks.tuple (A := A.in1) hh _ a hn (intItems xs), st, hfp, by simpa [intItems] using hne, CmpOf.ints_gt (numAt xs) (fun _ _ => intItems_at), fun v h' tk hP hk => ?_⟩
  exact q v h' tk (by simpa [intItems] using hP) (old h' hk)
end
section
variable {X : Cx}
def rSumU (K : PySem.W.Frag) : List V → Hp → VK → Prop := fun vs H Q => ∃ (a : Addr) (ns : List Int), vs = [V.ref a] ∧ SqT K H a (ns.map V.int) ∧ Q (.int ns.sum) H
def rMaxU (K : PySem.W.Frag) : List V → Hp → VK → Prop := fun vs H Q => ∃ (a : Addr) (ns : List Int), vs = [V.ref a] ∧ SqT K H a (ns.map V.int) ∧ 0 < ns.length ∧ ∀ m ∈ ns, (∀ y ∈ ns, y ≤ m) → Q (.int m) H
def rMinU (K : PySem.W.Frag) : List V → Hp → VK → Prop := fun vs H Q => ∃ (a : Addr) (ns : List Int), vs = [V.ref a] ∧ SqT K H a (ns.map V.int) ∧ 0 < ns.length ∧ ∀ m ∈ ns, (∀ y ∈ ns, m ≤ y) → Q (.int m) H
theorem cr_sumU (hc : X.calm = true) : CallR X (.builtin "sum") (rSumU X.K) := by
  intro pins s σ H vs us Q I r ⟨a, ns, e, hs, q⟩
  subst e
  obtain ⟨its, rv, hl, _⟩ := I.tuple hs
  rw [Vals.ref1 r]
  obtain ⟨xs, e⟩ := rv.ints.allInts.items
  have hn : numsOf (intItems xs).toList = ns := by rw [← e]; exact rv.ints.numsOf
  rw [nums_intItems] at hn
  have hl2 : s.heap.IsTuple a (intItems xs) := e ▸ hl
  refine sum_tupI (I.ok.hd hc) hl2 fun h' tk t' hk => ⟨.int _, H, I.kept hk, ⟨_, rfl⟩, ?_⟩
  rw [preSum_eq, List.take_of_length_le (by simp), hn]; exact q
theorem cr_maxU (hc : X.calm = true) : CallR X (.builtin "max") (rMaxU X.K) := by
  intro pins s σ H vs us Q I r ⟨a, ns, e, hs, hne, q⟩
  subst e
  obtain ⟨its, rv, hl, _⟩ := I.tuple hs
  rw [Vals.ref1 r]
  obtain ⟨xs, e⟩ := rv.ints.allInts.items
  have hn : numsOf (intItems xs).toList = ns := by rw [← e]; exact rv.ints.numsOf
  rw [nums_intItems] at hn
  subst hn
  have hl2 : s.heap.IsTuple a (intItems xs) := e ▸ hl
  refine max_tupI (I.ok.hd hc) hl2 (by simpa using hne) fun v h' tk hv hk => ?_
  obtain ⟨t, rfl⟩ := intItems_at hv
  obtain ⟨h1, h2⟩ := argBest_gt (numAt xs) (xs.size - 1)
  have hsz : 0 < xs.size := by simpa using hne
  refine ⟨.int _, H, I.kept hk, ⟨_, rfl⟩, q _ ?_ fun y hy => ?_⟩
  · rw [numAt_eq]; exact PySem.getD_mem (by rw [List.length_map, Array.length_toList]; omega)
  · obtain ⟨j, hj, rfl⟩ := mem_getD hy
    rw [List.length_map, Array.length_toList] at hj
    rw [← numAt_eq]; exact h2 j (by omega)
end
/-- where the numbers of a sequence lie -/
theorem seq_ints {K : PySem.W.Frag} {ω : Wo} {h : Hc} {d : D} {v : V} {ys : List D} {ns : List Int} (r : Rel K ω h) (q : seqD h d = some ys) (q2 : intsD ys = some ns) (e : RelD K ω d v) :
    ∃ a, v = .ref a ∧ (SqL K ω.H a (ns.map V.int) ∨ SqT K ω.H a (ns.map V.int)) := by
  obtain ⟨a, us, e1, e2, e3⟩ := seqD_rel r q e
  rw [intsD_eq q2] at e3
  rw [e3.ints] at e2
  exact ⟨a, e1, e2.elim .inr .inl⟩
def sumA (xs : List D) (h : Hc) : R D := match xs with
  | [d] => match seqD h d with
    | some ys => match intsD ys with
      | some ns => .ok (.int ns.sum) h
      | none => .bad
    | none => .bad
  | _ => .bad
theorem call_sumB {X : Cx} (hc : X.calm = true) : CallR X (.builtin "sum") (fun xs H Q => rSum X.K xs H Q ∨ rSumU X.K xs H Q) := cr_or (cr_sum hc) (cr_sumU hc)
theorem cd_sumA {X : Cx} : CallD X (fun xs H Q => rSum X.K xs H Q ∨ rSumU X.K xs H Q) sumA := fun W σ ω h xs vs Q r rx p => by
  unfold sumA at p
  split at p
  · obtain ⟨v, ws, rfl, e2, e3⟩ := rx.inv
    rw [e3.inv0]
    split at p
    · rename_i ys q
      split at p
      · rename_i ns q2
        obtain ⟨a, rfl, e5 | e5⟩ := seq_ints r q q2 e2
        · exact .inl ⟨a, ns, rfl, e5, p.here r int_rd⟩
        · exact .inr ⟨a, ns, rfl, e5, p.here r int_rd⟩
      · exact False.elim p
    · exact False.elim p
  · exact False.elim p
def bestF (f : Int → List Int → Int) (xs : List D) (h : Hc) : R D := match xs with
  | [.int i, .int j] => .ok (.int (f i [j])) h
  | [d] => match seqD h d with
    | some ys => match intsD ys with
      | some (n :: ns) => .ok (.int (f n ns)) h
      | _ => .bad
    | none => .bad
  | _ => .bad
abbrev minF := bestF leastI
abbrev maxF := bestF mostI
section
variable {X : Cx}
def rMinB (K : PySem.W.Frag) : List V → Hp → VK → Prop := fun xs H Q => (∃ i j, xs = [.int i, .int j] ∧ Q (.int (if j < i then j else i)) H) ∨ rMin K xs H Q ∨ rMinU K xs H Q
def rMaxB (K : PySem.W.Frag) : List V → Hp → VK → Prop := fun xs H Q => (∃ i j, xs = [.int i, .int j] ∧ Q (.int (if j > i then j else i)) H) ∨ rMax K xs H Q ∨ rMaxU K xs H Q
theorem call_maxB (hc : X.calm = true) : CallR X (.builtin "max") (rMaxB X.K) := cr_or (call_max2 hc) (cr_or (cr_max hc) (cr_maxU hc))
theorem cd_max : CallD X (rMaxB X.K) maxF := fun W σ ω h xs vs Q r rx p => by
  unfold maxF bestF at p
  split at p
  · obtain ⟨v, ws, rfl, e2, e3⟩ := rx.inv
    obtain ⟨v', ws', rfl, e4, e5⟩ := e3.inv
    rw [e5.inv0, rd_int e2, rd_int e4]
    exact .inl ⟨_, _, rfl, p.here r int_rd⟩
  · obtain ⟨v, ws, rfl, e2, e3⟩ := rx.inv
    rw [e3.inv0]
    split at p
    · rename_i ys q
      split at p
      · rename_i n ns q2
        have fin : ∀ m ∈ n :: ns, m = mostI n ns → Q (.int m) ω.H := fun m _ em => by
          rw [em]
          exact p.here r int_rd
        obtain ⟨g1, g2⟩ := mostI_spec ns n
        obtain ⟨a, rfl, e5 | e5⟩ := seq_ints r q q2 e2
        · exact .inr (.inl ⟨a, n :: ns, rfl, e5, by simp, fun m hm hy => fin m hm (Int.le_antisymm (g2 _ hm) (hy _ g1))⟩)
        · exact .inr (.inr ⟨a, n :: ns, rfl, e5, by simp, fun m hm hy => fin m hm (Int.le_antisymm (g2 _ hm) (hy _ g1))⟩)
      · exact False.elim p
    · exact False.elim p
  · exact False.elim p
end
/-! ### the least common multiple -/
section
variable {X : Cx}
def rLcm : List V → Hp → VK → Prop := fun vs H Q => ∃ a b : Int, vs = [.int a, .int b] ∧ a.natAbs.log2 < 8000 ∧ b.natAbs.log2 < 8000 ∧ Q (.int ((Nat.lcm a.natAbs b.natAbs : Nat) : Int)) H
def lcmF (xs : List D) (h : Hc) : R D := match xs with
  | [.int i, .int j] => if i.natAbs.log2 < 8000 ∧ j.natAbs.log2 < 8000 then .ok (.int ((Nat.lcm i.natAbs j.natAbs : Nat) : Int)) h else .bad
  | _ => .bad
end
/-! ### copies of a list that is then changed -/
def mulC (x y : D) (h : Hc) : R D := match y with
  | .int k => match lstD h x with
    | some xs => if k ≤ lim ∧ -lim ≤ k ∧ xs.length * k.toNat ≤ lim then .ok (.ref h.length) (h ++ [.lst (repD k.toNat xs)]) else .bad
    | none => .bad
  | _ => .bad
theorem opd_mulC {X : Cx} : OpD X rMulA mulC := fun W σ ω h x y v u Q r rx ry p => by
  unfold mulC at p
  split at p
  · rename_i k
    split at p
    · rename_i xs q1
      obtain ⟨⟨h1, h2, h3⟩, p⟩ := p.if_
      obtain ⟨a, vs, e1, e2, e3⟩ := lstD_rel r q1 rx
      have l1 : (lim : Int) = 1000000 := rfl
      exact .inr (.inr ⟨a, k, vs, e1, rd_int ry, e2, by omega, by omega, by rw [← e3.len]; exact lim_le h3, fun q hq => p (.ref q) (ω.cell q _) (Ext.cell hq) (cell_new r hq (e3.rep _)).1 (cell_new r hq (e3.rep _)).2⟩)
    · exact False.elim p
  · exact False.elim p
end Mp
/-! LayI: two sequences walked side by side, each a list or a tuple. -/
namespace Mp
open PySem PySem.Spec PyProof.Rows L2
/-- a sequence of a kind (true: a tuple) -/
def SqX (t : Bool) (K : PySem.W.Frag) (H : Hp) (a : Addr) (xs : List V) : Prop := if t = true then SqT K H a xs else SqL K H a xs
/-- an iterator of a kind -/
def ItX (t : Bool) (g : Heap) (it a : Addr) (i : Nat) : Prop := if t = true then g.IsTupleIter it a i else g.IsListIter it a i
def CoX (t : Bool) (g : Heap) (a : Addr) (its : Array Value) : Prop := if t = true then g.IsTuple a its else g.IsList a its
theorem ItX.at {t : Bool} {g g' : Heap} {it a : Addr} {i : Nat} (h : ItX t g it a i) (k : ∀ o, g.get? it = some o → g'.get? it = some o) : ItX t g' it a i := by
  cases t
  · exact Heap.IsListIter.at (show g.IsListIter it a i from h) k
  · exact Heap.IsTupleIter.at (show g.IsTupleIter it a i from h) k
theorem CoX.at {t : Bool} {g g' : Heap} {a : Addr} {its : Array Value} (h : CoX t g a its) (k : ∀ o, g.get? a = some o → g'.get? a = some o) : CoX t g' a its := by
  cases t
  · exact Heap.IsList.at (show g.IsList a its from h) k
  · exact Heap.IsTuple.at (show g.IsTuple a its from h) k
theorem ItX.there {t : Bool} {g : Heap} {it a : Addr} {i : Nat} (h : ItX t g it a i) : ∃ o, g.get? it = some o ∧ ∀ v, o.data ≠ .seq v 0 ∨ True := by
  cases t
  · obtain ⟨o, e, _⟩ := (show g.IsListIter it a i from h)
    exact ⟨o, e, fun _ => .inr trivial⟩
  · obtain ⟨o, e, _⟩ := (show g.IsTupleIter it a i from h)
    exact ⟨o, e, fun _ => .inr trivial⟩
section
variable {prog : Program} {w : World} {A : Around}
theorem drawsX (t : Bool) (hh : A.handled = none) (it a : Addr) (hne : a ≠ it) (its : Array Value) : Draws prog w A it [it, a] its.size (fun i v => its[i]? = some v) (fun i g => ItX t g it a i ∧ CoX t g a its) := by
  cases t
  · exact Draws.list hh it a hne its
  · exact Draws.tuple hh it a hne its
/-- one that has ended -/
theorem drawsE (t : Bool) (hh : A.handled = none) (it a : Addr) (its : Array Value) (i : Nat) (hi : its.size ≤ i) : Draws prog w A it [it, a] i (fun _ _ => True) (fun j g => j = i ∧ ItX t g it a i ∧ CoX t g a its) where
  live := fun j g st => by
    obtain ⟨o, e, _⟩ := st.2.1.there
    exact ⟨o, e⟩
  frame := fun j g g' st k => ⟨st.1, st.2.1.at fun o q => k it (by simp) o q, st.2.2.at fun o q => k a (by simp) o q⟩
  item := fun j s Q E hj st _ => absurd st.1 (Nat.ne_of_lt hj)
  done := fun s Q E st hE => by
    obtain ⟨_, h1, h2⟩ := st
    cases t
    · exact wpAny_nextOf_list_end hh h1 h2 (by simp; omega) hE
    · exact wpAny_nextOf_tuple_end hh h1 h2 (by simp; omega) hE
end
section
variable {X : Cx} {pins : List (Addr × Obj)} {σ : L2.St} {H : Hp} {s : Shared}
theorem inv_seqX {t : Bool} {a : Addr} {xs : List V} (I : L2.Inv X pins σ H s) (q : SqX t X.K H a xs) : ∃ its : List Value, Vals xs its ∧ CoX t s.heap a its.toArray := by
  cases t
  · obtain ⟨its, rv, p, _⟩ := I.list (show SqL X.K H a xs from q)
    exact ⟨its, rv, p.isList⟩
  · obtain ⟨its, rv, p, _⟩ := I.tuple (show SqT X.K H a xs from q)
    exact ⟨its, rv, p⟩
theorem inv_seqX_inj {t : Bool} {a : Addr} {xs ys : List V} (I : L2.Inv X pins σ H s) (q : SqX t X.K H a xs) (q2 : SqX t X.K H a ys) : xs = ys := by
  cases t
  · exact I.list_inj (show SqL X.K H a xs from q) (show SqL X.K H a ys from q2)
  · exact I.tuple_inj (show SqT X.K H a xs from q) (show SqT X.K H a ys from q2)
end
/-- two sequences, their items in new pairs -/
def ItP (t1 t2 : Bool) (K : PySem.W.Frag) (a b : Addr) : It where
  go i H := ∃ (xs ys : List V) (x y : V), SqX t1 K H a xs ∧ SqX t2 K H b ys ∧ xs[i]? = some x ∧ ys[i]? = some y
  yld i H v H' := ∃ T x y, v = .ref T ∧ H T = none ∧ H' = upd H T (.tup [x, y]) ∧ (∀ xs, SqX t1 K H a xs → xs[i]? = some x) ∧ ∀ ys, SqX t2 K H b ys → ys[i]? = some y
  stop i H := ∃ xs ys : List V, SqX t1 K H a xs ∧ SqX t2 K H b ys ∧ (xs.length ≤ i ∨ ys.length ≤ i)
theorem turn_pair {P : Program} {w : World} {K : PySem.W.Frag} {elts : List Expr} {kk : Nat} {tpos : Pos} {t1 t2 : Bool} {a b z TI TO i1 i2 : Addr} (S : ZipSep2 z TI TO i1 i2 [i1, a] [i2, b]) (n1 : a ≠ i1) (n2 : b ≠ i2) :
    Turn P w K (.Tuple elts kk tpos) (ItP t1 t2 K a b) [z, TI, TO, i1, i2] z (fun i g => IsZip g z TI TO .none ∧ IsTupOf2 g TI (.ref i1) (.ref i2) ∧ (∃ x y, IsTupOf2 g TO x y) ∧ ItX t1 g i1 a i ∧ ItX t2 g i2 b i) where
  mem := by simp
  obj := fun i g st c hc => by
    obtain ⟨hz, hTI, ⟨x, y, hTO⟩, h1, h2⟩ := st
    have it : ∀ {t : Bool} {it a : Addr}, ItX t g it a i → ∃ o, g.get? it = some o ∧ ∀ v, ¬ (o.data = .cell v) := fun {t it a} h => by
      cases t
      · obtain ⟨o, e, _, d⟩ := (show g.IsListIter it a i from h)
        exact ⟨o, e, fun v q => by rw [d] at q; cases q⟩
      · obtain ⟨o, e, _, d⟩ := (show g.IsTupleIter it a i from h)
        exact ⟨o, e, fun v q => by rw [d] at q; cases q⟩
    simp only [List.mem_cons, List.not_mem_nil, or_false] at hc
    rcases hc with q | q | q | q | q
    · rw [q]; exact ⟨_, hz, fun v q => nomatch q⟩
    · rw [q]; exact ⟨_, hTI, fun v q => nomatch q⟩
    · rw [q]; exact ⟨_, hTO, fun v q => nomatch q⟩
    · rw [q]; exact it h1
    · rw [q]; exact it h2
  keep := fun i g g' st k => by
    obtain ⟨hz, hTI, ⟨x, y, hTO⟩, h1, h2⟩ := st
    exact ⟨k z (by simp) _ hz, k TI (by simp) _ hTI, ⟨x, y, k TO (by simp) _ hTO⟩, h1.at fun o q => k i1 (by simp) o q, h2.at fun o q => k i2 (by simp) o q⟩
  item := by
    intro X hP hw hK hc i pins s σ H E I hf st hg
    subst hP hw hK
    obtain ⟨hz, hTI, ⟨x0, y0, hTO⟩, h1, h2⟩ := st
    obtain ⟨xs, ys, x, y, hqx, hqy, hx, hy⟩ := hg
    obtain ⟨its, rv, p⟩ := inv_seqX I hqx
    obtain ⟨its2, rv2, p2⟩ := inv_seqX I hqy
    obtain ⟨u, hu, ru⟩ := rv.get hx
    obtain ⟨u2, hu2, ru2⟩ := rv2.get hy
    have ltz : z < s.heap.objs.size := Heap.lt_size hz
    have l1 : i < its.toArray.size := by
      have := (List.getElem?_eq_some_iff.mp hu).1
      simpa using this
    have l2 : i < its2.toArray.size := by
      have := (List.getElem?_eq_some_iff.mp hu2).1
      simpa using this
    refine wpAny_pyNext_zipD2_item S (drawsX t1 (show X.A.in1.handled = none from I.ok.hd hc) i1 a n1 its.toArray) (drawsX t2 (show X.A.in1.handled = none from I.ok.hd hc) i2 b n2 its2.toArray) hz hTI hTO ⟨h1, p⟩ ⟨h2, p2⟩ l1 l2 fun v1 v2 g1 tk e1 e2 z1 TO1 s1 s2 hT hsz hk => ?_
    have ev1 : v1 = u := by
      have : its.toArray[i]? = some u := by simpa using hu
      rw [this] at e1; exact (Option.some.inj e1).symm
    have ev2 : v2 = u2 := by
      have : its2.toArray[i]? = some u2 := by simpa using hu2
      rw [this] at e2; exact (Option.some.inj e2).symm
    subst ev1 ev2
    refine ⟨_, rfl, wpAny_letOwnedTupleGo_zip (s := { s with heap := g1, toks := tk }) z1 fun g2 z2 sb => ?_⟩
    have hT2 := (sb.2 s.heap.objs.size (Nat.ne_of_gt ltz)).trans hT
    have new : ObjOk X.prog X.w (upd H s.heap.objs.size (.tup [x, y])) g2 s.heap.objs.size (.tup [x, y]) := by
      refine ⟨by show 2 ≤ sizeLine; decide, [v1, v2], .cons ru (.cons ru2 .nil), ?_⟩
      exact ⟨_, hT2, rfl, _, rfl⟩
    have I1 : L2.Inv X pins σ (upd H s.heap.objs.size (.tup [x, y])) { s with heap := g2, toks := tk } :=
      I.turnedNew (ch := [z, TI, TO, i1, i2]) (fun c o hb q => by
        simp only [List.mem_cons, List.not_mem_nil, or_false, not_or] at hb
        exact (sb.2 c hb.1).trans (hk c o hb.1 hb.2.2.1 hb.2.2.2.1 hb.2.2.2.2 q)) hf (Nat.le_refl _) new
    refine ⟨.ref s.heap.objs.size, _, I1, rfl, ⟨_, x, y, rfl, I.hok.fresh (Nat.le_refl _), rfl, fun l hl => by rw [inv_seqX_inj I hl hqx]; exact hx, fun l hl => by rw [inv_seqX_inj I hl hqy]; exact hy⟩, ⟨z2, ?_, ⟨v1, v2, ?_⟩, ?_, ?_⟩, fun c hcm => ?_⟩
    · exact (sb.2 _ S.TIz).trans (hk _ _ S.TIz S.TITO S.TIi1 S.TIi2 hTI)
    · exact (sb.2 _ S.TOz).trans TO1
    · exact s1.1.at fun o q => (sb.2 _ (Ne.symm S.zi1)).trans q
    · exact s2.1.at fun o q => (sb.2 _ (Ne.symm S.zi2)).trans q
    · obtain ⟨o, ho, _⟩ : ∃ o, s.heap.get? c = some o ∧ True := by
        simp only [List.mem_cons, List.not_mem_nil, or_false] at hcm
        rcases hcm with q | q | q | q | q
        · rw [q]; exact ⟨_, hz, trivial⟩
        · rw [q]; exact ⟨_, hTI, trivial⟩
        · rw [q]; exact ⟨_, hTO, trivial⟩
        · rw [q]; obtain ⟨o, e, _⟩ := h1.there; exact ⟨o, e, trivial⟩
        · rw [q]; obtain ⟨o, e, _⟩ := h2.there; exact ⟨o, e, trivial⟩
      rw [upd_ne (Nat.ne_of_lt (Heap.lt_size ho))]
      exact (hf c hcm).1
  done := by
    intro X hP hw hK hc i pins s σ H E I hf st hg
    subst hP hw hK
    obtain ⟨hz, hTI, ⟨x0, y0, hTO⟩, h1, h2⟩ := st
    obtain ⟨xs, ys, hqx, hqy, hend⟩ := hg
    obtain ⟨its, rv, p⟩ := inv_seqX I hqx
    obtain ⟨its2, rv2, p2⟩ := inv_seqX I hqy
    have hh : X.A.in1.handled = none := I.ok.hd hc
    have e1 := rv.length
    have e2 := rv2.length
    have fin : ∀ g1 tk, (∀ c o, c ≠ z → c ≠ TO → c ≠ i1 → c ≠ i2 → s.heap.get? c = some o → g1.get? c = some o) → (none : Option Value) = none ∧ L2.Inv X pins σ H { s with heap := g1, toks := tk } := fun g1 tk hk =>
      ⟨rfl, I.turnedL (ch := [z, TI, TO, i1, i2]) (fun c o hb q => by
        simp only [List.mem_cons, List.not_mem_nil, or_false, not_or] at hb
        exact hk c o hb.1 hb.2.2.1 hb.2.2.2.1 hb.2.2.2.2 q) hf⟩
    by_cases c1 : its.toArray.size ≤ i
    · by_cases c2 : its2.toArray.size ≤ i
      · exact wpAny_pyNext_zipD2_end S (drawsE t1 hh i1 a its.toArray i c1) (drawsE t2 hh i2 b its2.toArray i c2) hz hTI hTO ⟨rfl, h1, p⟩ ⟨rfl, h2, p2⟩ (Nat.le_refl _) (Nat.le_refl _) (.inl rfl) fin
      · exact wpAny_pyNext_zipD2_end S (drawsE t1 hh i1 a its.toArray i c1) (drawsX t2 hh i2 b n2 its2.toArray) hz hTI hTO ⟨rfl, h1, p⟩ ⟨h2, p2⟩ (Nat.le_refl _) (by omega) (.inl rfl) fin
    · have c2 : its2.toArray.size ≤ i := by
        have q1 : its.toArray.size = its.length := by simp
        have q2 : its2.toArray.size = its2.length := by simp
        rcases hend with q | q
        · omega
        · omega
      exact wpAny_pyNext_zipD2_end S (drawsX t1 hh i1 a n1 its.toArray) (drawsE t2 hh i2 b its2.toArray i c2) hz hTI hTO ⟨h1, p⟩ ⟨rfl, h2, p2⟩ (by omega) (Nat.le_refl _) (.inr rfl) fin
  self := fun A i s Q E st q => wpAny_pyIter_zip st.1 q
/-- where a walk of a sequence begins -/
def obX (t : Bool) (a : Addr) : Obj := if t = true then { cls := .type "tuple_iterator", data := .fields #[.ref a, .int 0 0] } else { cls := .type "list_iterator", data := .fields #[.ref a, .int 0 0] }
theorem beginsX (t : Bool) (a : Addr) (its : Array Value) : Begins (.ref a) (obX t a) fun g => CoX t g a its := by
  cases t
  · exact begins_list a its
  · exact begins_tuple a its
theorem obX_it {t : Bool} {g : Heap} {it a : Addr} (h : g.get? it = some (obX t a)) : ItX t g it a 0 := by
  cases t
  · exact ⟨_, h, rfl, rfl⟩
  · exact ⟨_, h, rfl, rfl⟩
theorem CoX.lt {t : Bool} {g : Heap} {a : Addr} {its : Array Value} (h : CoX t g a its) : a < g.objs.size := by
  cases t
  · obtain ⟨o, e, _⟩ := (show g.IsList a its from h)
    exact Heap.lt_size e
  · obtain ⟨o, e, _⟩ := (show g.IsTuple a its from h)
    exact Heap.lt_size e
theorem notin2 {x p q : Addr} (h1 : x ≠ p) (h2 : x ≠ q) : x ∉ [p, q] := by simp [h1, h2]
/-- zip of two sequences -/
def iZpB (K : PySem.W.Frag) (ta : TA) : TI := fun σ H R => ta σ H fun vs H1 => ∃ t1 t2 a b xs ys, vs = [.ref a, .ref b] ∧ SqX t1 K H1 a xs ∧ SqX t2 K H1 b ys ∧ R (ItP t1 t2 K a b) H1
theorem pi_zpB {X : Cx} {e e2 : Expr} {ta : TA} {p pos tpos : Pos} {elts : List Expr} {kk : Nat} (hg : Gl X "zip") (hm : X.mg "zip" = none) (ha : PA X [e, e2] ta)
    (st : starEach [e, e2] X.env = (false, eval e X.env) :: starEach [e2] X.env := by rfl) (pl : (backTo pos (starEach [e2] X.env)).any (·.1) = false := by rfl) :
    PI X (.Tuple elts kk tpos) (.Call (.Name "zip" p) [e, e2] [] pos) (iZpB X.K ta) := by
  refine ⟨fun pins s σ H R I q => ?_⟩
  refine Call_ (ld_blt I hg hm PyProof.Rows.boot_zip (PyProof.Rows.callWith_type1 (thn (ha.run pos pins s σ H _ I q) fun us s1 ⟨vs, H1, I1, r1, q1⟩ => ?_) st pl))
  obtain ⟨t1, t2, a, b, xs, ys, rfl, hqx, hqy, q⟩ := q1
  obtain ⟨u, u2, rfl, ra, rb⟩ := vals2 r1
  cases ra
  cases rb
  obtain ⟨its, rv, p1⟩ := inv_seqX I1 hqx
  obtain ⟨its2, rv2, p2⟩ := inv_seqX I1 hqy
  have la := p1.lt
  have lb := p2.lt
  have fresh : ∀ c ∈ [s1.heap.objs.size + 4, s1.heap.objs.size + 2, s1.heap.objs.size + 3, s1.heap.objs.size, s1.heap.objs.size + 1], FpOk X pins H1 c := fun c hcm => by
    have hle : s1.heap.objs.size ≤ c := by
      simp only [List.mem_cons, List.not_mem_nil, or_false] at hcm
      rcases hcm with z | z | z | z | z <;> (rw [z]; first | exact Nat.le_refl _ | exact Nat.le_add_right _ _)
    exact I1.fpOk hle (I1.hok.fresh hle)
  have num : ∀ n a b : Nat, a < n → b < n → (n + 2 ≠ n + 4 ∧ n + 3 ≠ n + 4 ∧ n + 2 ≠ n + 3 ∧ n + 2 ≠ n ∧ n + 2 ≠ n + 1) ∧ (n + 4 ≠ n ∧ n + 4 ≠ a ∧ n + 3 ≠ n ∧ n + 3 ≠ a) ∧ (n + 4 ≠ n + 1 ∧ n + 4 ≠ b ∧ n + 3 ≠ n + 1 ∧ n + 3 ≠ b) ∧ n ≠ n + 1 ∧ n ≠ b ∧ n + 1 ≠ n ∧ n + 1 ≠ a := fun n a b h1 h2 => by omega
  have gen : ∀ n a b : Nat, a < n → b < n → ZipSep2 (n + 4) (n + 2) (n + 3) n (n + 1) [n, a] [n + 1, b] := fun n a b la lb => by
    obtain ⟨⟨a1, a2, a3, a4, a5⟩, ⟨b1, b2, b3, b4⟩, ⟨c1, c2, c3, c4⟩, d1, d2, d3, d4⟩ := num n a b la lb
    exact ⟨a1, a2, a3, a4, by simp, notin2 b1 b2, notin2 b3 b4, a5, by simp, notin2 c1 c2, notin2 c3 c4, notin2 d1 d2, notin2 d3 d4⟩
  have nea : ∀ n a : Nat, a < n → a ≠ n ∧ a ≠ n + 1 := fun n a h => by omega
  refine zip_begins2 (beginsX t1 a its.toArray) (beginsX t2 b its2.toArray) p1 p2 fun g hz hTI hTO h1 h2 hsz hk => wpAny_pyIter_zip hz ?_
  exact ⟨s1.heap.objs.size + 4, [s1.heap.objs.size + 4, s1.heap.objs.size + 2, s1.heap.objs.size + 3, s1.heap.objs.size, s1.heap.objs.size + 1], _, _, H1, rfl, I1.kept (t' := s1.toks) hk, turn_pair (gen _ _ _ la lb) (nea _ _ la).1 (nea _ _ lb).2, ⟨hz, hTI, ⟨_, _, hTO⟩, obX_it h1, obX_it h2⟩, fresh, q⟩
/-- the pairs -/
def zipD : List D → List D → List D
  | x :: xs, y :: ys => .tup [x, y] :: zipD xs ys
  | _, _ => []
theorem zipD_get : ∀ (xs ys : List D) (i : Nat), (zipD xs ys)[i]? = (xs[i]?).bind fun x => (ys[i]?).map fun y => .tup [x, y]
  | [], ys, i => by unfold zipD; simp
  | x :: xs, [], i => by
    unfold zipD
    cases (x :: xs)[i]? <;> simp
  | x :: xs, y :: ys, 0 => by unfold zipD; simp
  | x :: xs, y :: ys, i + 1 => by
    unfold zipD
    rw [List.getElem?_cons_succ, List.getElem?_cons_succ, List.getElem?_cons_succ, zipD_get xs ys i]
def chkZ (d : D) (xs : List D) (e : D) (ys : List D) : Hc → Bool := fun h => chkQ d xs h && chkQ e ys h
def zpF (xs : List D) (h : Hc) : R ItD := match xs with
  | [d, e] => match seqD h d, seqD h e with
    | some us, some ws => .ok ⟨zipD us ws, chkZ d us e ws⟩ h
    | _, _ => .bad
  | _ => .bad
def iZip (as : SA) : SI := fun ds h => (as ds h).bd zpF
section
variable {K : PySem.W.Frag} {ω : Wo} {h : Hc} {d e : D}
theorem seqX_rel {v : V} {xs : List D} (r : Rel K ω h) (q : seqD h d = some xs) (x : RelD K ω d v) : ∃ a us, v = .ref a ∧ SqX (isTup d) K ω.H a us ∧ RelL K ω xs us := by
  by_cases ht : isTup d = true
  · cases d <;> simp [isTup] at ht
    rename_i zs
    obtain ⟨a, us, e1, e2, e3⟩ := rd_tup x
    simp [seqD] at q
    subst q
    exact ⟨a, us, e1, e2, e3⟩
  · have ht' : isTup d = false := by simpa using ht
    obtain ⟨a, us, e1, e2, e3⟩ := rdlD_rel r (rdl_of_seq ht' q) x
    rw [ht']
    exact ⟨a, us, e1, e2, e3⟩
theorem itOk_zip {xs ys : List D} {a b : Addr} (r : Rel K ω h) (x : RelD K ω d (.ref a)) (y : RelD K ω e (.ref b)) : ItOk K ω ⟨zipD xs ys, chkZ d xs e ys⟩ (ItP (isTup d) (isTup e) K a b) := fun i ω' h' ex r' hk => by
  replace hk : seqD h' d = some xs ∧ seqD h' e = some ys := by
    have hk : (chkQ d xs h' && chkQ e ys h') = true := hk
    rw [Bool.and_eq_true] at hk
    exact ⟨chkQ_spec hk.1, chkQ_spec hk.2⟩
  obtain ⟨p, us, e1, e2, e3⟩ := seqX_rel r' hk.1 (mono r ex _ _ x)
  obtain ⟨p2, us2, f1, f2, f3⟩ := seqX_rel r' hk.2 (mono r ex _ _ y)
  cases e1
  cases f1
  refine ⟨fun z hd => ?_, fun hn => ⟨us, us2, e2, f2, ?_⟩⟩
  · rw [zipD_get] at hd
    cases q : xs[i]? with
    | none => rw [q] at hd; cases hd
    | some x0 =>
      cases q2 : ys[i]? with
      | none => rw [q, q2] at hd; cases hd
      | some y0 =>
        rw [q, q2] at hd
        simp only [Option.bind_some, Option.map_some, Option.some.injEq] at hd
        subst hd
        obtain ⟨v, e4, e5⟩ := e3.get q
        obtain ⟨v2, f4, f5⟩ := f3.get q2
        refine ⟨⟨us, us2, v, v2, e2, f2, e4, f4⟩, fun w H' ⟨T, w1, w2, ew, hT, eH, g1, g2⟩ => ?_⟩
        have k1 := g1 us e2
        rw [e4] at k1
        cases k1
        have k2 := g2 us2 f2
        rw [f4] at k2
        cases k2
        obtain ⟨ω2, m1, m2, m3, m4⟩ := pairUp r' hT e5 f5
        subst ew
        exact ⟨ω2, by rw [eH, m1], m2, m3, m4⟩
  · rw [zipD_get] at hn
    rw [← e3.len, ← f3.len]
    cases q : xs[i]? with
    | none => exact .inl (List.getElem?_eq_none_iff.mp q)
    | some x0 =>
      cases q2 : ys[i]? with
      | none => exact .inr (List.getElem?_eq_none_iff.mp q2)
      | some y0 => rw [q, q2] at hn; cases hn
end
section
variable {X : Cx} {W : WX} {e : Expr} {as : SA}
theorem di_zip {tg : Expr} (he : PI X tg e (iZpB X.K (tA X W as))) : DI X W tg e (iZip as) := di_of he fun σ H R ⟨ω, h, ds, e1, r, s, p⟩ => by
  subst e1
  refine ⟨ω, h, ds, rfl, r, s, Post.bd (show Post X.K X.mg W σ ω _ R ((as ds h).bd _) from p) fun xs h1 vs ω1 e1 r1 d1 p1 => ?_⟩
  unfold zpF at p1
  split at p1
  · rename_i d e
    obtain ⟨v, ws, rfl, e2, e3⟩ := d1.inv
    obtain ⟨v', ws', rfl, e4, e5⟩ := e3.inv
    rw [e5.inv0]
    split at p1
    · rename_i us ws q q2
      obtain ⟨a, us1, rfl, f2, f3⟩ := seqX_rel r1 q e2
      obtain ⟨b, us2, rfl, g2, g3⟩ := seqX_rel r1 q2 e4
      exact ⟨_, _, a, b, us1, us2, rfl, f2, g2, p1 _ ω1 (Ext.refl _) r1 (itOk_zip r1 e2 e4)⟩
    · exact False.elim p1
  · exact False.elim p1
end
/-! ### a call with nothing handed over -/
section
variable {X : Cx} {W : WX} {m : Fn} {pos p : Pos} {x : Str} {ps : List Str} {k : Nat}
end
/-! ### range with a step -/
def stepD (lo c : Int) (n : Nat) : List D := (List.range n).map fun (i : Nat) => D.int (lo + (i : Int) * c)
def rg3F (xs : List D) (h : Hc) : R ItD := match xs with
  | [.int i, .int j, .int c] => if c ≠ 0 ∧ c.natAbs < 1073741824 ∧ Builtin.Range.small i j c = true ∧ 0 ≤ Builtin.Range.rangeSize i j c then .ok ⟨stepD i c (Builtin.Range.rangeSize i j c).toNat, fun _ => true⟩ h else .bad
  | _ => .bad
def iRg3 (as : SA) : SI := fun ds h => (as ds h).bd rg3F
/-! ### reverse -/
def revF (x : D) (xs : List D) (h : Hc) : R D := match x, xs with
  | .ref i, [] => match h[i]? with
    | some (.lst ys) => .ok .non (h.set i (.lst ys.reverse))
    | _ => .bad
  | _, _ => .bad
end Mp
/-! LayJ: dicts. -/
namespace Mp
open PySem PySem.Spec PyProof.Rows L2
/-! ### keys, and what stands at them -/
def keyD : D → Option Key
  | .int i => some (.inl i)
  | .str x => some (.inr x)
  | _ => none
def keyO : Key → D
  | .inl i => .int i
  | .inr x => .str x
def lkD : List Key → List D → Key → Option D
  | k :: ks, d :: ds, j => if k = j then some d else lkD ks ds j
  | _, _, _ => none
def hasK (ks : List Key) (j : Key) : Bool := ks.any fun k => decide (k = j)
theorem hasK_nil (j : Key) : hasK [] j = false := Eq.trans rfl rfl
theorem hasK_cons (k : Key) (ks : List Key) (j : Key) : hasK (k :: ks) j = (decide (k = j) || hasK ks j) := Eq.trans rfl rfl
/-- in its place, or at the end -/
def insD (ks : List Key) (ds : List D) (j : Key) (x : D) : List Key × List D :=
  if hasK ks j = true then (ks, List.zipWith (fun k d => if k = j then x else d) ks ds) else (ks ++ [j], ds ++ [x])
section
variable {K : PySem.W.Frag} {ω ω' : Wo} {h h' : Hc} {d : D} {v : V}
theorem keyD_rel {k : Key} (e : keyD d = some k) (x : RelD K ω d v) : v = kV k := by
  cases d <;> simp [keyD] at e <;> subst e
  · rw [rd_int x]; rfl
  · rw [rd_str x]; rfl
theorem any_zip : ∀ {ks : List Key} {vs : List V} {j : Key}, ks.length = vs.length → ((ks.zip vs).any fun kv => decide (kv.1 = j)) = hasK ks j
  | [], vs, j, _ => by simp [hasK_nil]
  | k :: ks, [], j, e => by simp at e
  | k :: ks, v :: vs, j, e => by
    have ih := any_zip (j := j) (ks := ks) (vs := vs) (by simpa using e)
    simp only [List.zip_cons_cons, List.any_cons, ih, hasK_cons]
theorem map_zip {j : Key} {u : V} : ∀ {ks : List Key} {vs : List V}, ks.length = vs.length → ((ks.zip vs).map fun kv => if kv.1 = j then (kv.1, u) else kv) = ks.zip (List.zipWith (fun k v => if k = j then u else v) ks vs)
  | [], vs, _ => by simp
  | k :: ks, [], e => by simp at e
  | k :: ks, v :: vs, e => by
    simp only [List.zip_cons_cons, List.map_cons, List.zipWith_cons_cons, map_zip (ks := ks) (vs := vs) (by simpa using e)]
    congr 1
    split <;> rfl
theorem rep_rel {j : Key} {x : D} {u : V} (rx : RelD K ω x u) : ∀ {ks : List Key} {ds : List D} {vs : List V}, RelL K ω ds vs → ks.length = vs.length → RelL K ω (List.zipWith (fun k d => if k = j then x else d) ks ds) (List.zipWith (fun k v => if k = j then u else v) ks vs)
  | [], ds, vs, r, e => by simpa using RelL.nil
  | k :: ks, [], vs, r, e => by rw [r.inv0] at e; simp at e
  | k :: ks, d :: ds, vs, r, e => by
    obtain ⟨v, ws, rfl, e2, e3⟩ := r.inv
    simp only [List.zipWith_cons_cons]
    refine RelL.cons ?_ (rep_rel rx e3 (by simpa using e))
    split
    · exact rx
    · exact e2
theorem putK_zip {ks : List Key} {ds : List D} {vs : List V} {j : Key} {x : D} {u : V} (r : RelL K ω ds vs) (e : ks.length = vs.length) (rx : RelD K ω x u) :
    ∃ ws, putK (ks.zip vs) j u = (insD ks ds j x).1.zip ws ∧ (insD ks ds j x).1.length = ws.length ∧ RelL K ω (insD ks ds j x).2 ws := by
  unfold putK insD
  rw [any_zip e]
  by_cases hj : hasK ks j = true
  · rw [if_pos hj, if_pos hj]
    exact ⟨_, map_zip e, by simp [e], rep_rel rx r e⟩
  · rw [if_neg hj, if_neg hj]
    exact ⟨vs ++ [u], by rw [List.zip_append (by simpa using e)]; rfl, by simp [e], r.append (RelL.cons rx RelL.nil)⟩
end
section
variable {X : Cx} {W : WX} {K : PySem.W.Frag} {ω ω' : Wo} {h h' : Hc} {a b e o i : Expr} {m ma mb me mo mi : SE} {pos pos' : Pos}
/-! ### {} -/
def eDct0 : SE := fun _ h => .ok (.ref h.length) (h ++ [.dct [] []])
theorem cell_newD {q : Addr} {ks : List Key} {xs : List D} {vs : List V} (r : Rel K ω h) (hq : ω.H q = none) (hl : ks.length = vs.length) (d : RelL K ω xs vs) :
    Rel K (ω.cell q (.dK (ks.zip vs))) (h ++ [.dct ks xs]) ∧ RelD K (ω.cell q (.dK (ks.zip vs))) (.ref h.length) (.ref q) := by
  refine ⟨r.cell hq ⟨vs, upd_same, hl, monoL r (Ext.cell hq) _ _ d⟩, ?_⟩
  unfold RelD
  rw [← r.n]
  exact ⟨Nat.lt_succ_self _, by rw [Wo.cell_at]⟩
/-! ### d[k], k in d -/
def dgF (x y : D) (h : Hc) : R D := match dctD h x, keyD y with
  | some (ks, ds), some k => match lkD ks ds k with
    | some d => .ok d h
    | none => .bad
  | _, _ => .bad
def dinF (neg : Bool) (y x : D) (h : Hc) : R D := match dctD h x, keyD y with
  | some (ks, _), some k => .ok (.bl (if neg then !hasK ks k else hasK ks k)) h
  | _, _ => .bad
theorem lkD_isSome : ∀ {ks : List Key} {vs : List V} {k : Key}, ks.length = vs.length → (valV (ks.zip vs) k).isSome = hasK ks k := fun {ks vs k} e => by
  rw [← valV_any, any_zip e]
theorem din_w (neg : Bool) : ∀ σ H Q, tE X W (eOp (dinF neg) ma mb) σ H Q → (if neg then tDNotIn (tE X W ma) (tE X W mb) σ H Q else tDIn (tE X W ma) (tE X W mb) σ H Q) := fun σ H Q ⟨ω, h, ds, e1, r, s, p⟩ => by
  subst e1
  cases neg with
  | false =>
    refine ⟨ω, h, ds, rfl, r, s, p.bd fun x h1 v ω1 e1 r1 d1 p1 => ⟨ω1, h1, ds, rfl, r1, monoS r e1 s, p1.bd fun y h2 u ω2 e2 r2 d2 p2 => ?_⟩⟩
    unfold dinF at p2
    split at p2
    · rename_i ks xs k q1 q2
      obtain ⟨p, vs, rfl, f2, f3, f4⟩ := dctD_rel r2 q1 d2
      rw [keyD_rel q2 d1]
      refine ⟨_, _, rfl, DGet.k (k := k) f2, p2 _ ω2 (Ext.refl _) r2 ?_⟩
      rw [lkD_isSome f3]
      exact bl_rd
    · exact False.elim p2
  | true =>
    refine ⟨ω, h, ds, rfl, r, s, p.bd fun x h1 v ω1 e1 r1 d1 p1 => ⟨ω1, h1, ds, rfl, r1, monoS r e1 s, p1.bd fun y h2 u ω2 e2 r2 d2 p2 => ?_⟩⟩
    unfold dinF at p2
    split at p2
    · rename_i ks xs k q1 q2
      obtain ⟨p, vs, rfl, f2, f3, f4⟩ := dctD_rel r2 q1 d2
      rw [keyD_rel q2 d1]
      refine ⟨_, _, rfl, DGet.k (k := k) f2, p2 _ ω2 (Ext.refl _) r2 ?_⟩
      rw [lkD_isSome f3]
      exact bl_rd
    · exact False.elim p2
theorem hu_1 {k : Nat} (hr : Room k X.A) : X.A.units + 1 < cLine := by have := hr.un; omega
theorem dt_dnin (hu : X.A.units + 1 < cLine) (ha : DE X W a ma) (hb : DE X W b mb) (hm : behindInMarks .NotIn b = false := by rfl) : DT X W (.Compare a [.NotIn] [b] pos) (bEx (eOp (dinF true) ma mb)) :=
  dt_of (pt_cmp (pc_dnotin hu ha hb) hm) fun σ H Q h => din_w true σ H _ (tBw σ H Q h)
/-! ### d[k] = v -/
def putF (o i x : D) (h : Hc) : Option Hc := match o, keyD i with
  | .ref j, some k => match h[j]? with
    | some (.dct ks ds) => if ks.length < lim then some (h.set j (.dct (insD ks ds k x).1 (insD ks ds k x).2)) else none
    | _ => none
  | _, _ => none
theorem rd_celD {j : Nat} {ks : List Key} {xs : List D} {v : V} (r : Rel K ω h) (x : RelD K ω (.ref j) v) (q : h[j]? = some (.dct ks xs)) : ∃ vs, j < ω.n ∧ v = .ref (ω.β j) ∧ ω.H (ω.β j) = some (.dK (ks.zip vs)) ∧ ks.length = vs.length ∧ RelL K ω xs vs := by
  unfold RelD at x
  obtain ⟨vs, e1, e2, e3⟩ := r.cel j _ q
  exact ⟨vs, x.1, x.2, e1, e2, e3⟩
theorem put_dct {j : Nat} {ks ls : List Key} {xs ys : List D} {vs : List V} (r : Rel K ω h) (q : h[j]? = some (.dct ks xs)) (hl : ls.length = vs.length) (y : RelL K ω ys vs) :
    Ext ω (ω.up (ω.β j) (.dK (ls.zip vs))) ∧ Rel K (ω.up (ω.β j) (.dK (ls.zip vs))) (h.set j (.dct ls ys)) := by
  have hi : j < ω.n := by rw [r.n]; exact (List.getElem?_eq_some_iff.mp q).1
  obtain ⟨o, ho, _⟩ := r.mut hi
  have e := Ext.put (o := .dK (ls.zip vs)) hi ho
  exact ⟨e, r.put hi ⟨vs, upd_same, hl, monoL r e _ _ y⟩⟩
/-- the key is put, as data and as the heap -/
theorem putF_rel {ov iv xv : V} {oD iD xD : D} (r : Rel K ω h) (ro : RelD K ω oD ov) (ri : RelD K ω iD iv) (rx : RelD K ω xD xv) (e : putF oD iD xD h = some h') :
    ∃ p H4, ov = .ref p ∧ DPut ω.H p iv xv H4 ∧ ∃ ω', ω'.H = H4 ∧ Ext ω ω' ∧ Rel K ω' h' := by
  unfold putF at e
  split at e
  · rename_i j k q1
    split at e
    · rename_i ks xs q2
      split at e
      · rename_i hl
        cases e
        obtain ⟨vs, e0, e1, e2, e3, e4⟩ := rd_celD r ro q2
        obtain ⟨ws, f1, f2, f3⟩ := putK_zip (j := k) (x := xD) e4 e3 rx
        obtain ⟨g1, g2⟩ := put_dct r q2 f2 f3
        refine ⟨_, _, e1, ?_, _, rfl, g1, g2⟩
        rw [keyD_rel q1 ri, ← f1]
        refine DPut.k e2 ?_
        rw [List.length_zip, ← e3, Nat.min_self]
        exact lim_lt hl
      · cases e
    · cases e
  · cases e
theorem ds_dput (hu : X.A.units + 1 < cLine) (ho : DE X W o mo) (hi : DE X W i mi) (he : DE X W e me) (hs : swapsWith e (some (.Subscript o i pos')) pos.line X.env = pure false := by rfl) : DS X W (.Assign [.Subscript o i pos'] e pos) (sPut putF me mo mi) :=
  ds_of (ps_dput hu ho hi he hs) fun E σ H ⟨ω, h, ds, e1, r, s, p⟩ => by
    subst e1
    refine ⟨ω, h, ds, rfl, r, s, PostO.bd r s p fun x h1 v ω1 e1 r1 d1 s1 p1 => ⟨ω1, h1, ds, rfl, r1, s1, PostO.bd r1 s1 p1 fun o h2 u ω2 e2 r2 d2 s2 p2 => ⟨ω2, h2, ds, rfl, r2, s2, PostO.bd r2 s2 p2 fun i h3 w ω3 e3 r3 d3 s3 p3 => ?_⟩⟩⟩
    cases q : putF o i x h3 with
    | none => rw [q] at p3; exact False.elim p3
    | some h4 =>
      rw [q] at p3
      obtain ⟨p, H4, rfl, z1, ω4, rfl, z3, z4⟩ := putF_rel r3 (mono r2 e3 _ _ d2) d3 (mono r1 (e2.trans e3) _ _ d1) q
      exact ⟨_, _, rfl, z1, p3 σ ω4 z3 z4 (monoS r3 z3 s3)⟩
/-! ### d[k] op= v -/
def sAugD (f : D → D → Hc → R D) (mo mi me : SE) : SS := fun ds h => sBd (mo ds h) ds fun o h1 => sBd (mi ds h1) ds fun i h2 => sBd (dgF o i h2) ds fun x h3 => sBd (me ds h3) ds fun y h4 => sBd (f x y h4) ds fun z h5 => match putF o i z h5 with
  | some h6 => .nx ds h6
  | none => .bad
end
/-! ### dict comprehensions -/
section
variable {X : Cx} {W : WX} {tg iter kx vx : Expr} {ifs : List Expr} {mi : SI} {p : Pt} {own : List Nat} {c : SB} {mk mv : SE} {scope : Scope} {pos : Pos}
def dcR (chk : Hc → Bool) (p : Pt) (own : List Nat) (c : SB) (mk mv : SE) (ds : Sl) : List D → List Key → List D → Hc → R (List Key × List D)
  | [], ks, acc, h => if chk h = true then .ok (ks, acc) h else .bad
  | d :: r, ks, acc, h => if chk h = true then (match bindP h p d (wipeD ds own) with
      | some ds1 => (c ds1 h).nox.bd fun b h1 => if b = true then (mk ds1 h1).nox.bd fun y h2 => (mv ds1 h2).nox.bd fun z h3 => match keyD y with
          | some k => if ks.length < lim then dcR chk p own c mk mv ds r (insD ks acc k z).1 (insD ks acc k z).2 h3 else .bad
          | none => .bad
        else dcR chk p own c mk mv ds r ks acc h1
      | none => .bad) else .bad
def eDc (mi : SI) (p : Pt) (own : List Nat) (c : SB) (mk mv : SE) : SE := fun ds h => (mi ds h).bd fun it h1 => (dcR it.chk p own c mk mv ds it.items [] [] h1).bd fun xs h2 => .ok (.dct xs.1 xs.2) h2
end
end Mp
/-! LayK: sorted. -/
namespace Mp
open PySem PySem.Spec PyProof.Rows L2
/-! ### one order, one sorted list -/
section
variable {α : Type}
def insO (le : α → α → Bool) (x : α) : List α → List α
  | [] => [x]
  | y :: r => if le x y = true then x :: y :: r else y :: insO le x r
def isort (le : α → α → Bool) : List α → List α
  | [] => []
  | x :: r => insO le x (isort le r)
structure Tot (le : α → α → Bool) : Prop where
  anti : ∀ a b, le a b = true → le b a = true → a = b
  tot : ∀ a b, le a b = true ∨ le b a = true
  trans : ∀ a b c, le a b = true → le b c = true → le a c = true
theorem insO_perm (le : α → α → Bool) (x : α) : ∀ l, (insO le x l).Perm (x :: l)
  | [] => List.Perm.refl _
  | y :: r => by
    unfold insO
    split
    · exact List.Perm.refl _
    · exact ((insO_perm le x r).cons y).trans (List.Perm.swap x y r)
theorem isort_perm (le : α → α → Bool) : ∀ l, (isort le l).Perm l
  | [] => List.Perm.refl _
  | x :: r => by
    unfold isort
    exact (insO_perm le x _).trans ((isort_perm le r).cons x)
theorem insO_pw {le : α → α → Bool} (O : Tot le) (x : α) : ∀ l : List α, l.Pairwise (fun a b => le a b = true) → (insO le x l).Pairwise fun a b => le a b = true
  | [], _ => by simp [insO]
  | y :: r, h => by
    unfold insO
    obtain ⟨h1, h2⟩ := List.pairwise_cons.mp h
    split
    · rename_i hx
      refine List.pairwise_cons.mpr ⟨fun z hz => ?_, h⟩
      rcases List.mem_cons.mp hz with rfl | hz
      · exact hx
      · exact O.trans _ _ _ hx (h1 z hz)
    · rename_i hx
      have hy : le y x = true := (O.tot x y).resolve_left hx
      refine List.pairwise_cons.mpr ⟨fun z hz => ?_, insO_pw O x r h2⟩
      rcases List.mem_cons.mp ((insO_perm le x r).mem_iff.mp hz) with rfl | hz
      · exact hy
      · exact h1 z hz
theorem isort_pw {le : α → α → Bool} (O : Tot le) : ∀ l : List α, (isort le l).Pairwise fun a b => le a b = true
  | [] => List.Pairwise.nil
  | x :: r => by
    unfold isort
    exact insO_pw O x _ (isort_pw O r)
theorem pw_uniq {le : α → α → Bool} (O : Tot le) : ∀ {l m : List α}, l.Pairwise (fun a b => le a b = true) → m.Pairwise (fun a b => le a b = true) → l.Perm m → l = m
  | [], m, _, _, h => (List.Perm.eq_nil h.symm).symm
  | x :: l, [], _, _, h => absurd h.length_eq (by simp)
  | x :: l, y :: m, hl, hm, h => by
    obtain ⟨a1, a2⟩ := List.pairwise_cons.mp hl
    obtain ⟨b1, b2⟩ := List.pairwise_cons.mp hm
    have e : x = y := by
      rcases List.mem_cons.mp (h.mem_iff.mp (List.mem_cons_self (a := x) (l := l))) with e | hx
      · exact e
      · rcases List.mem_cons.mp (h.mem_iff.mpr (List.mem_cons_self (a := y) (l := m))) with e | hy
        · exact e.symm
        · exact O.anti _ _ (a1 y hy) (b1 x hx)
    subst e
    rw [pw_uniq O a2 b2 (List.Perm.cons_inv h)]
theorem isort_uniq {le : α → α → Bool} (O : Tot le) {l m : List α} (h : m.Perm l) (hp : m.Pairwise fun a b => le a b = true) : m = isort le l :=
  pw_uniq O hp (isort_pw O l) (h.trans (isort_perm le l).symm)
end
abbrev leI (a b : Int) : Bool := decide (a ≤ b)
def leS (a b : Str) : Bool := !decide (b.cps.toList < a.cps.toList)
theorem tot_I : Tot leI := ⟨fun a b h1 h2 => by simp [leI] at h1 h2; omega, fun a b => by simp [leI]; omega, fun a b c h1 h2 => by simp [leI] at h1 h2 ⊢; omega⟩
theorem str_ext {a b : Str} (h : a.cps.toList = b.cps.toList) : a = b := by
  cases a; cases b
  simp only [PySem.Str.mk.injEq]
  exact Array.toList_inj.mp h
theorem tot_S : Tot leS := by
  refine ⟨fun a b h1 h2 => ?_, fun a b => ?_, fun a b c h1 h2 => ?_⟩
  · simp only [leS, Bool.not_eq_true', decide_eq_false_iff_not] at h1 h2
    exact str_ext (List.le_antisymm h1 h2)
  · simp only [leS, Bool.not_eq_true', decide_eq_false_iff_not]
    exact List.le_total a.cps.toList b.cps.toList
  · simp only [leS, Bool.not_eq_true', decide_eq_false_iff_not] at h1 h2 ⊢
    exact List.le_trans h1 h2
abbrev sortS (l : List Str) : List Str := isort leS l
abbrev sortI (l : List Int) : List Int := isort leI l
theorem ltCps_lt : ∀ (a b : List Nat), PySem.Spec.ltCps a b = decide (a < b)
  | [], [] => by simp [PySem.Spec.ltCps]
  | [], _ :: _ => by simp [PySem.Spec.ltCps]
  | _ :: _, [] => by simp [PySem.Spec.ltCps]
  | a :: r, b :: t => by
    unfold PySem.Spec.ltCps
    rw [ltCps_lt r t]
    have : (a :: r < b :: t) ↔ (a < b ∨ a = b ∧ r < t) := by rw [List.cons_lt_cons_iff]
    simp only [this]
    by_cases h1 : a < b <;> by_cases h2 : a = b <;> by_cases h3 : r < t <;> simp [h1, h2, h3]
theorem sortedS_pw : ∀ {l : List Str}, sortedS l = true → l.Pairwise fun a b => leS a b = true
  | [], _ => List.Pairwise.nil
  | x :: r, h => by
    have go : ∀ (r : List Str) (p : Str), risingS p r = true → (p :: r).Pairwise fun a b => leS a b = true := by
      intro r
      induction r with
      | nil => intro p _; exact List.pairwise_singleton _ _
      | cons y r ih =>
        intro p h
        unfold risingS at h
        rw [Bool.and_eq_true, ltCps_lt] at h
        have i := ih y h.2
        refine List.pairwise_cons.mpr ⟨fun z hz => ?_, i⟩
        rcases List.mem_cons.mp hz with rfl | hz
        · exact h.1
        · exact tot_S.trans _ _ _ h.1 ((List.pairwise_cons.mp i).1 z hz)
    exact go r x h
def keysI : List Key → Option (List Int)
  | [] => some []
  | .inl i :: r => (keysI r).map (i :: ·)
  | _ :: _ => none
def keysS : List Key → Option (List Str)
  | [] => some []
  | .inr i :: r => (keysS r).map (i :: ·)
  | _ :: _ => none
theorem keysI_spec : ∀ {ks : List Key} {ns : List Int}, keysI ks = some ns → ks = ns.map Sum.inl
  | [], ns, e => by simp [keysI] at e; subst e; rfl
  | .inl i :: r, ns, e => by
    simp only [keysI, Option.map_eq_some_iff] at e
    obtain ⟨z, e1, rfl⟩ := e
    rw [List.map_cons, keysI_spec e1]
  | .inr i :: r, ns, e => by simp [keysI] at e
theorem keysS_spec : ∀ {ks : List Key} {ns : List Str}, keysS ks = some ns → ks = ns.map Sum.inr
  | [], ns, e => by simp [keysS] at e; subst e; rfl
  | .inr i :: r, ns, e => by
    simp only [keysS, Option.map_eq_some_iff] at e
    obtain ⟨z, e1, rfl⟩ := e
    rw [List.map_cons, keysS_spec e1]
  | .inl i :: r, ns, e => by simp [keysS] at e
/-! ### lists of pairs of ints -/
def leP (a b : Int × Int) : Bool := decide (a.1 < b.1 ∨ (a.1 = b.1 ∧ a.2 ≤ b.2))
theorem tot_P : Tot leP := ⟨fun a b h1 h2 => by
    obtain ⟨a1, a2⟩ := a; obtain ⟨b1, b2⟩ := b
    simp only [leP, decide_eq_true_eq] at h1 h2
    have e1 : a1 = b1 := by omega
    have e2 : a2 = b2 := by omega
    rw [e1, e2], fun a b => by
    simp only [leP, decide_eq_true_eq]; omega, fun a b c h1 h2 => by
    simp only [leP, decide_eq_true_eq] at h1 h2 ⊢; omega⟩
def pr2D (p : Int × Int) : D := .tup [.int p.1, .int p.2]
def prs2D : List D → Option (List (Int × Int))
  | [] => some []
  | .tup [.int a, .int b] :: r => (prs2D r).map ((a, b) :: ·)
  | _ => none
theorem prs2D_eq : ∀ {ds : List D} {ps : List (Int × Int)}, prs2D ds = some ps → ds = ps.map pr2D
  | [], ps, e => by simp [prs2D] at e; subst e; rfl
  | .tup [.int a, .int b] :: r, ps, e => by
    simp only [prs2D, Option.map_eq_some_iff] at e
    obtain ⟨z, e1, rfl⟩ := e
    rw [prs2D_eq e1]
    rfl
  | d :: r, ps, e => by
    unfold prs2D at e
    split at e
    · rename_i q; cases q
    · rename_i a b r' q
      cases q
      simp only [Option.map_eq_some_iff] at e
      obtain ⟨z, e1, rfl⟩ := e
      rw [prs2D_eq e1]
      rfl
    · cases e
/-- the items are pairs of ints, these -/
def PrR (K : PySem.W.Frag) (H : Hp) : List V → List (Int × Int) → Prop
  | [], [] => True
  | x :: xs, p :: ps => (∃ t, x = V.ref t ∧ SqT K H t [V.int p.1, V.int p.2]) ∧ PrR K H xs ps
  | _, _ => False
def pkV (h : Heap) (u : Value) : Int × Int := match u with
  | .ref t => match h.get? t with
    | some o => match o.data with
      | .seq its _ => match its.toList with
        | [.int x _, .int y _] => (x, y)
        | _ => (0, 0)
      | _ => (0, 0)
    | none => (0, 0)
  | _ => (0, 0)
theorem prR_vals {X : Cx} {pins : List (Addr × Obj)} {σ : List (Option V)} {H : Hp} {s : Shared} (I : Inv X pins σ H s) : ∀ {xs : List V} {us : List Value} {ps : List (Int × Int)}, Vals xs us → PrR X.K H xs ps →
    xs.zip ps = us.map (fun u => (backV u, pkV s.heap u)) ∧ ∀ u ∈ us, Srt.IsPair s.heap u (pkV s.heap u).1 (pkV s.heap u).2
  | _, _, [], .nil, _ => ⟨rfl, fun u hu => absurd hu (by simp)⟩
  | _, _, p :: ps, .nil, h => False.elim h
  | x :: xs, u :: us, [], .cons r t, h => False.elim h
  | x :: xs, u :: us, p :: ps, .cons r t, h => by
    obtain ⟨⟨a, e, q⟩, h2⟩ := h
    subst e
    cases r
    obtain ⟨i1, i2⟩ := prR_vals I t h2
    obtain ⟨its, r2, ⟨o, ho, hc, n, hd⟩, _⟩ := I.tuple q
    obtain ⟨u1, u2, e3, ri, rj⟩ := vals2 r2
    obtain ⟨t1, rfl⟩ := ri
    obtain ⟨t2, rfl⟩ := rj
    subst e3
    have ek : pkV s.heap (.ref a) = (p.1, p.2) := by
      simp only [pkV, ho, hd]
    refine ⟨?_, fun v hv => ?_⟩
    · rw [List.zip_cons_cons, List.map_cons, i1, ek]
      rfl
    · rcases List.mem_cons.mp hv with e | hv
      · subst e
        rw [ek]
        exact ⟨a, o, t1, t2, n, rfl, ho, hc, hd⟩
      · exact i2 v hv
def rSortedPI (K : PySem.W.Frag) : List V → Hp → VK → Prop := fun vs H Q => ∃ (a : Addr) (xs : List V) (ps : List (Int × Int)), vs = [V.ref a] ∧ SqL K H a xs ∧ PrR K H xs ps ∧
  ∀ (zs : List (V × (Int × Int))) (p : Addr), zs.Perm (xs.zip ps) → (zs.map (·.2)).Pairwise (fun a b => leP a b = true) → H p = none → Q (.ref p) (upd H p (.lst (zs.map (·.1))))
theorem prR_refs {K : PySem.W.Frag} {H : Hp} : ∀ {xs : List V} {ps : List (Int × Int)}, PrR K H xs ps → ∀ x ∈ xs, ∃ a, x = V.ref a
  | [], [], _ => fun x hx => absurd hx (by simp)
  | [], p :: ps, h => False.elim h
  | x :: xs, [], h => False.elim h
  | x :: xs, p :: ps, h => fun y hy => by
    obtain ⟨⟨t, e, _⟩, h2⟩ := h
    rcases List.mem_cons.mp hy with e2 | hy
    · exact ⟨t, e2.trans e⟩
    · exact prR_refs h2 y hy
theorem call_sortedPI {X : Cx} : CallR X (.builtin "sorted") (rSortedPI X.K) := by
  intro pins s σ H vs us Q I r h
  obtain ⟨a, xs, ps, rfl, hs, hx, q⟩ := h
  obtain ⟨its, rv, hl, hz⟩ := I.list hs
  obtain ⟨u, rfl, ru⟩ := vals1 r
  obtain rfl : u = Value.ref a := ru
  obtain ⟨e1, e2⟩ := refs_back rv (prR_refs hx)
  obtain ⟨e3, e4⟩ := prR_vals I rv hx
  refine SrtO.sorted_pairsO (k := pkV s.heap) hl.isList (by rw [← rv.length]; exact hz) e4 fun h' d out h1 h2 kp hd hn => ?_
  have h3 : ∀ u ∈ out, ∃ a, u = Value.ref a := fun u hu => e2 u (h2.perm.mem_iff.mp hu)
  obtain ⟨n, hn⟩ := hn
  have em : ((out.map fun u => (backV u, pkV s.heap u)).map (·.1)) = out.map backV := by rw [List.map_map]; rfl
  have en : ((out.map fun u => (backV u, pkV s.heap u)).map (·.2)) = out.map (pkV s.heap) := by rw [List.map_map]; rfl
  have qq := q (out.map fun u => (backV u, pkV s.heap u)) d (by rw [e3]; exact h2.perm.map _) (by
    rw [en, List.pairwise_map]
    refine List.Pairwise.imp (fun {x y} hxy => ?_) h1
    have z := SrtO.lexB_no.mp hxy
    simp only [leP, decide_eq_true_eq]
    omega) (I.hok.fresh hd)
  rw [em] at qq
  refine ⟨.ref d, upd H d (.lst (out.map backV)), I.laid (t' := s.toks) kp hd ⟨?_, out, n, vals_back h3, hn⟩, rfl, qq⟩
  rw [List.length_map, h2.perm.length_eq, ← rv.length]
  exact hz
/-- data lists of pairs -/
theorem prR_of {K : PySem.W.Frag} {ω : Wo} : ∀ {ps : List (Int × Int)} {us : List V}, RelL K ω (ps.map pr2D) us → PrR K ω.H us ps ∧ ∀ z ∈ us.zip ps, RelD K ω (pr2D z.2) z.1
  | [], us, r => by
    obtain rfl := r.inv0
    exact ⟨trivial, fun z hz => absurd hz (by simp)⟩
  | p :: ps, us, r => by
    rw [List.map_cons] at r
    obtain ⟨v, ws, rfl, e2, e3⟩ := r.inv
    obtain ⟨i1, i2⟩ := prR_of e3
    have e2' := e2
    unfold pr2D at e2
    obtain ⟨t, us', e4, e5, e6⟩ := rd_tup e2
    obtain ⟨v1, w1, rfl, f1, f2⟩ := e6.inv
    obtain ⟨v2, w2, rfl, f3, f4⟩ := f2.inv
    obtain rfl := f4.inv0
    unfold RelD at f1 f3
    subst f1 f3
    refine ⟨⟨⟨t, e4, e5⟩, i1⟩, fun z hz => ?_⟩
    rw [List.zip_cons_cons] at hz
    rcases List.mem_cons.mp hz with e | hz
    · subst e; exact e2'
    · exact i2 z hz
theorem relL_zip {K : PySem.W.Frag} {ω : Wo} : ∀ {zs : List (V × (Int × Int))}, (∀ z ∈ zs, RelD K ω (pr2D z.2) z.1) → RelL K ω ((zs.map (·.2)).map pr2D) (zs.map (·.1))
  | [], _ => RelL.nil
  | z :: zs, h => by
    rw [List.map_cons, List.map_cons, List.map_cons]
    exact RelL.cons (h z List.mem_cons_self) (relL_zip fun y hy => h y (List.mem_cons_of_mem _ hy))
/-- sorted(x): what comes out -/
def sortX (h : Hc) (d : D) : Option (List D) := match rdlD h d with
  | some ys => match strsD ys with
    | some ss => if ss.length < 64 then some ((sortS ss).map D.str) else none
    | none => match intsD ys with
      | some ns => some ((sortI ns).map D.int)
      | none => match prs2D ys with
        | some ps => some ((isort leP ps).map pr2D)
        | none => none
  | none => match dctD h d with
    | some (ks, _) => match keysS ks with
      | some ss => if ss.length < 64 then some ((sortS ss).map D.str) else none
      | none => match keysI ks with
        | some ns => if ns.length < 64 then some ((sortI ns).map D.int) else none
        | none => none
    | none => match d with
      | .tup zs => match intsD zs with
        | some ns => some ((sortI ns).map D.int)
        | none => none
      | _ => none
def sortF (xs : List D) (h : Hc) : R D := match xs with
  | [d] => match sortX h d with
    | some ys => .ok (.lst ys) h
    | none => .bad
  | _ => .bad
def sortC (xs : List D) (h : Hc) : R D := match xs with
  | [d] => match sortX h d with
    | some ys => .ok (.ref h.length) (h ++ [.lst ys])
    | none => .bad
  | _ => .bad
/-- sorted(t), a tuple of ints -/
theorem call_sortedTI {X : Cx} : CallR X (.builtin "sorted") (fun xs H Q => ∃ (a : Addr) (ns : List Int), xs = [V.ref a] ∧ SqT X.K H a (ns.map V.int) ∧
    ∀ (ns' : List Int) (p : Addr), ns'.Perm ns → ns'.Pairwise (· ≤ ·) → H p = none → Q (.ref p) (upd H p (.lst (ns'.map V.int)))) := by
  intro pins s σ H xs us Q I r q
  obtain ⟨a, ns, ex, hs, q⟩ := q
  subst ex
  obtain ⟨its, rv, ⟨o, ho, hc, n, hd⟩, hz⟩ := I.tuple hs
  rw [Vals.ref1 r]
  have hi := rv.ints
  have hzl : its.length ≤ sizeLine := by rw [← rv.length]; exact hz
  refine Calls.call_function_entry PyProof.Rows.kind_sorted PyProof.Rows.plain_sorted PyProof.Rows.entry_sorted (PyProof.Rows.args_sorted1 _) ?_
  unfold Builtin.«sorted»
  refine wpAny_bind (m := checkCount "sorted" 1 1 _) (wpAny_pure ?_)
  refine wpAny_bind (wpAny_collect_seq a (.inr rfl) ho hc hd (fun h' hk => ?_) (by simpa using hzl))
  have e0 : its.toArray.toList = its := by simp
  rw [e0]
  have I1 : Inv X pins σ H { s with heap := h' } := I.kept (t' := s.toks) hk
  refine wpAny_bind (wpAny_newList ?_ hzl)
  have hoL : (h'.push (PyProof.Rows.seqObj "list" its.toArray 0)).get? h'.objs.size = some (PyProof.Rows.seqObj "list" its.toArray 0) := Heap.get?_push_size _ rfl
  show wpAny _ _ _ _ _ { s with heap := h'.push (PyProof.Rows.seqObj "list" its.toArray 0) }
  refine wpAny_bind (wpAny_holding (wpAny_call_entry PyProof.Rows.slot_list_sort ⟨_, hoL, rfl⟩ PyProof.Rows.entry_list_sort
    (SrtO.list_sort_ord (s := { s with heap := h'.push (PyProof.Rows.seqObj "list" its.toArray 0) }) SrtO.swo_int hoL hzl (fun h2 => SrtO.ints_sortable hi h2) fun out g1 g2 => ⟨_, rfl, ?_⟩) (PyProof.Rows.args_list_sort _)))
  obtain ⟨k1, k2, k3⟩ := SrtO.ints_out hi g1 g2
  obtain ⟨e', he'⟩ := PyProof.Rows.sortedHeap_at (vs := its) (out := out.toArray) hoL
  have hlen : ((out.map SrtO.iv).map V.int).length ≤ sizeLine := by
    rw [List.length_map, k2.length_eq]
    rw [List.length_map] at hz
    exact hz
  refine wpAny_pure ⟨_, rfl, .ref h'.objs.size, upd H h'.objs.size (.lst ((out.map SrtO.iv).map V.int)), I1.laid (t' := s.toks) (fun b u e => ?_) (Nat.le_refl _)
    (show ObjOk X.prog X.w _ _ _ (.lst ((out.map SrtO.iv).map V.int)) from ⟨hlen, out, e', vals_of_ints k1, he'⟩), rfl, q _ _ k2 k3 (I1.hok.fresh (Nat.le_refl _))⟩
  have hb : b < h'.objs.size := Heap.lt_size e
  rw [PyProof.Rows.sortedHeap_old (Nat.ne_of_lt hb) (by rw [size_push']; exact Nat.lt_succ_of_lt hb)]
  exact Heap.get?_push_of_some _ e
def rSortA (X : Cx) : List V → Hp → VK → Prop := fun xs H Q => rSortedS X.K xs H Q ∨ rSortedI X.K xs H Q ∨ (∃ (a : Addr) (kvs : List (Key × V)) (ks : List Str), xs = [.ref a] ∧ Rd H a (.dK kvs) ∧ kvs.map (·.1) = ks.map Sum.inr ∧ ks.length < 64 ∧
    ∀ ys p, ys.Perm ks → sortedS ys = true → H p = none → Q (.ref p) (upd H p (.lst (ys.map V.str)))) ∨ (∃ (a : Addr) (kvs : List (Key × V)) (ks : List Int), xs = [.ref a] ∧ Rd H a (.dK kvs) ∧ kvs.map (·.1) = ks.map Sum.inl ∧ ks.length < 64 ∧
    ∀ (ns' : List Int) p, ns'.Perm ks → ns'.Pairwise (· ≤ ·) → H p = none → Q (.ref p) (upd H p (.lst (ns'.map V.int)))) ∨ (∃ (a : Addr) (ns : List Int), xs = [V.ref a] ∧ SqT X.K H a (ns.map V.int) ∧
    ∀ (ns' : List Int) (p : Addr), ns'.Perm ns → ns'.Pairwise (· ≤ ·) → H p = none → Q (.ref p) (upd H p (.lst (ns'.map V.int)))) ∨ rSortedPI X.K xs H Q
theorem call_sortA {X : Cx} (hc : X.calm = true) : CallR X (.builtin "sorted") (rSortA X) := cr_or cr_sortedS (cr_or cr_sortedI (cr_or (call_sortedD hc) (cr_or (call_sortedDI hc) (cr_or call_sortedTI call_sortedPI))))
/-- the rule gives the one sorted list -/
theorem sort_w {K : PySem.W.Frag} {ω : Wo} {h : Hc} {d : D} {v : V} {ys : List D} (X : Cx) (hK : X.K = K) {Q : VK} (r : Rel K ω h) (q : sortX h d = some ys) (x : RelD K ω d v)
    (p : ∀ (a : Addr) (ws : List V), ω.H a = none → RelL K ω ys ws → Q (.ref a) (upd ω.H a (.lst ws))) : rSortA X [v] ω.H Q := by
  subst hK
  unfold sortX at q
  split at q
  · rename_i zs q1
    obtain ⟨a, us, rfl, e2, e3⟩ := rdlD_rel r q1 x
    split at q
    · rename_i ss q2
      split at q
      · rename_i hl
        cases q
        have ez : zs = ss.map D.str := strsD_eq q2
        rw [ez] at e3
        have eu := e3.strs
        subst eu
        refine .inl ⟨a, ss, rfl, e2, hl, fun zs p' hp hs hn => ?_⟩
        rw [isort_uniq tot_S hp (sortedS_pw hs)]
        exact p p' _ hn (RelL.of_strs _)
      · cases q
    · split at q
      · rename_i ns q3
        cases q
        have ez : zs = ns.map D.int := intsD_eq q3
        rw [ez] at e3
        have eu := e3.ints
        subst eu
        refine .inr (.inl ⟨a, ns, rfl, e2, fun ns' p' hp hs hn => ?_⟩)
        rw [isort_uniq tot_I hp (hs.imp fun h => by simpa [leI] using h)]
        exact p p' _ hn (RelL.of_ints _)
      · split at q
        · rename_i ps q4
          cases q
          rw [prs2D_eq q4] at e3
          obtain ⟨f1, f2⟩ := prR_of e3
          refine .inr (.inr (.inr (.inr (.inr ⟨a, us, ps, rfl, e2, f1, fun zs p' hp hs hn => ?_⟩))))
          have el : us.length = ps.length := by have := e3.len; simpa using this.symm
          have ez : (zs.map (·.2)) = isort leP ps := isort_uniq tot_P (by
            have h2 := hp.map (·.2)
            rwa [List.map_snd_zip (by omega)] at h2) hs
          rw [← ez] at p
          exact p p' _ hn (relL_zip fun z hz => f2 z (hp.mem_iff.mp hz))
        · cases q
  · split at q
    · rename_i ks xs q2
      obtain ⟨a, us, rfl, e2, e3, e4⟩ := dctD_rel r q2 x
      have kv : (ks.zip us).map (·.1) = ks := by
        rw [List.map_fst_zip]
        rw [e3]; exact Nat.le_refl _
      split at q
      · rename_i ss q3
        split at q
        · rename_i hl
          cases q
          refine .inr (.inr (.inl ⟨a, _, ss, rfl, .inl e2, kv.trans (keysS_spec q3), hl, fun zs p' hp hs hn => ?_⟩))
          rw [isort_uniq tot_S hp (sortedS_pw hs)]
          exact p p' _ hn (RelL.of_strs _)
        · cases q
      · split at q
        · rename_i ns q4
          split at q
          · rename_i hl
            cases q
            refine .inr (.inr (.inr (.inl ⟨a, _, ns, rfl, .inl e2, kv.trans (keysI_spec q4), hl, fun ns' p' hp hs hn => ?_⟩)))
            rw [isort_uniq tot_I hp (hs.imp fun h => by simpa [leI] using h)]
            exact p p' _ hn (RelL.of_ints _)
          · cases q
        · cases q
    · split at q
      · rename_i zs
        split at q
        · rename_i ns q3
          cases q
          obtain ⟨a, us, rfl, e2, e3⟩ := rd_tup x
          rw [intsD_eq q3] at e3
          have eu := e3.ints
          subst eu
          refine .inr (.inr (.inr (.inr (.inl ⟨a, ns, rfl, e2, fun ns' p' hp hs hn => ?_⟩))))
          rw [isort_uniq tot_I hp (hs.imp fun h => by simpa [leI] using h)]
          exact p p' _ hn (RelL.of_ints _)
        · cases q
      · cases q
theorem cd_sort {X : Cx} : CallD X (rSortA X) sortF := fun W σ ω h xs vs Q r rx p => by
  unfold sortF at p
  split at p
  · rename_i d
    obtain ⟨v, ws, rfl, e2, e3⟩ := rx.inv
    rw [e3.inv0]
    split at p
    · rename_i ys q
      exact sort_w X rfl r q e2 fun a us hn rl => p (.ref a) (ω.up a (.lst us)) (Ext.up hn) (r.up hn) (fz_new r hn rl)
    · exact False.elim p
  · exact False.elim p
/-! ### the signs of a text -/
def sgnD (x : Str) : List D := x.cps.toList.map fun c => .str ⟨#[c]⟩
def iSgn (m : SE) : SI := fun ds h => (m ds h).bd fun d h1 => match d with
  | .str x => .ok ⟨sgnD x, fun _ => true⟩ h1
  | _ => .bad
end Mp
/-! LayX: exceptions of own classes over Exception, their making. -/
namespace Mp
open PySem PySem.Spec PyProof.Rows L2
def exT : List Value := [.type "Exception", .type "BaseException", .type "object"]
/-- own classes, then those of Exception -/
def refsE : List Value → Bool
  | .ref _ :: r => refsE r
  | l => l == exT
theorem refsE_ind {P : List Value → Prop} (h0 : P exT) (h1 : ∀ c r, P r → P (.ref c :: r)) : ∀ l, refsE l = true → P l
  | [], e => absurd e (by decide)
  | a :: r, e => by
    cases a with
    | ref c => exact h1 c r (refsE_ind h0 h1 r e)
    | _ => (have z := (beq_iff_eq (α := List Value)).mp e); (first | (rw [z]; exact h0) | (exact absurd z (by simp [exT])))
theorem refsE_pass (self : Value) : ∀ l, refsE l = true → refuseLoop self "__setattr__" l = pure () :=
  refsE_ind (F.store_Exception.passes self) fun c r h => by rw [refuseLoop_ref]; exact h
theorem refsE_has (X : String) : ∀ l : List Value, refsE l = true → l.contains (.type X) = exT.contains (.type X) :=
  refsE_ind rfl fun c r h => by rw [List.contains_cons, h]; rfl
theorem refsE_ne : ∀ l : List Value, refsE l = true → l.isEmpty = false := refsE_ind rfl fun _ _ _ => rfl
section
open Builtin Builtin.ObjectAttr
variable {prog : Program} {w : World} {A : Around} {R : Result → Shared → Prop} {hp : Heap} {g : Array GenState} {d : Drawn} {t : Nat} {os : OsState}
/-- the walk to the exception's own dict -/
theorem xset_walk {K : W.Frag} {name : Str} {tk : Tok} {v : Value} {x C : Addr} {ox : Obj} {od : Option Obj} {cd : ClassData}
    (X : K.In hp) (I : W.InstAt hp x ox C od) (hcd : W.clsIn K C = some cd) (hm : refsE cd.mro = true) (ha : W.findIn K (.ref C) name = some none)
    (hq : wpAny (model prog w) A.in1 (storeInOwnDict (.ref x) (.ref C) (.str name tk) name v false)
      (fun fin s' => match fin with | .done f => R (.ok f) s' | .again c' => c'.quiet = true ∧ codeAny (model prog w) A c' R s') (fun e s' => R (.error e) s') ⟨hp, g, d, t, os⟩) :
    codeAny (model prog w) A (.call (.builtin "object.__setattr__") ⟨[.ref x, .str name tk, v], []⟩) R ⟨hp, g, d, t, os⟩ := by
  have SF := F.store_object
  have hob : cd.mro.contains (.type "object") = true := (refsE_has "object" _ hm).trans (by decide +kernel)
  have hmro : W.mroIn K C (.type "object") = some true := by
    unfold W.mroIn
    rw [hcd, Option.bind_some, if_neg (by rw [refsE_ne _ hm]; decide), hob]
  have sub : W.Looks (model prog w) hp (isInstance (.ref x) (.type "object")) true := I.type.andThen (W.looks_mroIn X hmro)
  refine codeAny_call_builtin SF.slot.plain SF.entry (@W.check_slot (model prog w) _ _ ⟨hp, g, d, t, os⟩ "object.__setattr__" "object" "__setattr__" (.ref x) [.str name tk, v] [] _ SF.kind SF.split sub (SF.args (.ref x) (.str name tk) v) ?_)
  have hmr : W.Looks (model prog w) hp (mroOf (.ref C)) cd.mro := (W.looks_clsIn X hcd).andThen .now
  have L3 : W.Looks (model prog w) hp (storeTaker? none) none := .now
  rw [W.osa_eq, refuse_eq]
  refine wpAny_bind (wpAny_bind (I.type.at (wpAny_bind (hmr.at ?_))))
  rw [refsE_pass _ _ hm]
  exact wpAny_pure (wpAny_bind (I.type.at (wpAny_bind ((W.looks_findIn X ha).at (wpAny_bind (L3.at hq))))))
theorem xset_new {K : W.Frag} {name : Str} {tk : Tok} {v : Value} {x C : Addr} {fv : Array Value} {cd : ClassData}
    (X : K.In hp) (hx : hp.get? x = some { cls := .ref C, data := .fields fv }) (hcd : W.clsIn K C = some cd) (hm : refsE cd.mro = true) (hh : cd.hasDict = true) (ha : W.findIn K (.ref C) name = some none)
    (hq : ∀ h' tk' dx, (∀ b o, b ≠ x → hp.get? b = some o → h'.get? b = some o) → hp.objs.size ≤ dx → dx ≠ x → h'.get? x = some { cls := .ref C, dict := some dx, data := .fields fv } →
      h'.Ns1 dx (fun y => if y = name then some v else none) → R (.ok (.ret .none)) ⟨h', g, d, tk', os⟩) :
    codeAny (model prog w) A (.call (.builtin "object.__setattr__") ⟨[.ref x, .str name tk, v], []⟩) R ⟨hp, g, d, t, os⟩ := by
  have hxs : x ≠ hp.objs.size := Nat.ne_of_lt (Heap.lt_size hx)
  refine xset_walk X (⟨hx, rfl, rfl, trivial⟩ : W.InstAt hp x { cls := .ref C, data := .fields fv } C none) hcd hm ha ?_
  have hcls : W.Looks (model prog w) hp (classData C) cd := W.looks_clsIn X hcd
  obtain ⟨nm, bs, mro, ns, qn, hd, sn, sb, ab, col, del⟩ := cd
  dsimp only at hh
  subst hh
  unfold storeInOwnDict ownDictForStores
  repeat (first | with_reducible refine HandSPX.store_in_new ?_ ?_ | with_reducible refine wpAny_loadPart_at hx ?_ | with_reducible refine hcls.at ?_ | wp_step)
  · exact ⟨_, #[], _, (Heap.get?_update_ne _ _ _ _ hxs.symm).trans (Heap.get?_push_at rfl rfl), rfl, fun e he => absurd he (by simp), fun _ => rfl⟩
  · intro h' tk' hn' hs
    have hx₁ : (hp.push { cls := .type "dict", data := .dict #[] }).get? x = some { cls := .ref C, data := .fields fv } := Heap.get?_push_of_some _ hx
    refine hq h' tk' hp.objs.size (fun b o hb ho => ?_) (Nat.le_refl _) hxs.symm ?_ hn'
    · exact (hs.2 b (Nat.ne_of_lt (Heap.lt_size ho))).trans ((Heap.get?_update_ne _ _ _ _ hb).trans (Heap.get?_push_of_some _ ho))
    · exact (hs.2 x hxs).trans (Heap.get?_update_self _ hx₁ rfl)
theorem xset_old {K : W.Frag} {name : Str} {tk : Tok} {v : Value} {x C dx : Addr} {fv : Array Value} {cd : ClassData} {m0 : Str → Option Value} {nl : List Str}
    (X : K.In hp) (hx : hp.get? x = some { cls := .ref C, dict := some dx, data := .fields fv }) (hns : hp.Ns1 dx m0) (hw : Within m0 nl) (hz : nl.length ≤ 1000) (hcd : W.clsIn K C = some cd) (hm : refsE cd.mro = true) (hh : cd.hasDict = true)
    (ha : W.findIn K (.ref C) name = some none)
    (hq : ∀ h' tk', (∀ b o, b ≠ dx → hp.get? b = some o → h'.get? b = some o) → h'.Ns1 dx (fun y => if y = name then some v else m0 y) → R (.ok (.ret .none)) ⟨h', g, d, tk', os⟩) :
    codeAny (model prog w) A (.call (.builtin "object.__setattr__") ⟨[.ref x, .str name tk, v], []⟩) R ⟨hp, g, d, t, os⟩ := by
  obtain ⟨oD, esD, epD, hoD, hdD, _⟩ := hns.count hw
  refine xset_walk X (⟨hx, rfl, rfl, hoD⟩ : W.InstAt hp x { cls := .ref C, dict := some dx, data := .fields fv } C (some oD)) hcd hm ha ?_
  have hcls : W.Looks (model prog w) hp (classData C) cd := W.looks_clsIn X hcd
  obtain ⟨nm, bs, mro, ns, qn, hd, sn, sb, ab, col, del⟩ := cd
  dsimp only at hh
  subst hh
  unfold storeInOwnDict ownDictForStores
  repeat (first | with_reducible refine ESX.store_in_old hns hw hz ?_ | with_reducible refine wpAny_loadPart_at hx ?_ | with_reducible refine hcls.at ?_ | wp_step)
  intro h' tk' hn' hs
  exact hq h' tk' (fun b o hb ho => (hs.2 b hb).trans ho) hn'
end
/-- what the written part says of such a class -/
structure ExM (K : PySem.W.Frag) (C : Addr) : Prop where
  cls : ∃ nm q N bs bm sn sub ab col dd k0 k1 k2 k3 k5, K.lookup C = some (excClassObj nm q C N bs bm true sn sub ab col dd k0 k1 k2 k3 k5 "Exception.__new__") ∧ refsE bm = true
  sa : PySem.W.findIn K (.ref C) "__setattr__" = some (some (.builtin "object.__setattr__"))
  exC : PySem.W.subIn K (.ref C) (.type "BaseException") = some true
  tyC : PySem.W.typeIn K (.ref C) = some (.type "type")
  kC : PySem.W.keepIn K (.ref C) = true
section
variable {X : Cx} {pins : List (Addr × Obj)} {σ : L2.St} {H : Hp} {s : Shared} {a C dx : Addr} {f : Str} {y : V} {u : Value} {fs : List (Str × V)} {Q : Unit → Shared → Prop} {E : Value → Shared → Prop} {A : Around}
/-- self.f = y, the first one -/
theorem xst_new (T : ExM X.K C) (I : Inv X pins σ H s) (e : H a = some (exo a C none)) (hno : PySem.W.findIn X.K (.ref C) f = some none) (ry : RelV y u)
    (h : ∀ dx s', H dx = none → dx ≠ a → Inv X pins σ (upd (upd H dx (exd dx [(f, y)])) a (exo a C (some dx))) s' → Q () s') : wpAny (model X.prog X.w) A (setAttr (.ref a) f u) Q E s := by
  obtain ⟨nm, q, N, bs, bm, sn, sub, ab, col, dd, k0, k1, k2, k3, k5, hC, hbm⟩ := T.cls
  have hcl : PySem.W.clsIn X.K C = some { name := nm, bases := bs, mro := .ref C :: bm, ns := N, qualname := q, hasDict := true, slotNames := sn, subclasses := sub, abstract := ab, collection := col, hasDel := false } := by unfold PySem.W.clsIn; rw [hC] <;> rfl
  obtain ⟨t1, ho⟩ := exo_at I.hok e
  obtain ⟨hp, g, d, t, os⟩ := s
  refine PySem.W.set_plain I.kIn (ox := { cls := .ref C, dict := none, data := .fields #[.ref t1, .none, .none, .none, .bool false, .none] }) (od := none) ⟨ho, rfl, rfl, trivial⟩ T.sa ?_
  refine xset_new I.kIn ho hcl (show refsE (.ref C :: bm) = true from hbm) rfl hno (fun h' tk' dx k dn dne hx hn => ?_)
  have hnd : H dx = none := I.hok.fresh dn
  have nd : ∀ {b : Addr} {o : Obj}, hp.get? b = some o → b ≠ dx := fun {b o} q => Nat.ne_of_lt (Nat.lt_of_lt_of_le (Heap.lt_size q) dn)
  have na : ∀ {b : Addr}, H b = none → b ≠ a := fun {b} n z => by
    rw [z, e] at n
    cases n
  have Un1 : Un X.fs [] H (upd (upd H dx (exd dx [(f, y)])) a (exo a C (some dx))) hp h' := {
    keep := fun b o q n _ _ => k b o (na n) q
    slot := fun b o q n _ _ => ⟨o.slots, k b o (na n) q⟩
    free := fun b o q n _ => by rw [upd_ne (na n), upd_ne (nd q)]; exact n
    there := fun b o q _ => by
      by_cases hb : b = a
      · exact ⟨_, by rw [hb]; exact hx⟩
      · exact ⟨o, k b o hb q⟩
    tups := fun b xs q => by rw [upd_ne (at_ne e q exo_tup), upd_ne (ne_of_none q hnd)]; exact q
    frzs := fun b o v q => by rw [upd_ne (at_ne e q exo_frz), upd_ne (ne_of_none q hnd)]; exact q
    tbls := fun b ps q => ⟨#[], by rw [upd_ne (at_ne e q exo_tbl), upd_ne (ne_of_none q hnd), q]; simp⟩ }
  refine h dx _ hnd dne (I.un (t' := tk') Un1 fun b o q => ?_)
  by_cases hb : b = a
  · subst hb
    rw [upd_same] at q
    cases q
    exact exo_ok hx
  · rw [upd_ne hb] at q
    by_cases hd : b = dx
    · subst hd
      rw [upd_same] at q
      cases q
      exact exd_ok hn (relO_put (fs := []) ry fun g => True.intro)
    · rw [upd_ne hd] at q
      exact (I.hok b o q).stay (fun c v hc z => k c v (by
          rcases hc with hc | hc
          · rw [hc]
            exact hb
          · exact at_ne e hc exo_own) z)
        (fun c hc => by rw [upd_ne (at_ne e hc exo_own), upd_ne (ne_of_none hc hnd)]; exact hc) (fun c xs hc => by rw [upd_ne (at_ne e hc exo_tup), upd_ne (ne_of_none hc hnd)]; exact hc)
/-- self.f = y, a further one -/
theorem xst_old (T : ExM X.K C) (I : Inv X pins σ H s) (e : H a = some (exo a C (some dx))) (ed : H dx = some (exd dx fs)) (hl : fs.length ≤ 900) (hno : PySem.W.findIn X.K (.ref C) f = some none) (ry : RelV y u)
    (h : ∀ s', Inv X pins σ (upd H dx (exd dx ((f, y) :: fs))) s' → Q () s') : wpAny (model X.prog X.w) A (setAttr (.ref a) f u) Q E s := by
  obtain ⟨nm, q, N, bs, bm, sn, sub, ab, col, dd, k0, k1, k2, k3, k5, hC, hbm⟩ := T.cls
  have hcl : PySem.W.clsIn X.K C = some { name := nm, bases := bs, mro := .ref C :: bm, ns := N, qualname := q, hasDict := true, slotNames := sn, subclasses := sub, abstract := ab, collection := col, hasDel := false } := by unfold PySem.W.clsIn; rw [hC] <;> rfl
  obtain ⟨t1, ho⟩ := exo_at I.hok e
  obtain ⟨mA, hns, rel⟩ := exd_at I.hok ed
  have hw := within_of rel
  obtain ⟨hp, g, d, t, os⟩ := s
  obtain ⟨oD, _, _, hoD, _, _⟩ := hns.count hw
  refine PySem.W.set_plain I.kIn (ox := { cls := .ref C, dict := some dx, data := .fields #[.ref t1, .none, .none, .none, .bool false, .none] }) (od := some oD) ⟨ho, rfl, rfl, hoD⟩ T.sa ?_
  refine xset_old I.kIn ho hns hw (by rw [List.length_map]; omega) hcl (show refsE (.ref C :: bm) = true from hbm) rfl hno (fun h' tk' k hn => ?_)
  have hd : ∃ o, h'.get? dx = some o := by
    obtain ⟨o, _, _, e', _⟩ := hn
    exact ⟨o, e'⟩
  exact h _ (I.write (t' := tk') (x := dx) (e := dx) (o := exd dx ((f, y) :: fs)) (by rw [ed]; exact True.intro) (.inl rfl) k hd (exd_ok hn (relO_put ry rel)))
end
/-- self.f = e -/
def tXst (K : PySem.W.Frag) (f : Str) (to te : TE) : TS := fun D σ H => te σ H fun y H1 => to σ H1 fun x H2 => ∃ a C : Addr, x = .ref a ∧ ExM K C ∧ PySem.W.findIn K (.ref C) f = some none ∧
  ((H2 a = some (exo a C none) ∧ ∀ dx, H2 dx = none → dx ≠ a → D.nx σ (upd (upd H2 dx (exd dx [(f, y)])) a (exo a C (some dx)))) ∨
    ∃ (dx : Addr) (fs : List (Str × V)), H2 a = some (exo a C (some dx)) ∧ H2 dx = some (exd dx fs) ∧ fs.length ≤ 900 ∧ D.nx σ (upd H2 dx (exd dx ((f, y) :: fs))))
theorem ps_xst {X : Cx} {o e : Expr} {to te : TE} {f : Str} {p' pos : Pos} (ho : PE X o to) (he : PE X e te) (hs : swapsWith e (some (.Attribute o f p')) pos.line X.env = pure false := by rfl) : PS X (.Assign [.Attribute o f p'] e pos) (tXst X.K f to te) := by
  refine ⟨fun pins s σ H D I h => ?_⟩
  refine plainObj_wpAny_Assign_Attribute (thn (he.run pins s σ H _ I h) fun v s1 ⟨y, H1, I1, r1, q1⟩ => thn (ho.run pins s1 σ H1 _ I1 q1) fun u s2 ⟨x, H2, I2, r2, a, C, ex, T, hno, q⟩ => ?_) hs
  subst ex
  obtain rfl : u = Value.ref a := r2
  rcases q with ⟨ea, q⟩ | ⟨dx, fs, ea, ed, hl, q⟩
  · exact xst_new T I2 ea hno r1 fun dx s' n ne J => ⟨σ, _, J, q dx n ne⟩
  · exact xst_old T I2 ea ed hl hno r1 fun s' J => ⟨σ, _, J, q⟩
/-- C(e, ..), C's own __init__ keeping sp -/
theorem pmk_x {X : Cx} {e : Expr} {es : List Expr} {ta : TA} {p pos : Pos} {CX : CXT} {x : Str} {C fI : Addr} {k : Nat} {fd : FuncData} {ps : List Str} {sp : Sp} (T : ExM X.K C) (iC : PySem.W.findIn X.K (.ref C) "__init__" = some (some (.ref fI))) (tI : PySem.W.typeIn X.K (.ref fI) = some (.type "function"))
    (F1 : FnOk X.prog X.w X.K X.mg X.base CX k fI fd ps sp) (hr : Room (k + 1) X.A) (hb : Binds X.K fd ps []) (hx : Passes CX X (fun _ _ _ => False)) (hg : Gl X x) (hm : X.mg x = some (.ref C)) (ha : PA X (e :: es) ta)
    (hdb : (x == ("__debug__" : Str)) = false := by decide) (he : starEach (e :: es) X.env = (false, eval e X.env) :: starEach es X.env := by rfl) (hpl : (backTo pos (starEach es X.env)).any (·.1) = false := by rfl) :
    PMk X (.Call (.Name x p) (e :: es) [] pos) (tMkO C sp [] ta) := by
  intro pins s σ H Q I h
  obtain ⟨nm, q, N, bs, bm, sn, sub, ab, col, dd, k0, k1, k2, k3, k5, hC, hbm⟩ := T.cls
  refine wpAny_Call_Name_kw (ld_glob I hg hm ?_ hdb)
  refine PySem.W.callWith_K (h₀ := X.base) I.ok.mod.kin T.kC (thn (ha.run pos pins s σ H _ I h) fun us s1 ⟨vs, H1, I1, r1, hz, q1⟩ => ⟨I1.kIn, ?_⟩) he hpl
  show wpAny _ _ (call (.ref C) us) _ _ _
  obtain ⟨hp, g, dr, tk, os⟩ := s1
  have hsz : hp.objs.size ≤ hp.objs.size + 1 := Nat.le_succ _
  have hn : H1 (hp.objs.size + 1) = none := I1.hok.fresh hsz
  have hq := q1 (hp.objs.size + 1) hn
  have kk : ∀ b o, hp.get? b = some o → ((hp.push (PySem.W.kdv_tup us)).push (PySem.HandSPX.excO C hp.objs.size)).get? b = some o := fun b o e => Heap.get?_push_of_some _ (Heap.get?_push_of_some _ e)
  have hget : ((hp.push (PySem.W.kdv_tup us)).push (PySem.HandSPX.excO C hp.objs.size)).get? (hp.objs.size + 1) = some (PySem.HandSPX.excO C hp.objs.size) := by heap_get
  have I2 : Inv X pins σ (upd H1 (hp.objs.size + 1) (exo (hp.objs.size + 1) C none)) ⟨(hp.push (PySem.W.kdv_tup us)).push (PySem.HandSPX.excO C hp.objs.size), g, dr, tk, os⟩ :=
    I1.laid (t' := tk) (a := hp.objs.size + 1) (o := exo (hp.objs.size + 1) C none) (h' := (hp.push (PySem.W.kdv_tup us)).push (PySem.HandSPX.excO C hp.objs.size)) kk hsz (exo_ok hget)
  have r2 : Vals (V.ref (hp.objs.size + 1) :: (vs ++ [])) (Value.ref (hp.objs.size + 1) :: (us ++ [])) := .cons rfl (r1.append .nil)
  have hl : (Value.ref (hp.objs.size + 1) :: us ++ []).length = ps.length := by
    have e := r2.length
    rw [F1.len _ _ _ _ hq] at e
    exact e.symm
  have hus : us.length ≤ sizeLine := by
    rw [← Paired.length r1, sizeLine_eq]
    omega
  have hbb := hb _ (Value.ref (hp.objs.size + 1) :: us) I2.kIn hl
  rw [List.cons_append] at hbb
  refine wpAny_call (PySem.HandSPX.call_own F.excBase_Exception (fun Y => refsE_has Y bm hbm) (I1.kIn _ _ hC) (PySem.W.looks_findIn I1.kIn iC) (fun self => PySem.W.bind_fn I1.kIn self tI) hus
    (codeAny_mono (F1.run _ X.stack _ _ ⟨Value.ref (hp.objs.size + 1) :: us, []⟩ (Value.ref (hp.objs.size + 1) :: (us ++ [])) _ _ (fun _ _ _ => False) (hr.make C us []) (I2.env0.make C us []) hbb r2 hq) fun r s' hq' => ?_))
  cases r with
  | error er => exact hx pins σ _ _ er s' I2 hq'
  | ok fl =>
    cases fl with
    | ret u =>
      obtain ⟨v, H2, os2, bare2, un2, hok2, rv, ev, d, fs, ea, ed, hd1, q2⟩ := hq'
      subst ev
      obtain ⟨h2, g2, d2, t2, os'⟩ := s'
      exact ⟨rv, mk_end (raises_own T.exC T.tyC) I1 hsz kk un2 hok2 os2 bare2 ea ed hd1 q2⟩
    | next => exact False.elim hq'
    | brk => exact False.elim hq'
    | cont => exact False.elim hq'
/-! ### __init__ -/
/-- def __init__(self, y): self.f = y -/
def spX1 (f : Str) (K : PySem.W.Frag) : Sp := fun vs H Q _ => ∃ (a C : Addr) (y : V), vs = [.ref a, y] ∧ ExM K C ∧ PySem.W.findIn K (.ref C) f = some none ∧ H a = some (exo a C none) ∧
  ∀ dx, H dx = none → dx ≠ a → Q .non (upd (upd H dx (exd dx [(f, y)])) a (exo a C (some dx)))
/-- def __init__(self, y, z): self.f = y; self.g = z -/
def spX2 (f g : Str) (K : PySem.W.Frag) : Sp := fun vs H Q _ => ∃ (a C : Addr) (y z : V), vs = [.ref a, y, z] ∧ ExM K C ∧ PySem.W.findIn K (.ref C) f = some none ∧ PySem.W.findIn K (.ref C) g = some none ∧ H a = some (exo a C none) ∧
  ∀ dx, H dx = none → dx ≠ a → Q .non (upd (upd (upd H dx (exd dx [(f, y)])) a (exo a C (some dx))) dx (exd dx [(g, z), (f, y)]))
theorem x1_len {f : Str} {K : PySem.W.Frag} (vs : List V) (H : Hp) (Q : VK) (E : XK) (h : spX1 f K vs H Q E) : vs.length = 2 := by
  obtain ⟨a, C, y, rfl, _⟩ := h; rfl
theorem x1_rd {f : Str} {K : PySem.W.Frag} {vs : List V} {H : Hp} {Q : VK} {E : XK} {N : List Str} (hn : N.length = 2) (h : spX1 f K vs H Q E) :
    tXst K f (tVar 0) (tVar 1) { nx := fun _ H' => Q .non H', rt := Q } (L2.start N vs) H := by
  obtain ⟨a, C, y, rfl, T, no, e, q⟩ := h
  match N, hn with
  | [_, _], _ => exact ⟨y, rfl, .ref a, rfl, a, C, rfl, T, no, .inl ⟨e, fun dx n ne => q dx n ne⟩⟩
/-! ### raise -/
/-- a class of exceptions with its __init__ -/
def XCls (P : Program) (w : World) (K : PySem.W.Frag) (mg : Str → Option Value) (x : Str) (ps fs : List Str) (sp : PySem.W.Frag → Sp) : Prop :=
  ∃ (C fI : Addr) (fd : FuncData), mg x = some (.ref C) ∧ ExM K C ∧ PySem.W.findIn K (.ref C) "__init__" = some (some (.ref fI)) ∧ PySem.W.typeIn K (.ref fI) = some (.type "function") ∧ Binds K fd ps [] ∧
    (∀ base : Heap, FnOk P w K mg base CX0 1 fI fd ps (sp K)) ∧ ∀ f ∈ fs, PySem.W.findIn K (.ref C) f = some none
def sRaise (x : Str) (fs : List Str) (as : SA) : SS := fun ds h => sBd (as ds h) ds fun vs h1 => if vs.length = fs.length then .ex x fs vs.reverse ds h1 else .bad
section
variable {X : Cx} {W : WX} {e e2 : Expr} {as : SA} {x f g y z : Str} {p pos pos2 : Pos}
theorem del_x1 {H1 : Hp} {a dx : Addr} {o : HO} (ha : H1 a = none) (ne : dx ≠ a) (u1 u2 u4 : HO) :
    upd (del (upd (upd (upd H1 a u1) dx u2) a u4) a) dx o = upd H1 dx o := by
  funext b
  by_cases hb : b = dx
  · rw [hb, upd_same, upd_same]
  · rw [upd_ne hb, upd_ne hb]
    by_cases hb2 : b = a
    · rw [hb2, del_same, ha]
    · rw [del_ne hb2, upd_ne hb2, upd_ne hb, upd_ne hb2]
theorem ds_raise1 (hc : X.calm = true) (tk : Takes X W) (T : XCls X.prog X.w X.K X.mg x ["self", y] [f] (spX1 f)) (hr : Room 2 X.A) (hg : Gl X x) (ha : DA X W [e] as)
    (hdb : (x == ("__debug__" : Str)) = false := by decide) (he : starEach [e] X.env = [(false, eval e X.env)] := by rfl) :
    DS X W (.Raise (some (.Call (.Name x p) [e] [] pos)) none pos2) (sRaise x [f] as) := by
  obtain ⟨C, fI, fd, gC, E, iC, tI, b, F, no⟩ := T
  refine ds_of (ps_raise hc tk (pmk_x E iC tI (F X.base) hr b pass0 hg gC ha hdb he rfl)) fun D σ H ⟨ω, h, ds, e1, r, s, pp⟩ => ?_
  subst e1
  refine ⟨ω, h, ds, rfl, r, s, PostO.bd r s pp fun xs h1 vs ω1 ex r1 rl s1 p1 => ?_⟩
  obtain ⟨hl, p1⟩ := p1.if_
  match xs, hl with
  | [d], _ =>
    obtain ⟨v, ws, rfl, rv, rn⟩ := rl.inv
    rw [rn.inv0]
    refine ⟨by simp, fun a ha => ⟨a, C, v, rfl, E, no f (by simp), upd_same, fun dx n ne => ?_⟩⟩
    have nd : ω1.H dx = none := by rw [upd_ne ne] at n; exact n
    refine ⟨rfl, dx, [(f, v)], upd_same, ?_, nd, ?_⟩
    · rw [upd_ne ne, upd_same]
    · rw [del_x1 ha ne]
      refine p1 (.ref C) (some dx) σ (ω1.up dx (.xd [(f, v)])) (Ext.up nd) (r1.up nd) (monoS r1 (Ext.up nd) s1) ⟨C, dx, [v], rfl, rfl, gC, upd_same, rfl, monoL r1 (Ext.up nd) _ _ (RelL.cons rv RelL.nil)⟩
end
end Mp
/-! LayY: what a call told: a lambda handed to a def that calls it in a try. -/
namespace Mp
open PySem PySem.Spec PyProof.Rows L2
/-! ### several clauses, each with the name n in slot i -/
abbrev Clauses := List (Value × (Addr → Value → Option Addr → TS))
def wAsM (K : PySem.W.Frag) (i : Nat) (D : Ends) : Clauses → WX
  | [] => fun _ _ _ _ => False
  | (c, ts) :: r => fun cls d σ H => ∃ b, PySem.W.exmOne K cls c = some b ∧
      (b = true → i < σ.length → ∀ a, H a = none → ts a cls d { nx := fun σ' H' => D.nx (σ'.set i none) H', rt := D.rt, bk := fun σ' H' => D.bk (σ'.set i none) H', ct := fun σ' H' => D.ct (σ'.set i none) H' } (σ.set i (some (.ref a))) H) ∧
      (b = false → wAsM K i D r cls d σ H)
inductive HdsAs (X : Cx) (n : Str) : List ExceptHandler → Clauses → Prop
  | nil : HdsAs X n [] []
  | cons {x : Str} {c : Value} {ts : Addr → Value → Option Addr → TS} {b₀ : Stmt} {suite : List Stmt} {np pos' : Pos} {hds : List ExceptHandler} {l : Clauses} (hc : Names X x c)
      (hsu : ∀ (a : Addr) (oe : Obj) (cls : Value) (d : Option Addr) (pn : List (Addr × Obj)), Zc cls d oe → (∃ vs, oe.data = .fields vs) → PSs (X.suite a ((a, oe) :: pn)) (b₀ :: suite) (ts a cls d)) (r : HdsAs X n hds l) :
      HdsAs X n (.ExceptHandler (some (.Name x np)) (some n) (b₀ :: suite) pos' :: hds) ((c, ts) :: l)
section
variable {X : Cx} {n : Str} {i : Nat} {body : List Stmt} {h₀ : ExceptHandler} {hds : List ExceptHandler} {l : Clauses} {pos : Pos} {tb : WX → TS}
theorem ps_try_asM (hs : X.stack = X.env :: X.outer) (hf : X.env.frame = some X.env.locals) (hN : X.N.Nodup) (hi : X.N[i]? = some n) (hln : X.env.kindOf n = some .local)
    (hb : ∀ (W : WX) (pn : List (Addr × Obj)) (xe : Value → Shared → Prop), Takes (X.tr pn xe) W → PassesOwn (model X.prog X.w) X.A X.env xe → PSs (X.tr pn xe) body (tb W))
    (hh : HdsAs X n (h₀ :: hds) l) : PS X (.Try body (h₀ :: hds) [] [] pos) (fun D σ H => tb (wAsM X.K i D l) D σ H) := by
  refine ⟨fun pins s σ H D I h => ?_⟩
  have ok := I.ok
  have hfr : X.A.frames = some (X.env :: X.outer) := by rw [ok.frames, hs]
  have hloc : Loc X.env.scope n := .inl hln
  refine wpAny_Try_except ?_
  refine wpAny_mono ((hb (wAsM X.K i D l) (X.pn ++ pins) (fun e s₁ => wpAny (model X.prog X.w) X.A (noteFrame e X.env) (fun _ s₂ => wpAny (model X.prog X.w) X.A (setFlight e none) (fun _ s₃ =>
    wpAny (model X.prog X.w) X.A (handleBy e X.env (h₀ :: hds)) (SP X pins D) X.xe s₃) X.xe s₂) X.xe s₁) (fun u s' xx => ?_) PassesOwn.looking).run [] s σ H D (I.toTry _) h) (fun f s1 hsp => ?_) (fun e s1 he => he)
  · obtain ⟨a, B, sI, pins', σ', H', cls, d, rfl, J', nb, up, sky, na, os, ag, w⟩ := xx
    have J : Inv X pins σ' H' sI := J'.ofTry ok
    have sky' : Sky B (X.env :: X.outer) a (Zc cls d) X.env.locals s'.heap := by rw [← hs]; exact sky
    show wpAny (model X.prog X.w) X.A (noteFrame (.ref a) X.env) _ _ _
    refine Sky.land Zc.steady hfr hf sky' fun h3 fl3 up3 => ?_
    have J3 : Inv X pins σ' H' { s' with heap := h3 } := J.landed nb fl3.1 (up.trans up3) os ag
    obtain ⟨oe3, vs3, he3, hz3, hd3⟩ := fl3.there
    have notFr : ∀ {h : Heap} {o : Obj} {vs : Array Value}, h.FunFrames B (X.env :: X.outer) → h.get? a = some o → o.data = .fields vs → a ∉ frs (X.env :: X.outer) := fun {h o vs} ff e dd hm => by
      obtain ⟨_, o', e', hnf⟩ := ff.mem hm
      rw [e] at e'; cases e'
      exact hnf _ dd
    have nfr := notFr fl3.2.2.1 he3 hd3
    have nL : a ≠ X.env.locals := fun z => nfr (List.mem_filterMap.mpr ⟨X.env, List.mem_cons_self, by rw [hf, z]⟩)
    have nF : a ∉ X.fs := fun hm => by
      obtain ⟨e, he, q⟩ := List.mem_filterMap.mp hm
      exact nfr (List.mem_filterMap.mpr ⟨e, List.mem_cons_of_mem _ he, q⟩)
    have S3 := J3.suite he3 hd3 na nL nF
    have go : ∀ {hds' : List ExceptHandler} {l' : Clauses}, HdsAs X n hds' l' → wAsM X.K i D l' cls d σ' H' →
        wpAny (model X.prog X.w) X.A (handleBy (.ref a) X.env hds') (SP X pins D) X.xe { s' with heap := h3 } := by
      intro hds' l' hk
      induction hk with
      | nil => intro w; exact False.elim w
      | @cons x c ts b₀ suite np pos' hds2 l2 hc hsu r ih =>
        intro w
        obtain ⟨b, hb1, hyes, hno⟩ := w
        refine wpAny_handleBy_cons (codeAny_handlers_test ?_) (by intro q; cases q)
        have LT : PySem.W.Looks (model X.prog X.w) h3 (typeOf (.ref a)) cls := fun A Q E s k q => wpAny_typeOf_ref (k _ _ he3) (by rw [hz3.1]; exact q)
        have LM := PySem.W.exm_one (M := model X.prog X.w) (J3.kIn) LT hb1
        have test : ∀ {Q : Value → Shared → Prop} {E : Value → Shared → Prop}, Q c { s' with heap := h3 } → wpAny (model X.prog X.w) (X.A.mark (some (.ref a))) (eval (.Name x np) X.env) Q E { s' with heap := h3 } := fun {Q E} q => by
          obtain ⟨hg, hdbg, hm | ⟨hm, hv, hnn⟩⟩ := hc
          · exact ld_glob (X := X.suite a ((a, oe3) :: (X.pn ++ pins))) S3 hg hm q hdbg
          · exact ld_blt (X := X.suite a ((a, oe3) :: (X.pn ++ pins))) S3 hg hm hv q hnn hdbg
        refine test (LM.here ?_)
        cases b with
        | true =>
          refine codeAny_handlers_suite_as ?_
          refine HandSPX.lands_againZ fl3 fun h4 fl4 up4 => ?_
          have J4 : Inv X pins σ' H' { s' with heap := h4 } := J.landed nb fl4.1 ((up.trans up3).trans up4) os ag
          obtain ⟨oe4, vs4, he4, hz4, hd4⟩ := fl4.there
          have S4 := J4.suite he4 hd4 na nL nF
          refine store_ok (X := X.suite a ((a, oe4) :: (X.pn ++ pins))) (v := .ref a) S4 hN hi hloc rfl (fun s5 S5 => ?_) (.inr hln)
          refine wpAny_mono ((hsu a oe4 cls d (X.pn ++ pins) hz4 ⟨_, hd4⟩).run [] s5 _ H' _ S5 (hyes rfl (by rw [J.len]; exact (List.getElem?_eq_some_iff.mp hi).1) a na)) (fun f s6 hsp => ?_) (fun _ _ z => False.elim z)
          have end_ : ∀ {σ6 : L2.St} {H6 : Hp} {Q : Shared → Prop}, Inv (X.suite a ((a, oe4) :: (X.pn ++ pins))) [] σ6 H6 s6 → (∀ s7, Inv X pins (σ6.set i none) H6 s7 → Q s7) →
              wpAny (model X.prog X.w) X.A (do bindName X.env n .none; unbindBehindTheSuite X.env n pos') (fun _ s7 => Q s7) X.xe s6 := fun {σ6 H6 Q} S6 hq => gone_ok (S6.unsuite ok) hN hi hln hq
          cases f with
          | next =>
            obtain ⟨σ6, H6, S6, q6⟩ := hsp
            exact end_ S6 fun s7 J7 => ⟨_, _, J7, q6⟩
          | brk =>
            obtain ⟨σ6, H6, S6, q6⟩ := hsp
            exact end_ S6 fun s7 J7 => ⟨_, _, J7, q6⟩
          | cont =>
            obtain ⟨σ6, H6, S6, q6⟩ := hsp
            exact end_ S6 fun s7 J7 => ⟨_, _, J7, q6⟩
          | ret u =>
            obtain ⟨v6, σ6, H6, S6, r6, q6⟩ := hsp
            exact end_ S6 fun s7 J7 => ⟨_, _, _, J7, r6, q6⟩
        | false =>
          show wpAny _ X.A (handleBy (.ref a) X.env hds2) _ _ _
          exact ih (hno rfl)
    exact go hh w
  · cases f with
    | next =>
      obtain ⟨σ', H', J', q⟩ := hsp
      exact wpAny_execs_nil ⟨σ', H', J'.ofTry ok, q⟩
    | brk =>
      obtain ⟨σ', H', J', q⟩ := hsp
      exact ⟨σ', H', J'.ofTry ok, q⟩
    | cont =>
      obtain ⟨σ', H', J', q⟩ := hsp
      exact ⟨σ', H', J'.ofTry ok, q⟩
    | ret u =>
      obtain ⟨v, σ', H', J', r, q⟩ := hsp
      exact ⟨v, σ', H', J'.ofTry ok, r, q⟩
end
/-! ### told: try: return ("value", deed()) / except C as why: return ("C", why.f, ..) -/
/-- one clause: the class, what it is called, its fields in the order in which they are told -/
abbrev TTab := List (Addr × Str × List Str)
/-- what the clauses make of an exception -/
def wTold (K : PySem.W.Frag) (Q : VK) : TTab → Value → Option Addr → Hp → Prop
  | [], _, _, _ => False
  | (C, x, fs) :: r, cls, d, H => ∃ b, PySem.W.exmOne K cls (.ref C) = some b ∧
      (b = true → cls = .ref C ∧ ∃ (dd : Addr) (l : List (Str × V)) (vs : List V), d = some dd ∧ H dd = some (.xd l) ∧ (fs.map fun f => l.lookup f) = vs.map some ∧ vs.length ≤ 100 ∧ ∀ t, H t = none → Q (.ref t) (upd H t (.tup (.str x :: vs)))) ∧
      (b = false → wTold K Q r cls d H)
def TTold (K : PySem.W.Frag) (tab : TTab) : (XK → Hp → VK → Prop) → Hp → VK → Prop := fun tl H Q =>
  tl (fun cls d H' => wTold K Q tab cls d H') H (fun v H' => ([.str "value", v] : List V).length ≤ sizeLine ∧ ∀ t, H' t = none → Q (.ref t) (upd H' t (.tup [.str "value", v])))
/-- what the top says of a class that is caught -/
structure XRd (K : PySem.W.Frag) (mg : Str → Option Value) (x : Str) (C : Addr) (fs : List Str) : Prop where
  g : mg x = some (.ref C)
  t : XfC K C
  no : ∀ f ∈ fs, PySem.W.findIn K (.ref C) f = some none
/-- the clauses of such a def, n the name in them -/
inductive ToldHs (K : PySem.W.Frag) (mg : Str → Option Value) (sg : Scope) (n : Str) : List ExceptHandler → TTab → Prop
  | nil : ToldHs K mg sg n [] []
  | one {x f : Str} {C : Addr} {hds : List ExceptHandler} {l : TTab} {j k : Nat} {p1 p2 p3 p4 p5 p6 p7 : Pos} (h : XRd K mg x C [f]) (hg : sg.names.lookup x = some .globalImplicit) (hd : (x == ("__debug__" : Str)) = false) (r : ToldHs K mg sg n hds l) :
      ToldHs K mg sg n (.ExceptHandler (some (.Name x p1)) (some n) [.Return (some (.Tuple [.Constant (.str x) j p2, .Attribute (.Name n p3) f p4] k p5)) p6] p7 :: hds) ((C, x, [f]) :: l)
  | two {x f f2 : Str} {C : Addr} {hds : List ExceptHandler} {l : TTab} {j k : Nat} {p1 p2 p3 p4 p5 p6 p7 p8 p9 : Pos} (h : XRd K mg x C [f, f2]) (hg : sg.names.lookup x = some .globalImplicit) (hd : (x == ("__debug__" : Str)) = false) (r : ToldHs K mg sg n hds l) :
      ToldHs K mg sg n (.ExceptHandler (some (.Name x p1)) (some n) [.Return (some (.Tuple [.Constant (.str x) j p2, .Attribute (.Name n p3) f p4, .Attribute (.Name n p8) f2 p9] k p5)) p6] p7 :: hds) ((C, x, [f, f2]) :: l)
/-- the suites' readings -/
def tSuite1 (i : Nat) (C : Addr) (y f : Str) : Addr → Value → Option Addr → TS := fun a cls d => tRet (tTup (tCons (tC (.str y)) (tCons (tXf a cls d C f (tVar i)) tNil)))
def tSuite2 (i : Nat) (C : Addr) (y f f2 : Str) : Addr → Value → Option Addr → TS := fun a cls d => tRet (tTup (tCons (tC (.str y)) (tCons (tXf a cls d C f (tVar i)) (tCons (tXf a cls d C f2 (tVar i)) tNil))))
def clausesOf (i : Nat) : TTab → Clauses
  | [] => []
  | (C, y, [f]) :: r => (.ref C, tSuite1 i C y f) :: clausesOf i r
  | (C, y, [f, f2]) :: r => (.ref C, tSuite2 i C y f f2) :: clausesOf i r
  | _ :: r => clausesOf i r
theorem tabOk {K : PySem.W.Frag} {mg : Str → Option Value} {sg : Scope} {n : Str} {X : Cx} {i : Nat} (hK : X.K = K) (hmg : X.mg = mg) (hsg : X.env.scope = sg) (hgl : X.env.scope.kind = .function) (hi : X.N[i]? = some n) (hv : Vis sg n) (hdn : (n == ("__debug__" : Str)) = false) (hcn : (n == ("__classdict__" : Str)) = false) :
    ∀ {hds : List ExceptHandler} {tab : TTab}, ToldHs K mg sg n hds tab → HdsAs X n hds (clausesOf i tab) := by
  subst hK hmg hsg
  intro hds tab hh
  have pv' : ∀ (a : Addr) (oe : Obj) (pn : List (Addr × Obj)) (p : Pos), PE (X.suite a ((a, oe) :: pn)) (.Name n p) (tVar i) := fun a oe pn p => pe_var hi hv hdn hcn
  induction hh with
  | nil => exact .nil
  | @one x f C hds l j k p1 p2 p3 p4 p5 p6 p7 h hg hd r ih =>
    refine .cons ⟨hg, hd, .inl h.g⟩ (fun a oe cls d pn hz hf => ?_) ih
    exact pss_one (ps_ret (pe_tup (pa_cons pe_str (pa_cons (pe_xf h.t (h.no f (by simp)) hz hf (pv' a oe pn _)) pa_nil))))
  | @two x f f2 C hds l j k p1 p2 p3 p4 p5 p6 p7 p8 p9 h hg hd r ih =>
    refine .cons ⟨hg, hd, .inl h.g⟩ (fun a oe cls d pn hz hf => ?_) ih
    exact pss_one (ps_ret (pe_tup (pa_cons pe_str (pa_cons (pe_xf h.t (h.no f (by simp)) hz hf (pv' a oe pn _)) (pa_cons (pe_xf h.t (h.no f2 (by simp)) hz hf (pv' a oe pn _)) pa_nil)))))
/-- one or two fields -/
def tabWf : TTab → Prop
  | [] => True
  | (_, _, fs) :: r => (fs.length = 1 ∨ fs.length = 2) ∧ tabWf r
theorem map1 {α β : Type} {f : α → β} {x : β} : ∀ {l : List α}, [x] = l.map f → ∃ a, l = [a] ∧ x = f a
  | [], h => by simp at h
  | [a], h => ⟨a, rfl, by simpa using h⟩
  | _ :: _ :: _, h => by simp at h
theorem map2 {α β : Type} {f : α → β} {x y : β} : ∀ {l : List α}, [x, y] = l.map f → ∃ a b, l = [a, b] ∧ x = f a ∧ y = f b
  | [], h => by simp at h
  | [a], h => by simp at h
  | [a, b], h => ⟨a, b, rfl, by simpa using h⟩
  | _ :: _ :: _ :: _, h => by simp at h
theorem told_w {K : PySem.W.Frag} {Q : VK} {D : Ends} {i : Nat} {cls : Value} {d : Option Addr} {σ : L2.St} {H : Hp} (hQ : D.rt = Q) : ∀ (tab : TTab), tabWf tab → wTold K Q tab cls d H → wAsM K i D (clausesOf i tab) cls d σ H
  | [], _, h => h
  | (C, y, fs) :: r, hw, h => by
    obtain ⟨b, e1, e2, e3⟩ := h
    have get : i < σ.length → ∀ a : Addr, (σ.set i (some (V.ref a)))[i]? = some (some (V.ref a)) := fun hi a => by rw [List.getElem?_set_self hi]
    match fs, hw with
    | [f], hw =>
      refine ⟨b, e1, fun hb hi a ha => ?_, fun hb => told_w hQ r hw.2 (e3 hb)⟩
      obtain ⟨ec, dd, l, vs, ed, eh, em, hl, q⟩ := e2 hb
      obtain ⟨v, rfl, ev⟩ := map1 em
      refine ⟨.ref a, get hi a, rfl, ec, dd, l, v, ed, eh, ev, ?_, fun t ht => ?_⟩
      · rw [sizeLine_eq]; show 2 ≤ 16777216; decide
      · show D.rt _ _
        rw [hQ]; exact q t ht
    | [f, f2], hw =>
      refine ⟨b, e1, fun hb hi a ha => ?_, fun hb => told_w hQ r hw.2 (e3 hb)⟩
      obtain ⟨ec, dd, l, vs, ed, eh, em, hl, q⟩ := e2 hb
      obtain ⟨v, v2, rfl, ev, ev2⟩ := map2 em
      refine ⟨.ref a, get hi a, rfl, ec, dd, l, v, ed, eh, ev, .ref a, get hi a, rfl, ec, dd, l, v2, ed, eh, ev2, ?_, fun t ht => ?_⟩
      · rw [sizeLine_eq]; show 3 ≤ 16777216; decide
      · show D.rt _ _
        rw [hQ]; exact q t ht
    | [], hw => exact absurd hw.1 (by simp)
    | _ :: _ :: _ :: _, hw => exact absurd hw.1 (by simp)
theorem told_gives {X : Cx} {x a n q : Str} {sg : Scope} {g : Addr} {cdg : Value} {j k : Nat} {p1 p2 p3 p4 p5 p6 : Pos} {h₀ : ExceptHandler} {hds : List ExceptHandler} {tab : TTab}
    (ha : ToldHs X.K X.mg sg n (h₀ :: hds) tab) (hw : tabWf tab) (hk : sg.kind = .function) (hv : Vis sg n) (hln : sg.names.lookup n = some .local) (hne : a ≠ n) (hdn : (n == ("__debug__" : Str)) = false) (hcn : (n == ("__classdict__" : Str)) = false) :
    LamX.GivesTo X [a, n] x sg g cdg [.Try [.Return (some (.Tuple [.Constant (.str "value") j p1, .Call (.Name a p2) [] [] p3] k p4)) p5] (h₀ :: hds) [] [] p6] a q (TTold X.K tab) := by
  intro f c' s H Q tl act hc h
  refine ⟨_, pss_one (ps_try_asM (X := (cxOf C8.CX0 X.prog X.w X.K X.mg X.base [a, n] x sg g cdg X.A X.stack s H C8.E0).nox) (i := 1) (l := clausesOf 1 tab)
      (tb := fun W D σ H => ∃ Ech : XK, (∀ cls d σ' H', Ech cls d H' → W cls d σ' H') ∧ σ[0]? = some (some (.ref f)) ∧ H c' = some (LamX.CodeO c' q) ∧ tl Ech H (fun v H' => ([.str "value", v] : List V).length ≤ sizeLine ∧ ∀ t, H' t = none → D.rt (.ref t) (upd H' t (.tup [.str "value", v]))))
      rfl rfl (show ([a, n] : List Str).Nodup by simp [hne]) rfl hln (fun W pn xe tk _ => ?_) (tabOk rfl rfl rfl hk rfl hv hdn hcn ha)), ?_⟩
  · refine ⟨fun pins s' σ H' D I h' => ?_⟩
    obtain ⟨Ech, hW, h1, h2, h3⟩ := h'
    have hp := act W pn xe Ech p2 p3 tk hW
    have hq := pss_one (ps_ret (pos := p5) (pe_tup (pos := p4) (x1 := k) (pa_cons (pe_str (x := "value") (j := j) (pos := p1)) (pa_cons hp pa_nil))))
    exact hq.run pins s' σ H' D I ⟨h1, h2, h3⟩
  · refine ⟨fun cls d H' => wTold X.K Q tab cls d H', fun cls d σ' H' w => told_w (σ := σ') rfl tab hw w, rfl, hc, h⟩
/-! ### as data -/
def toldTab : List (Str × List Str) := [("BadValue", ["at"]), ("BadText", ["at"]), ("Unknown", ["name"]), ("NoChance", ["word"]), ("Crowded", ["first", "last"]), ("NoDay", ["name"]), ("Missing", ["at"]), ("TakenName", ["name"]), ("Short", ["rows"])]
def toldOk (x : Str) (fs : List Str) (n : Nat) : Bool := (toldTab.any fun p => decide (p.1 = x) && decide (p.2 = fs.reverse)) && (decide fs.Nodup && decide (n = fs.length))
def eTold (m : SE) : SE := fun ds h => match m ds h with
  | .ok v h' => .ok (.tup [.str "value", v]) h'
  | .ex x fs vs h' => if toldOk x fs vs.length = true then .ok (.tup (.str x :: vs.reverse)) h' else .bad
  | .bad => .bad
def exmAll (K : PySem.W.Frag) : TTab → Bool
  | [] => true
  | (C, _, _) :: r => decide (PySem.W.exmOne K (.ref C) (.ref C) = some true) && (r.all (fun p => decide (PySem.W.exmOne K (.ref p.1) (.ref C) = some false)) && exmAll K r)
theorem told_hit {K : PySem.W.Frag} {Q : VK} {C dd : Addr} {x : Str} {fs : List Str} {l : List (Str × V)} {vs : List V} {H : Hp} (hd : H dd = some (.xd l)) (hm : (fs.map fun f => l.lookup f) = vs.map some) (hl : vs.length ≤ 100) (q : ∀ t, H t = none → Q (.ref t) (upd H t (.tup (.str x :: vs)))) :
    ∀ tab : TTab, exmAll K tab = true → (C, x, fs) ∈ tab → wTold K Q tab (.ref C) (some dd) H
  | [], _, h => by simp at h
  | (C0, x0, fs0) :: r, he, h => by
    unfold exmAll at he
    simp only [Bool.and_eq_true, decide_eq_true_eq, List.all_eq_true] at he
    rcases List.mem_cons.mp h with h | h
    · cases h
      exact ⟨true, he.1, fun _ => ⟨rfl, dd, l, vs, rfl, hd, hm, hl, q⟩, (fun z => by cases z)⟩
    · exact ⟨false, he.2.1 _ h, (fun z => by cases z), fun _ => told_hit hd hm hl q r he.2.2 h⟩
theorem lookup_zip : ∀ {fs : List Str} {vs : List V}, fs.Nodup → fs.length = vs.length → (fs.map fun f => (fs.zip vs).lookup f) = vs.map some
  | [], [], _, _ => rfl
  | [], _ :: _, _, h => by simp at h
  | _ :: _, [], _, h => by simp at h
  | f :: fs, v :: vs, hn, hl => by
    obtain ⟨h1, h2⟩ := List.nodup_cons.mp hn
    have ih := lookup_zip (fs := fs) (vs := vs) h2 (by simpa using hl)
    simp only [List.map_cons, List.zip_cons_cons, List.lookup_cons_self, List.cons.injEq, true_and]
    rw [← ih]
    refine List.map_congr_left fun g hg => ?_
    rw [lookup_put]
    exact if_neg fun (e : g = f) => h1 (by rw [← e]; exact hg)
/-- the def of the text that calls what it got -/
structure TellTxt (K : PySem.W.Frag) (mg : Str → Option Value) (st : Stmt) : Prop where
  D : DefAt K mg "_law_told" "_law_told" st ["deed"]
  S : FnScope ["deed", "why"] ["deed"] (defScope st)
  k : (defScope st).kind = .function
  vd : Vis (defScope st) "deed"
  vw : (defScope st).names.lookup ("why" : Str) = some .local
  ex : ∃ (tab : TTab) (j k : Nat) (p1 p2 p3 p4 p5 p6 : Pos) (h₀ : ExceptHandler) (hds : List ExceptHandler),
    defBody st = [.Try [.Return (some (.Tuple [.Constant (.str "value") j p1, .Call (.Name "deed" p2) [] [] p3] k p4)) p5] (h₀ :: hds) [] [] p6] ∧ ToldHs K mg (defScope st) "why" (h₀ :: hds) tab ∧
    tab.map (·.2) = toldTab ∧ exmAll K tab = true
theorem toldHs_g {K : PySem.W.Frag} {mg : Str → Option Value} {sg : Scope} {n : Str} {hds : List ExceptHandler} {tab : TTab} (h : ToldHs K mg sg n hds tab) : tabWf tab := by
  induction h with
  | nil => trivial
  | one h hg hd r ih => exact ⟨.inl rfl, ih⟩
  | two h hg hd r ih => exact ⟨.inr rfl, ih⟩
theorem toldHs_m {K : PySem.W.Frag} {mg : Str → Option Value} {sg : Scope} {n : Str} {hds : List ExceptHandler} {tab : TTab} (h : ToldHs K mg sg n hds tab) : ∀ q ∈ tab, mg q.2.1 = some (.ref q.1) := by
  induction h with
  | nil => intro q hq; simp at hq
  | one h hg hd r ih =>
    intro q hq
    rcases List.mem_cons.mp hq with rfl | hq
    · exact h.g
    · exact ih q hq
  | two h hg hd r ih =>
    intro q hq
    rcases List.mem_cons.mp hq with rfl | hq
    · exact h.g
    · exact ih q hq
/-! ### a lambda is made: nothing that was tracked is lost -/
section
variable {X : Cx} {pins : List (Addr × Obj)} {σ : L2.St} {H : Hp} {s : Shared}
theorem lam_make3 {T : List (Addr × Str)} {c P : Addr} {params : Arguments} {body : Expr} {scope : Scope} {pos : Pos} {E : Value → Shared → Prop} {Q : Value → Shared → Prop} (I : Inv X pins σ H s) (TB : LamX.TabB X.base X.mg c P) (hcode : X.env.code = .ref c)
    (hm : (P, X.env.qual ++ "<lambda>") ∈ T) (hu : ∀ p ∈ T, p.1 = P → p.2 = X.env.qual ++ "<lambda>") (hT : LamX.Tabs T H) (hdef : defaultsOf params X.env = ([], [])) (hfree : ∀ y ∈ scope.names, y.2 = .free → ∃ c, X.env.cells.lookup y.1 = some c)
    (h : ∀ (f c' : Addr) (pm ctv : Value) (H1 : Hp) (s' : Shared), Inv X pins σ H1 s' → LamX.ExtN H H1 → (∀ b, H1 b = none → H b = none) → LamX.Tabs T H1 →
      s'.heap.get? f = some (PySem.W.kla_obj "<lambda>" (X.env.qual ++ "<lambda>") params body scope (cloFrom X.env.cells scope.names []) pm c' ctv) → H1 f = none → f ∉ frs X.stack → H1 c' = some (LamX.CodeO c' (X.env.qual ++ "<lambda>")) → Q (.ref f) s') :
    wpAny (model X.prog X.w) X.A (eval (.Lambda params body scope pos) X.env) Q E s := by
  obtain ⟨ps, hP, ht, ha⟩ := hT _ hm
  refine PySem.W.kla_eval hdef ?_
  have bP : s.heap.BuiltinsAt X.mg P := TB.bm.keeps I.bk
  have hP' : s.heap.get? P = some { cls := .none, data := .fields ps } := I.hok P _ hP
  have nofr : ∀ f, s.heap.objs.size ≤ f → f ∉ frs X.stack := fun f hf z => by
    rcases List.mem_cons.mp (I.stkSub _ z) with e | e
    · have h1 := I.lt
      rw [← e] at h1
      exact Nat.lt_irrefl _ (Nat.lt_of_lt_of_le h1 hf)
    · exact I.nofs hf e
  cases hc : codeAmong pos ps.toList with
  | none =>
    refine PySem.W.kla_makeFunction (mg := X.mg) (c := c) (P := P) (ps := ps) (closure_ok hfree) I.ok.glob (I.mod.glob.keeps I.bk) hcode (TB.code.keeps I.bk) hP' ht hc TB.gP bP fun c' ctv h' tk hx hge hlt hrec htb => ?_
    obtain ⟨c2, oc, vs, t, e2, hoc, hd, hv⟩ := hrec
    cases e2
    have hsz : s.heap.objs.size ≤ h'.objs.size := Nat.le_trans hge (Nat.le_of_lt hlt)
    have nC : H c' = none := I.hok.fresh hge
    have I1 := LamX.inv_table (t' := tk) (more := #[rawInt pos.line, rawInt pos.col, .ref c']) (h' := h'.push (PySem.W.kla_obj "<lambda>" (X.env.qual ++ "<lambda>") params body scope (cloFrom X.env.cells scope.names []) ((X.mg "__name__").getD .none) c' ctv)) I hP
      (fun b o hb e => Heap.get?_push_of_some _ (hx b o hb e)) (Heap.get?_push_of_some _ htb) hge ⟨oc, vs, t, Heap.get?_push_of_some _ hoc, hd, hv⟩
    have hE : LamX.ExtN H (upd (upd H P (.tbl (ps ++ #[rawInt pos.line, rawInt pos.col, .ref c']))) c' (LamX.CodeO c' (X.env.qual ++ "<lambda>"))) := fun b o e n => by
      rw [upd_ne (ne_of_none e nC), upd_ne (fun z => n ps (Option.some.inj (e.symm.trans (by rw [z]; exact hP))))]
      exact e
    have hDom : ∀ b, upd (upd H P (.tbl (ps ++ #[rawInt pos.line, rawInt pos.col, .ref c']))) c' (LamX.CodeO c' (X.env.qual ++ "<lambda>")) b = none → H b = none := fun b z => by
      by_cases h1 : b = c'
      · rw [h1, upd_same] at z; cases z
      · rw [upd_ne h1] at z
        by_cases h2 : b = P
        · rw [h2, upd_same] at z; cases z
        · rw [upd_ne h2] at z; exact z
    have eL : (ps ++ #[rawInt pos.line, rawInt pos.col, .ref c']).toList = ps.toList ++ [rawInt pos.line, rawInt pos.col, .ref c'] := by simp
    refine h h'.objs.size c' ((X.mg "__name__").getD .none) ctv _ _ I1 hE hDom (fun p hp => ?_) (Heap.get?_push_size _ rfl) ?_ (nofr _ hsz) upd_same
    · by_cases hb : p.1 = P
      · rw [hu p hp hb, hb]
        refine ⟨_, by rw [upd_ne (ne_of_none hP nC), upd_same], by rw [eL]; exact PySem.TriplesOk_snoc _ _ _ _ ht, fun p' cv hcv => ?_⟩
        rw [eL] at hcv
        rcases LamX.among_app _ ht hcv with z | z
        · obtain ⟨c0, e1, e2⟩ := ha p' cv z
          exact ⟨c0, e1, hE _ _ e2 LamX.codeO_ne⟩
        · exact ⟨c', z, upd_same⟩
      · obtain ⟨ps', a1, a2, a3⟩ := hT p hp
        refine ⟨ps', by rw [upd_ne (ne_of_none a1 nC), upd_ne hb]; exact a1, a2, fun p' cv hcv => ?_⟩
        obtain ⟨c0, e1, e2⟩ := a3 p' cv hcv
        exact ⟨c0, e1, hE _ _ e2 LamX.codeO_ne⟩
    · have n1 : h'.objs.size ≠ c' := Nat.ne_of_gt hlt
      have n2 : h'.objs.size ≠ P := Nat.ne_of_gt (Nat.lt_of_lt_of_le (Heap.lt_size hP') hsz)
      rw [upd_ne n1, upd_ne n2]
      exact I.hok.fresh hsz
  | some cv =>
    obtain ⟨c', e, hco⟩ := ha pos cv hc
    subst e
    refine PySem.W.kla_makeFunctionHit (mg := X.mg) (c := c) (P := P) (ps := ps) (closure_ok hfree) I.ok.glob (I.mod.glob.keeps I.bk) hcode (TB.code.keeps I.bk) hP' ht hc bP fun ctv h' tk hx hsz => ?_
    have I1 : Inv X pins σ H { s with heap := h'.push (PySem.W.kla_obj "<lambda>" (X.env.qual ++ "<lambda>") params body scope (cloFrom X.env.cells scope.names []) ((X.mg "__name__").getD .none) c' ctv), toks := tk } := I.kept fun b o e => Heap.get?_push_of_some _ (hx b o e)
    exact h h'.objs.size c' ((X.mg "__name__").getD .none) ctv H _ I1 (LamX.ExtN.refl H) (fun _ z => z) hT (Heap.get?_push_size _ rfl) (I.hok.fresh hsz) (nofr _ hsz) hco
def tLam3 (T : List (Addr × Str)) (TT : (XK → Hp → VK → Prop) → Hp → VK → Prop) (t : XK → TE) : TE := fun σ H Q => LamX.Tabs T H ∧ ∀ H1, LamX.ExtN H H1 → (∀ b, H1 b = none → H b = none) → LamX.Tabs T H1 → TT (fun E H' Q' => t E σ H' Q') H1 Q
theorem pe_lamcall3 {T : List (Addr × Str)} {TT : (XK → Hp → VK → Prop) → Hp → VK → Prop} {x a : Str} {g c P : Addr} {k : Nat} {pg : Arguments} {bg : List Stmt} {sg : Scope} {dV kV doc pm cdv ct oc : Value} {an od : Option Addr} {osl : Array (Option Value)} {Ng : List Str}
    {params : Arguments} {body : Expr} {scope : Scope} {t : XK → TE} {p lpos pos : Pos} (hg : Gl X x) (hm : X.mg x = some (.ref g)) (hk : PySem.W.keepIn X.K (.ref g) = true)
    (lk : X.K.lookup g = some ⟨oc, od, .func (PySem.W.fnOf x x pg bg sg dV kV doc pm an cdv ct), osl⟩) (hcg : PySem.W.codeIn X.K cdv x = true) (hb : L2.Binds X.K (PySem.W.fnOf x x pg bg sg dV kV doc pm an cdv ct) [a] []) (Sg : FnScope Ng [a] sg) (hNg : Ng[0]? = some a) (hva : Vis sg a)
    (hG : LamX.GivesTo X Ng x sg g cdv bg a (X.env.qual ++ "<lambda>") TT)
    (TB : LamX.TabB X.base X.mg c P) (hcode : X.env.code = .ref c) (hmT : (P, X.env.qual ++ "<lambda>") ∈ T) (hu : ∀ p ∈ T, p.1 = P → p.2 = X.env.qual ++ "<lambda>") (hr : Room (k + 2) X.A) (L : LamX.LamS X.env.scope scope) (hdef : defaultsOf params X.env = ([], []))
    (hbind : ∀ (q : Str) (cl : List (Str × Addr)) (pm cv ctv : Value), bindArgs (PySem.W.kla_fn "<lambda>" q params body scope cl pm cv ctv) ⟨[], []⟩ = pure [])
    (hbody : ∀ (A : Around) (outer : List Env) (s : Shared) (H : Hp) (E : XK) (f c' : Addr), Room k (A.deeper (LamX.lamEnv X scope s.heap.objs.size f c')) → PE (LamX.lamCx X A outer s H E scope f c') body (t E))
    (hdb : (x == ("__debug__" : Str)) = false := by decide) (hd : (a == ("__debug__" : Str)) = false := by decide) (hcd : (a == ("__classdict__" : Str)) = false := by decide) :
    PE X (.Call (.Name x p) [.Lambda params body scope lpos] [] pos) (tLam3 T TT t) := by
  refine ⟨fun pins s σ H Q I h => ?_⟩
  obtain ⟨hT, h⟩ := h
  refine wpAny_Call_Name_kw (ld_glob I hg hm ?_ hdb)
  refine PySem.W.callWith_K (h₀ := X.base) I.ok.mod.kin hk ?_ (by rfl) (by rfl)
  show wpAny _ _ (spliced ((false, eval (.Lambda params body scope lpos) X.env) :: backTo pos (starEach [] X.env))) _ _ s
  refine Calls.spliced_cons (lam_make3 I TB hcode hmT hu hT hdef (L.has I.ok) fun f c' pm' ctv H1 s' I1 eN eD T1 hf hfn hfr hco => ?_)
  refine Calls.spliced_nil ⟨I1.kIn, ?_⟩
  have rc : codeAny (model X.prog X.w) X.A (.call (.ref g) ⟨[.ref f], []⟩) (CR C8.CX0 X.stack X.prog X.w H1 s' Q C8.E0) s' := by
    refine LamX.run_ofS (N := Ng) (ps := [a]) (us := [.ref f]) (vs := [.ref f]) lk hcg Sg hr I1.env0 (hb s' [.ref f] I1.kIn rfl) (.cons rfl .nil) rfl fun hr' => ?_
    obtain ⟨t', ht', hq'⟩ := hG f c' s' H1 Q (fun E H' Q' => t E σ H' Q') (fun W pn xe E p1 p2 tk hW => LamX.pe_act (i := 0) I1 L hf hfn hfr (hbind _ _ _ _ _) tk hW hr' (fun A outer s H hr2 => hbody A outer s H E f c' hr2) hNg hva hd hcd) hco (h H1 eN eD T1)
    exact ⟨t', ht'.nox, hq'⟩
  refine wpAny_call (codeAny_mono rc fun r s2 hq => ?_)
  cases r with
  | error e => exact (show False from hq).elim
  | ok fl =>
    cases fl with
    | ret u => exact I1.after hq
    | next => exact False.elim hq
    | brk => exact False.elim hq
    | cont => exact False.elim hq
end
section
variable {X : Cx} {W : WX} {k : Nat} {st : Stmt} {c P : Addr} {params : Arguments} {body : Expr} {scope : Scope} {m : SE} {p lpos pos : Pos}
/-- the same world over another heap -/
def _root_.Mp.Wo.at (ω : Wo) (H : Hp) : Wo := { ω with H := H }
/-- the reading of a told exception -/
theorem told_read {K : PySem.W.Frag} {mg : Str → Option Value} {tab : TTab} {ω : Wo} {h : Hc} {x : Str} {fs : List Str} {vs : List D} {cls : Value} {dx : Option Addr} {Q : VK} {σ : L2.St} (ht : tab.map (·.2) = toldTab) (he : exmAll K tab = true) (hg : ∀ q ∈ tab, mg q.2.1 = some (.ref q.1))
    (ok : toldOk x fs vs.length = true) (r : Rel K ω h) (rx : RelX K mg ω x fs vs cls dx) (q : Post K mg W0 σ ω (RelD K) Q (.ok (.tup (.str x :: vs.reverse)) h)) : wTold K Q tab cls dx ω.H := by
  obtain ⟨C, dd, us, rfl, rfl, gC, hd, hl, rl⟩ := rx
  unfold toldOk at ok
  simp only [Bool.and_eq_true, List.any_eq_true, decide_eq_true_eq] at ok
  obtain ⟨⟨p0, hp, e1, e2⟩, nd, ln⟩ := ok
  rw [← ht] at hp
  obtain ⟨q0, hq, e3⟩ := List.mem_map.mp hp
  have gq := hg q0 hq
  have ex : q0.2.1 = x := by rw [e3, e1]
  rw [ex, gC] at gq
  have eC : C = q0.1 := by injection gq with z; injection z
  have mem : (C, x, fs.reverse) ∈ tab := by
    have : q0 = (C, x, fs.reverse) := by
      rw [eC, ← ex, ← e2, ← e3]
    rw [← this]; exact hq
  have lz := lookup_zip nd hl
  refine told_hit (vs := us.reverse) hd ?_ ?_ (fun t hn => ?_) tab he mem
  · rw [List.map_reverse, lz, List.map_reverse]
  · rw [List.length_reverse, ← hl]
    have : fs.length ≤ 2 := by
      have : fs.reverse ∈ toldTab.map (·.2) := by
        rw [← ht]
        exact List.mem_map.mpr ⟨_, List.mem_map.mpr ⟨_, mem, rfl⟩, rfl⟩
      have a : ∀ l ∈ toldTab.map (·.2), l.length ≤ 2 := by decide +kernel
      have := a _ this
      rwa [List.length_reverse] at this
    omega
  · refine q (.ref t) (ω.up t (.tup (.str x :: us.reverse))) (Ext.up hn) (r.up hn) ?_
    unfold RelD
    refine ⟨t, _, rfl, .inl (.inl upd_same), monoL r (Ext.up hn) _ _ (RelL.cons str_rd rl.reverse)⟩
theorem de_told (T : TellTxt X.K X.mg st) (TB : LawTab X.K X.mg X.base c P) (hcode : X.env.code = .ref c) (hq : X.env.qual ++ "<lambda>" = ("law.<locals>.<lambda>" : Str)) (hr : Room (k + 2) X.A) (L : LamX.LamS X.env.scope scope) (hg : Gl X "_law_told")
    (hdef : defaultsOf params X.env = ([], []))
    (hbind : ∀ (q : Str) (cl : List (Str × Addr)) (pm cv ctv : Value), bindArgs (PySem.W.kla_fn "<lambda>" q params body scope cl pm cv ctv) ⟨[], []⟩ = pure [])
    (hbody : ∀ (A : Around) (outer : List Env) (s : Shared) (H : Hp) (E : XK) (f c' : Addr), Room k (A.deeper (LamX.lamEnv X scope s.heap.objs.size f c')) → DE (LamX.lamCx X A outer s H E scope f c') (WF E) body m) :
    DE X W (.Call (.Name "_law_told" p) [.Lambda params body scope lpos] [] pos) (eTold m) := by
  obtain ⟨⟨g, fd, gm, F, bd⟩, S, sk, vd, vw, tab, j, kk, p1, p2, p3, p4, p5, p6, h₀, hds, eb, hh, ht, he⟩ := T
  obtain ⟨oc, od, kV, doc, pm, an, cdv, ct, osl, rfl, lk, hcd⟩ := F.ex
  have hG : LamX.GivesTo X ["deed", "why"] "_law_told" (defScope st) g cdv (defBody st) "deed" (X.env.qual ++ "<lambda>") (TTold X.K tab) := by
    rw [eb]
    exact told_gives hh (toldHs_g hh) sk (.inl vw) vw (by decide) (by decide) (by decide)
  have hgm := toldHs_m hh
  have eT : tabT X.K = [(P, X.env.qual ++ "<lambda>")] := by unfold tabT; rw [TB.ht, hq]
  refine de_of (pe_lamcall3 (T := tabT X.K) (t := fun E => tE X (WF E) m) hg gm F.kp lk hcd bd S rfl vd hG TB.tb hcode (by rw [eT]; simp) (fun q hq' _ => by rw [eT] at hq'; have := List.mem_singleton.mp hq'; rw [this]) hr L hdef hbind (fun A outer s H E f c' hr' => hbody A outer s H E f c' hr') (by decide) (by decide) (by decide)) fun σ H Q ⟨ω, h, ds, e1, r, s, pp⟩ => ?_
  subst e1
  refine ⟨r.tabs, fun H1 hE hD hT => ?_⟩
  have ex : Ext ω (ω.at H1) := ⟨Nat.le_refl _, fun _ _ => rfl, fun _ z => z, fun _ z => .inl z, fun i a b => absurd b (Nat.not_lt.mpr a), fun q z => hD q z, fun q o hq nt _ => hE q o hq nt⟩
  have hc : ∀ i, i < ω.n → (ω.at H1).H (ω.β i) = ω.H (ω.β i) := fun i hi => by
    obtain ⟨o, e, m⟩ := r.mut hi
    show H1 _ = _
    rw [e]
    exact hE _ _ e fun ps z => by rcases m with ⟨_, q⟩ | ⟨_, q⟩ <;> (rw [q] at z; cases z)
  have r1 : Rel X.K (ω.at H1) h := r.ext0 ex rfl (fun _ z => z) hc hT
  refine ⟨ω.at H1, h, ds, rfl, r1, monoS r ex s, ?_⟩
  have pp1 := Post.mono pp ex
  unfold eTold at pp1
  cases q : m ds h with
  | ok v h' =>
    rw [q] at pp1
    intro u ω' e' r' rv
    refine ⟨by rw [sizeLine_eq]; show 2 ≤ 16777216; decide, fun t hn => ?_⟩
    refine pp1 (.ref t) (ω'.up t (.tup [.str "value", u])) (e'.trans (Ext.up hn)) (r'.up hn) ?_
    unfold RelD
    exact ⟨t, _, rfl, .inl (.inl upd_same), monoL r' (Ext.up hn) _ _ (RelL.cons str_rd (RelL.cons rv RelL.nil))⟩
  | ex x fs vs h' =>
    rw [q] at pp1
    simp only at pp1
    obtain ⟨ok, pp1⟩ := pp1.if_
    intro cls dx ω' e' r' rx
    exact told_read (σ := σ) ht he hgm ok r' rx (Post.mono pp1 e')
  | bad => rw [q] at pp1; exact False.elim pp1
end
/-! ### the law's def, its code object known -/
def DefAtC (K : PySem.W.Frag) (mg : Str → Option Value) (x qual : Str) (st : Stmt) (ps : List Str) (c : Addr) : Prop := ∃ (f : Addr) (fd : FuncData), mg x = some (.ref f) ∧ Fun K x qual st f fd ∧ Binds K fd ps [] ∧ fd.code = .ref c
section
variable {P : Program} {w : World} {K : PySem.W.Frag} {mg : Str → Option Value} {base : Heap}
theorem fn_okC {x qual : Str} {st : Stmt} {f c : Addr} {fd : FuncData} {N ps : List Str} {k : Nat} {m : SS} (F : Fun K x qual st f fd) (hc : fd.code = .ref c) (S : FnScope N ps (defScope st))
    (hb : ∀ (A : Around) (outer : List Env) (s : Shared) (H : Hp) (E : XK), Room k (A.deeper (envOfC qual (defScope st) s.heap.objs.size f (.ref c))) →
      DSs (cxOf (L2.CX P w) P w K mg base N qual (defScope st) f (.ref c) A outer s H E) (WF E) (defBody st) m) :
    FnOk P w K mg base (L2.CX P w) (k + 1) f fd ps (spD K mg ps.length (runB N.length m)) := by
  obtain ⟨oc, od, kV, doc, pm, an, cdv, ct, osl, rfl, lk, hcd⟩ := F.ex
  have hc' : cdv = .ref c := hc
  subst hc'
  refine fn_of lk hcd S (fun vs H Q E h => h.1) fun A outer s H vs Q E hr h => ?_
  refine ⟨_, hb A outer s H E hr, ?_⟩
  obtain ⟨hl, ω, h, ds, e1, r, rl, p⟩ := h
  subst e1
  have e2 : N.length - ds.length = N.length - vs.length := by rw [rl.len]
  refine ⟨ω, h, ds.map some ++ List.replicate (N.length - ds.length) none, rfl, r, by rw [e2]; exact rl.slots, ?_⟩
  unfold runB at p
  cases q : m (ds.map some ++ List.replicate (N.length - ds.length) none) h with
  | nx ds' h' => rw [q] at p; exact fun σ' ω' e r' s' => p _ ω' e r' (by unfold RelD; rfl)
  | rt d h' => rw [q] at p; exact fun v ω' e r' s' => p _ ω' e r' s'
  | bk ds' h' => rw [q] at p; exact False.elim p
  | ct ds' h' => rw [q] at p; exact False.elim p
  | ex x fs vs' ds' h' => rw [q] at p; exact fun c d σ' ω' e r' s' rx => p c d ω' e r' rx
  | bad => rw [q] at p; exact False.elim p
theorem DefAtC.good {x qual : Str} {st : Stmt} {ps N : List Str} {k : Nat} {m : SS} {c : Addr} (D : DefAtC K mg x qual st ps c) (S : FnScope N ps (defScope st))
    (hb : ∀ (f : Addr) (A : Around) (outer : List Env) (s : Shared) (H : Hp) (E : XK), Room k (DefX P w K mg base N qual st f (.ref c) A outer s H E).A → DSs (DefX P w K mg base N qual st f (.ref c) A outer s H E) (WF E) (defBody st) m) :
    Good P w K mg base x (k + 1) ps (runB N.length m) := by
  obtain ⟨f, fd, g, F, b, hc⟩ := D
  exact ⟨f, fd, g, F.kp, b, fun_lk F, fn_okC F hc S fun A outer s H E hr => hb f A outer s H E hr⟩
end
/-- the law's table, from what is written -/
theorem tabIn_mk {K : PySem.W.Frag} {x : Str} {f c P : Addr} {oc oc2 : Value} {od od2 : Option Addr} {sl sl2 : Array (Option Value)} {fd : FuncData} {vs : Array Value} (h1 : PySem.W.nsIn K mainGlobals x = some (some (.ref f))) (h2 : K.lookup f = some ⟨oc, od, .func fd, sl⟩) (h3 : fd.code = .ref c)
    (h4 : K.lookup c = some ⟨oc2, od2, .fields vs, sl2⟩) (h5 : vs[11]? = some (.ref P)) : PySem.W.tabIn K x = some (c, P) := by
  unfold PySem.W.tabIn
  rw [h1]
  simp only [h2, h3, h4, h5]
end Mp
/-! LayZ: further words. -/
namespace Mp
open PySem PySem.Spec PyProof.Rows L2
section
variable {X : Cx} {W : WX} {o i e o2 i2 : Expr} {mo mi me mo2 mi2 : SE} {as : SA} {pos posA p1 p2 : Pos} {k : Nat} {es : List Expr}
/-! ### xs[i], ys[j] = a, b -/
def sSw (as : SA) (mo mi mo2 mi2 : SE) : SS := fun ds h => sBd (as ds h) ds fun xs h1 => match xs with
  | [x, y] => sBd (mo ds h1) ds fun o h2 => sBd (mi ds h2) ds fun i h3 => match setF o i x h3 with
    | some h4 => sBd (mo2 ds h4) ds fun o2 h5 => sBd (mi2 ds h5) ds fun i2 h6 => match setF o2 i2 y h6 with
      | some h7 => .nx ds h7
      | none => .bad
    | none => .bad
  | _ => .bad
theorem ds_sw (h : PS X (.Assign [.Tuple [.Subscript o i p1, .Subscript o2 i2 p2] k pos] e posA) (tAsg (tTup (tA X W as)) (gTup X.K 2 (gCons (gSub (tE X W mo) (tE X W mi) rSetL) (gCons (gSub (tE X W mo2) (tE X W mi2) rSetL) gNil))))) :
    DS X W (.Assign [.Tuple [.Subscript o i p1, .Subscript o2 i2 p2] k pos] e posA) (sSw as mo mi mo2 mi2) := ds_of h fun E σ H ⟨ω, h, ds, e1, r, s, p⟩ => by
  subst e1
  refine ⟨ω, h, ds, rfl, r, s, PostO.bd r s p fun xs h1 vs ω1 e1 r1 rl s1 p1 => ?_⟩
  split at p1
  · rename_i x y
    obtain ⟨v, ws, rfl, rv, r2⟩ := rl.inv
    obtain ⟨u, ws2, rfl, ru, r3⟩ := r2.inv
    rw [r3.inv0]
    refine ⟨by rw [sizeLine_eq]; show 2 ≤ 16777216; decide, fun t ht => ?_⟩
    have e2 := Ext.up (o := .tup [v, u]) ht
    have r4 := r1.up (o := .tup [v, u]) ht
    have s4 := monoS r1 e2 s1
    refine ⟨t, _, rfl, .inl (.inl upd_same), rfl, v, _, rfl, ?_⟩
    refine ⟨ω1.up t (.tup [v, u]), h1, ds, rfl, r4, s4, PostO.bd r4 s4 (PostO.mono p1 e2) fun o' h2 ov ω2 e3 r5 d5 s5 p2 => ⟨ω2, h2, ds, rfl, r5, s5, PostO.bd r5 s5 p2 fun i' h3 iv ω3 e4 r6 d6 s6 p3 => ?_⟩⟩
    cases q : setF o' i' x h3 with
    | none => simp only [q] at p3; exact False.elim p3
    | some h4 =>
      simp only [q] at p3
      refine sd_set ω3 h3 h4 o' i' x ov iv v _ r6 (mono r5 e4 _ _ d5) d6 (mono r1 ((e2.trans e3).trans e4) _ _ rv) q fun ω4 e5 r7 => ?_
      have s7 := monoS r6 e5 s6
      refine ⟨u, _, rfl, ω4, h4, ds, rfl, r7, s7, PostO.bd r7 s7 (PostO.mono p3 e5) fun o'' h5 ov2 ω5 e6 r8 d8 s8 p4 => ⟨ω5, h5, ds, rfl, r8, s8, PostO.bd r8 s8 p4 fun i'' h6 iv2 ω6 e7 r9 d9 s9 p5 => ?_⟩⟩
      cases q2 : setF o'' i'' y h6 with
      | none => simp only [q2] at p5; exact False.elim p5
      | some h7 =>
        simp only [q2] at p5
        exact sd_set ω6 h6 h7 o'' i'' y ov2 iv2 u _ r9 (mono r8 e7 _ _ d8) d9 (mono r1 (((((e2.trans e3).trans e4).trans e5).trans e6).trans e7) _ _ ru) q2 fun ω7 e8 r10 => ⟨rfl, p5 σ ω7 e8 r10 (monoS r9 e8 s9)⟩
  · exact False.elim p1
/-! ### xs[i] op= e, d[k] op= e -/
def sAugS (fget fop : D → D → Hc → R D) (fset : D → D → D → Hc → Option Hc) (mo mi me : SE) : SS := fun ds h => sBd (mo ds h) ds fun o h1 => sBd (mi ds h1) ds fun i h2 => sBd (fget o i h2) ds fun x h3 => sBd (me ds h3) ds fun y h4 => sBd (fop x y h4) ds fun z h5 => match fset o i z h5 with
  | some h6 => .nx ds h6
  | none => .bad
def ixlF (x y : D) (h : Hc) : R D := match rdlD h x, y with
  | some xs, .int i => match atI xs i with
    | some d => .ok d h
    | none => .bad
  | _, _ => .bad
theorem opd_ixl : OpD X (rIxL X.K) ixlF := fun W σ ω h x y v u Q r rx ry p => by
  unfold ixlF at p
  split at p
  · rename_i xs i q
    split at p
    · rename_i d q2
      obtain ⟨a, vs, e1, e2, e3⟩ := rdlD_rel r q rx
      obtain ⟨w, e4, e5⟩ := atI_rel e3 q2
      exact ⟨a, vs, i, w, e1, rd_int ry, e2, e4, p.here r e5⟩
    · exact False.elim p
  · exact False.elim p
theorem get_list : PGet X (rIxL X.K) := by
  intro pins s σ H x y v u Q I rx ry h
  obtain ⟨p, xs, i, z, rfl, rfl, hq, he, q⟩ := h
  cases rx
  obtain ⟨t, rfl⟩ := ry
  obtain ⟨its, r, pl, hz⟩ := I.list hq
  obtain ⟨j, h1, h2, h3, h4, h5⟩ := atI_get he
  obtain ⟨w, ew, rw'⟩ := r.get h2
  have hl := r.length
  have hn := line63
  have fin : EP X pins σ Q w s := ⟨z, H, I, rw', q⟩
  by_cases h0 : 0 ≤ i
  · have hj : i.toNat = j := by
      rw [seqIndex_of h0 h5] at h1
      exact Option.some.inj h1
    exact wpAny_getItem_list (Q := fun r s' => EP X pins σ Q r s') pl.isList h0 (by omega) (by rw [hj]; simpa using ew) fin
  · have hj : (i + (its.toArray.size : Int)).toNat = j := by
      rw [seqIndex_neg (by omega) h4] at h1
      rw [List.size_toArray, ← hl]
      exact Option.some.inj h1
    exact wpAny_getItem_list_neg (Q := fun r s' => EP X pins σ Q r s') pl.isList (by omega) (by rw [List.size_toArray] <;> omega) (by omega) (by rw [hj]; simpa using ew) fin
theorem ds_augL {op : Operator} {tip : TIp} {f : D → D → Hc → R D} (h : PS X (.AugAssign (.Subscript o i p1) op e pos) (tAugS (tE X W mo) (tE X W mi) (tE X W me) (rIxL X.K) tip rSetL)) (hf : OpD X tip f) :
    DS X W (.AugAssign (.Subscript o i p1) op e pos) (sAugS ixlF f setF mo mi me) := ds_of h fun E σ H ⟨ω, h, ds, e1, r, s, p⟩ => by
  subst e1
  refine ⟨ω, h, ds, rfl, r, s, PostO.bd r s p fun o' h1 ov ω1 e1 r1 d1 s1 p1 => ⟨ω1, h1, ds, rfl, r1, s1, PostO.bd r1 s1 p1 fun i' h2 iv ω2 e2 r2 d2 s2 p2 => ?_⟩⟩
  refine opd_ixl W σ ω2 h2 o' i' ov iv _ r2 (mono r1 e2 _ _ d1) d2 (PostO.bd r2 s2 p2 fun x h3 xv ω3 e3 r3 d3 s3 p3 => ?_)
  refine ⟨ω3, h3, ds, rfl, r3, s3, PostO.bd r3 s3 p3 fun y h4 yv ω4 e4 r4 d4 s4 p4 => ?_⟩
  refine hf W σ ω4 h4 x y xv yv _ r4 (mono r3 e4 _ _ d3) d4 (PostO.bd r4 s4 p4 fun z h5 zv ω5 e5 r5 d5 s5 p5 => ?_)
  cases q : setF o' i' z h5 with
  | none => simp only [q] at p5; exact False.elim p5
  | some h6 =>
    simp only [q] at p5
    exact sd_set ω5 h5 h6 o' i' z ov iv zv _ r5 (mono r1 (((e2.trans e3).trans e4).trans e5) _ _ d1) (mono r2 ((e3.trans e4).trans e5) _ _ d2) d5 q fun ω6 e6 r6 => p5 σ ω6 e6 r6 (monoS r5 e6 s5)
end
/-! ### xs + ys, that is then changed -/
def addC (x y : D) (h : Hc) : R D := match lstD h x, lstD h y with
  | some xs, some ys => if xs.length + ys.length ≤ lim then .ok (.ref h.length) (h ++ [.lst (xs ++ ys)]) else .bad
  | _, _ => .bad
/-! ### what is never reached -/
section
variable {X : Cx} {W : WX} {e tg : Expr} {es : List Expr}
def eBad : SE := fun _ _ => .bad
def bBad : SB := fun _ _ => .bad
def iBad : SI := fun _ _ => .bad
def aBad : SA := fun _ _ => .bad
end
end Mp
/-! LayW: a, b, c = ..; {k: v}; xs.index(x); d.get(..). -/
namespace Mp
open PySem PySem.Spec PyProof.Rows L2
section
variable {X : Cx} {W : WX} {e o k v : Expr} {mo me mx : SE} {as : SA} {pos apos cpos : Pos}
/-! ### a, b, c = x, y, z -/
def sPar3 (i j l : Nat) (as : SA) : SS := fun ds h => sBd (as ds h) ds fun xs h1 => match xs with
  | [x, y, z] => .nx (((ds.set i (some x)).set j (some y)).set l (some z)) h1
  | _ => .bad
/-! ### {k: v} of plain words -/
structure Pl (X : Cx) (e : Expr) (g : Sl → Option D) : Prop where
  ex : ∃ t : TE, PE X e t ∧ ∀ (σ : L2.St) (ω : Wo) (ds : Sl) (d : D), RelS X.K ω ds σ → g ds = some d → ∃ v, RelD X.K ω d v ∧ ∀ (H : Hp) (Q : VK), Q v H → t σ H Q
def gVar (i : Nat) : Sl → Option D := fun ds => match ds[i]? with
  | some (some d) => some d
  | _ => none
def gC (d : D) : Sl → Option D := fun _ => some d
theorem pl_var {i : Nat} (h : PE X e (tVar i)) : Pl X e (gVar i) := ⟨tVar i, h, fun σ ω ds d s q => by
  unfold gVar at q
  split at q
  · rename_i d' q'
    cases q
    obtain ⟨v, e2, rd⟩ := s.2 i d q'
    exact ⟨v, rd, fun H Q z => ⟨v, e2, z⟩⟩
  · cases q⟩
theorem pl_c {v : V} {d : D} (h : PE X e (tC v)) (hd : ∀ ω, RelD X.K ω d v) : Pl X e (gC d) := ⟨tC v, h, fun σ ω ds d s q => by
  cases q
  exact ⟨v, hd ω, fun H Q z => z⟩⟩
theorem pl_bl {b : Bool} {j : Nat} : Pl X (.Constant (.bool b) j pos) (gC (.bl b)) := pl_c pe_bl fun _ => by unfold RelD; rfl
def eDct1 (gk gv : Sl → Option D) : SE := fun ds h => match gk ds, gv ds with
  | some x, some y => match keyD x with
    | some kk => .ok (.ref h.length) (h ++ [.dct [kk] [y]])
    | none => .bad
  | _, _ => .bad
theorem de_dct1 {gk gv : Sl → Option D} (hk : Pl X k gk) (hv : Pl X v gv) : DE X W (.Dict [some k] [v] pos) (eDct1 gk gv) := by
  obtain ⟨tk, pk, ak⟩ := hk.ex
  obtain ⟨tv, pv, av⟩ := hv.ex
  refine de_of (pe_disp (pps_cons pk pv pps_nil) rfl rfl (by simp) (by simp)) fun σ H Q ⟨ω, h, ds, e1, r, s, p⟩ => ?_
  subst e1
  unfold eDct1 at p
  split at p
  · rename_i x y q1 q2
    split at p
    · rename_i kk q3
      obtain ⟨xv, rx, fx⟩ := ak σ ω ds x s q1
      obtain ⟨yv, ry, fy⟩ := av σ ω ds y s q2
      intro q hq
      refine fx _ _ (fy _ _ ⟨upd_same, [(kk, yv)], ?_, by simp, ?_⟩)
      · rw [keyD_rel q3 rx]; rfl
      · rw [upd_upd]
        have z := cell_newD (ks := [kk]) (xs := [y]) (vs := [yv]) r hq rfl (RelL.cons ry RelL.nil)
        exact p (.ref q) (ω.cell q (.dK [(kk, yv)])) (Ext.cell hq) z.1 z.2
    · exact False.elim p
  · exact False.elim p
/-! ### xs.index(i), of ints -/
def allI : List D → Bool
  | [] => true
  | .int _ :: r => allI r
  | _ => false
def idxI : List D → Int → Option Nat
  | .int a :: r, i => if a = i then some 0 else (idxI r i).map (· + 1)
  | _, _ => none
def idxF (x : D) (as : List D) (h : Hc) : R D := match lstD h x, as with
  | some xs, [.int i] => if allI xs = true then (match idxI xs i with
      | some j => .ok (.int (j : Nat)) h
      | none => .bad) else .bad
  | _, _ => .bad
end
end Mp
/-! LayS: how the mirrors are reckoned. -/
namespace Mp
open PySem PySem.Spec PyProof.Rows L2
@[simp] theorem lim_eq : lim = 1000000 := Eq.trans rfl rfl
section
variable (i j : Nat) (ds : Sl) (h : Hc) (d x y : D) (f : D → D → Hc → R D) (m ma mb : SE) (t u : SB) (as : SA) (a b : SS)
@[simp] theorem eVar_s : eVar i ds h = match ds[i]? with
  | some (some d) => .ok d h
  | _ => .bad := Eq.trans rfl rfl
@[simp] theorem eC_s : eC d ds h = .ok d h := Eq.trans rfl rfl
@[simp] theorem eOp_s : eOp f ma mb ds h = (ma ds h).bd fun x h1 => (mb ds h1).bd fun y h2 => f x y h2 := Eq.trans rfl rfl
@[simp] theorem eUn_s (g : D → Hc → R D) : eUn g ma ds h = (ma ds h).bd fun x h1 => g x h1 := Eq.trans rfl rfl
@[simp] theorem isBl_bl (b : Bool) : isBl (.bl b) = some b := Eq.trans rfl rfl
@[simp] theorem eAnd_s : eAnd ma mb ds h = (ma ds h).bd fun x h1 => match isBl x with
  | some true => mb ds h1
  | some false => .ok (.bl false) h1
  | none => .bad := Eq.trans rfl rfl
@[simp] theorem eNot_s : eNot ma ds h = (ma ds h).bd fun x h1 => match isBl x with
  | some b => .ok (.bl (!b)) h1
  | none => .bad := Eq.trans rfl rfl
@[simp] theorem eIf_s : eIf t ma mb ds h = (t ds h).bd fun b h1 => if b = true then ma ds h1 else mb ds h1 := Eq.trans rfl rfl
@[simp] theorem bEx_s : bEx m ds h = (m ds h).bd fun x h1 => match isBl x with
  | some b => .ok b h1
  | none => .bad := Eq.trans rfl rfl
@[simp] theorem bTru_s : bTru m ds h = (m ds h).bd fun x h1 => match truD h1 x with
  | some b => .ok b h1
  | none => .bad := Eq.trans rfl rfl
@[simp] theorem bAnd_s : bAnd t u ds h = (t ds h).bd fun b h1 => if b = true then u ds h1 else .ok false h1 := Eq.trans rfl rfl
@[simp] theorem bOr_s : bOr t u ds h = (t ds h).bd fun b h1 => if b = true then .ok true h1 else u ds h1 := Eq.trans rfl rfl
@[simp] theorem bNot_s : bNot t ds h = (t ds h).bd fun b h1 => .ok (!b) h1 := Eq.trans rfl rfl
@[simp] theorem aNil_s : aNil ds h = .ok [] h := Eq.trans rfl rfl
@[simp] theorem aCons_s : aCons m as ds h = (m ds h).bd fun x h1 => (as ds h1).bd fun xs h2 => .ok (x :: xs) h2 := Eq.trans rfl rfl
@[simp] theorem eTup_s : eTup as ds h = (as ds h).bd fun xs h1 => if xs.length ≤ 1000000 then .ok (.tup xs) h1 else .bad := Eq.trans rfl rfl
@[simp] theorem eLst_s : eLst as ds h = (as ds h).bd fun xs h1 => if xs.length ≤ 1000000 then .ok (.lst xs) h1 else .bad := Eq.trans rfl rfl
@[simp] theorem eCell_s : eCell as ds h = (as ds h).bd fun xs h1 => if xs.length ≤ 1000000 then .ok (.ref h1.length) (h1 ++ [.lst xs]) else .bad := Eq.trans rfl rfl
@[simp] theorem eCB_s (g : List D → Hc → R D) : eCB g as ds h = (as ds h).bd fun xs h1 => g xs h1 := Eq.trans rfl rfl
@[simp] theorem eCall_s (g : Fn) : eCall g as ds h = (as ds h).bd fun xs h1 => callL g xs h1 := Eq.trans rfl rfl
@[simp] theorem eBM_s (T : String) (g : D → List D → Hc → R D) : eBM T g m as ds h = (m ds h).bd fun x h1 => if kindOk h1 T x = true then (as ds h1).bd fun xs h2 => g x xs h2 else .bad := Eq.trans rfl rfl
@[simp] theorem eBM0_s (T : String) (g : D → List D → Hc → R D) : eBM0 T g m ds h = (m ds h).bd fun x h1 => if kindOk h1 T x = true then g x [] h1 else .bad := Eq.trans rfl rfl
@[simp] theorem eIs2_s (p q : String) : eIs2 m p q ds h = (m ds h).bd fun x h1 => match tyD h1 x with
  | some t => if tyAsked.contains p = true ∧ tyAsked.contains q = true then .ok (.bl (isB t p || isB t q)) h1 else .bad
  | none => .bad := Eq.trans rfl rfl
@[simp] theorem eSl_s (g : D → Option Int → Option Int → Hc → R D) (lo hi : Option SE) : eSl g m lo hi ds h = (m ds h).bd fun x h1 => (optI lo ds h1).bd fun l h2 => (optI hi ds h2).bd fun u h3 => g x l u h3 := Eq.trans rfl rfl
@[simp] theorem optI_none : optI none ds h = .ok none h := Eq.trans rfl rfl
@[simp] theorem optI_some : optI (some m) ds h = (m ds h).bd fun d h1 => match d with
    | .int i => .ok (some i) h1
    | _ => .bad := Eq.trans rfl rfl
/-! ### statements -/
def O.sq (o : O) (b : SS) : O := match o with
  | .nx ds h => b ds h
  | o => o
@[simp] theorem sq_nx : (O.nx ds h).sq b = b ds h := Eq.trans rfl rfl
@[simp] theorem sq_rt : (O.rt d h).sq b = .rt d h := Eq.trans rfl rfl
@[simp] theorem sq_bk : (O.bk ds h).sq b = .bk ds h := Eq.trans rfl rfl
@[simp] theorem sq_ex (z : Str) (fs : List Str) (vs : List D) : (O.ex z fs vs ds h).sq b = .ex z fs vs ds h := Eq.trans rfl rfl
@[simp] theorem sSeq_s : sSeq a b ds h = (a ds h).sq b := by
  unfold sSeq O.sq; cases a ds h <;> rfl
@[simp] theorem sNext_s : sNext ds h = .nx ds h := Eq.trans rfl rfl
@[simp] theorem sRet_s : sRet m ds h = sBd (m ds h) ds fun d h1 => .rt d h1 := Eq.trans rfl rfl
@[simp] theorem sDrop_s : sDrop m ds h = sBd (m ds h) ds fun _ h1 => .nx ds h1 := Eq.trans rfl rfl
@[simp] theorem sIf_s : sIf t a b ds h = sBd (t ds h) ds fun c h1 => if c = true then a ds h1 else b ds h1 := Eq.trans rfl rfl
@[simp] theorem sSet_s : sSet i m ds h = sBd (m ds h) ds fun d h1 => .nx (ds.set i (some d)) h1 := Eq.trans rfl rfl
@[simp] theorem sAug_s (g : D → D → Hc → R D) : sAug i g m ds h = match ds[i]? with
  | some (some x) => sBd ((m ds h).bd fun y h1 => g x y h1) ds fun z h2 => .nx (ds.set i (some z)) h2
  | _ => .bad := Eq.trans rfl rfl
@[simp] theorem sPut_s (g : D → D → D → Hc → Option Hc) (me mo mi : SE) : sPut g me mo mi ds h = sBd (me ds h) ds fun x h1 => sBd (mo ds h1) ds fun o h2 => sBd (mi ds h2) ds fun i h3 => match g o i x h3 with
  | some h4 => .nx ds h4
  | none => .bad := Eq.trans rfl rfl
@[simp] theorem sFor_s (mi : SI) (p : Pt) : sFor mi p b ds h = sBd (mi ds h) ds fun it h1 => fl it.chk p b it.items ds h1 := Eq.trans rfl rfl
@[simp] theorem iSeq_s : iSeq m ds h = (m ds h).bd fun d h1 => match seqD h1 d with
  | some xs => .ok ⟨xs, chkQ d xs⟩ h1
  | none => .bad := Eq.trans rfl rfl
@[simp] theorem chkQ_tup (xs : List D) : chkQ (.tup xs) xs = fun _ => true := funext fun _ => chkQ_of (Eq.trans rfl rfl)
@[simp] theorem chkQ_lst (xs : List D) : chkQ (.lst xs) xs = fun _ => true := funext fun _ => chkQ_of (Eq.trans rfl rfl)
def rg1F (xs : List D) (h : Hc) : R ItD := match xs with
  | [.int j] => if -(2 ^ 62) ≤ j ∧ j < 2 ^ 62 then .ok ⟨upFrom 0 j.toNat, fun _ => true⟩ h else .bad
  | _ => .bad
def rg2F (xs : List D) (h : Hc) : R ItD := match xs with
  | [.int i, .int j] => if -(2 ^ 62) ≤ i ∧ i < 2 ^ 62 ∧ -(2 ^ 62) ≤ j ∧ j < 2 ^ 62 then .ok ⟨upFrom i (j - i).toNat, fun _ => true⟩ h else .bad
  | _ => .bad
@[simp] theorem iRg1_s : iRg1 as ds h = (as ds h).bd rg1F := Eq.trans rfl rfl
@[simp] theorem iRg2_s : iRg2 as ds h = (as ds h).bd rg2F := Eq.trans rfl rfl
/-- a number that a walk of a range can take -/
def rgOk (j : Int) : Bool := decide (-4611686018427387904 ≤ j) && decide (j < 4611686018427387904)
theorem rgOk_of {j : Int} (h1 : -4611686018427387904 ≤ j) (h2 : j < 4611686018427387904) : rgOk j = true := by unfold rgOk; simp [h1, h2]
theorem rgOk_spec {j : Int} : rgOk j = true ↔ -(2 ^ 62) ≤ j ∧ j < 2 ^ 62 := by
  unfold rgOk
  simp only [Bool.and_eq_true, decide_eq_true_eq]
  have : (2 : Int) ^ 62 = 4611686018427387904 := by decide +kernel
  rw [this]
@[simp] theorem rg1F_int (j : Int) : rg1F [.int j] h = if rgOk j = true then .ok ⟨upFrom 0 j.toNat, fun _ => true⟩ h else .bad := by
  unfold rg1F
  by_cases q : rgOk j = true
  · have := rgOk_spec.mp q
    simp only [q, this, and_self, if_true]
  · have : ¬ (-(2 ^ 62) ≤ j ∧ j < 2 ^ 62) := fun z => q (rgOk_spec.mpr z)
    simp only [q, this, if_false, Bool.false_eq_true]
@[simp] theorem rg2F_int (i j : Int) : rg2F [.int i, .int j] h = if rgOk i = true ∧ rgOk j = true then .ok ⟨upFrom i (j - i).toNat, fun _ => true⟩ h else .bad := by
  unfold rg2F
  by_cases q : rgOk i = true ∧ rgOk j = true
  · have h1 := rgOk_spec.mp q.1
    have h2 := rgOk_spec.mp q.2
    simp only [q, h1, h2, and_self, if_true]
  · have : ¬ (-(2 ^ 62) ≤ i ∧ i < 2 ^ 62 ∧ -(2 ^ 62) ≤ j ∧ j < 2 ^ 62) := fun z => q ⟨rgOk_spec.mpr ⟨z.1, z.2.1⟩, rgOk_spec.mpr z.2.2⟩
    simp only [q, this, if_false]
theorem rgOk_nat {n : Nat} (hn : n < 4000000000000000000) : rgOk (n : Int) = true := rgOk_of (by omega) (by omega)
@[simp] theorem seqD_tup (xs : List D) : seqD h (.tup xs) = some xs := Eq.trans rfl rfl
@[simp] theorem seqD_lst (xs : List D) : seqD h (.lst xs) = some xs := Eq.trans rfl rfl
@[simp] theorem seqD_ref : seqD h (.ref i) = match h[i]? with
    | some (.lst xs) => some xs
    | _ => none := Eq.trans rfl rfl
@[simp] theorem rdlD_lst (xs : List D) : rdlD h (.lst xs) = some xs := Eq.trans rfl rfl
@[simp] theorem rdlD_scr (xs : List D) : rdlD h (.scr xs) = some xs := Eq.trans rfl rfl
@[simp] theorem rdlD_ref : rdlD h (.ref i) = match h[i]? with
    | some (.lst xs) => some xs
    | _ => none := Eq.trans rfl rfl
@[simp] theorem bindP_n : bindP h (.n i) d ds = some (ds.set i (some d)) := by unfold bindP; rfl
@[simp] theorem bindP_t (ps : List Pt) : bindP h (.t ps) d ds = match seqD h d with
    | some xs => bindPs h ps xs ds
    | none => none := by
  conv => lhs; unfold bindP
  all_goals rfl
@[simp] theorem bindPs_nil : bindPs h [] [] ds = some ds := by unfold bindPs; rfl
@[simp] theorem bindPs_cons (p : Pt) (ps : List Pt) (xs : List D) : bindPs h (p :: ps) (x :: xs) ds = match bindP h p x ds with
    | some ds1 => bindPs h ps xs ds1
    | none => none := by
  conv => lhs; unfold bindPs
  all_goals rfl
/-! ### turns of a loop, its body as it is -/
section
variable {chk : Hc → Bool} {p : Pt} {b : SS} {d : D} {r : List D} {ds ds1 ds' : Sl} {h h' : Hc} {i : Nat}
theorem fl_end (hc : chk h = true) : fl chk p b [] ds h = .nx ds h := by
  unfold fl
  rw [if_pos hc]
theorem fl_nx (hc : chk h = true) (e1 : bindP h p d ds = some ds1) (e2 : b ds1 h = .nx ds' h') : fl chk p b (d :: r) ds h = fl chk p b r ds' h' := by
  conv => lhs; unfold fl
  rw [if_pos hc, e1]
  simp only [e2]
theorem fl_bk (hc : chk h = true) (e1 : bindP h p d ds = some ds1) (e2 : b ds1 h = .bk ds' h') : fl chk p b (d :: r) ds h = .nx ds' h' := by
  conv => lhs; unfold fl
  rw [if_pos hc, e1]
  simp only [e2]
/-- one turn over a name -/
theorem fl_n (e2 : b (ds.set i (some d)) h = .nx ds' h') : fl (fun _ => true) (.n i) b (d :: r) ds h = fl (fun _ => true) (.n i) b r ds' h' := fl_nx rfl (bindP_n ..) e2
end
/-! ### runs -/
def O.fin : O → R D
  | .nx _ h' => .ok .non h'
  | .rt d h' => .ok d h'
  | .ex x fs vs _ h' => .ex x fs vs h'
  | _ => .bad
@[simp] theorem fin_rt : (O.rt d h).fin = .ok d h := Eq.trans rfl rfl
@[simp] theorem fin_ex (z : Str) (fs : List Str) (vs : List D) : (O.ex z fs vs ds h).fin = .ex z fs vs h := Eq.trans rfl rfl
theorem runB_s (n : Nat) (xs : List D) : runB n a xs h = (a (xs.map some ++ List.replicate (n - xs.length) none) h).fin := by
  unfold runB O.fin; cases a _ h <;> rfl
end
/-! ### values -/
section
variable (h : Hc) (i j : Int) (s t : Str) (b c : Bool)
@[simp] theorem eq_int (neg : Bool) : eqG neg (.int i) (.int j) h = .ok (.bl (if neg then !decide (i = j) else decide (i = j))) h := Eq.trans rfl rfl
@[simp] theorem eq_str (neg : Bool) : eqG neg (.str s) (.str t) h = .ok (.bl (if neg then !decide (s = t) else decide (s = t))) h := Eq.trans rfl rfl
@[simp] theorem eq_bl (neg : Bool) : eqG neg (.bl b) (.bl c) h = .ok (.bl (if neg then !decide (b = c) else decide (b = c))) h := Eq.trans rfl rfl
@[simp] theorem isN_int : isN (.int i) = false := Eq.trans rfl rfl
@[simp] theorem isN_str : isN (.str s) = false := Eq.trans rfl rfl
@[simp] theorem isN_bl : isN (.bl b) = false := Eq.trans rfl rfl
@[simp] theorem isN_non : isN .non = true := Eq.trans rfl rfl
@[simp] theorem isN_tup (xs : List D) : isN (.tup xs) = false := Eq.trans rfl rfl
@[simp] theorem flat_int : flat (.int i) = true := by unfold flat; rfl
@[simp] theorem flat_str : flat (.str s) = true := by unfold flat; rfl
@[simp] theorem flat_bl : flat (.bl b) = true := by unfold flat; rfl
@[simp] theorem flat_non : flat .non = true := by unfold flat; rfl
@[simp] theorem flat_ref (n : Nat) : flat (.ref n) = false := by unfold flat; rfl
@[simp] theorem flat_tup (xs : List D) : flat (.tup xs) = flatL xs := by conv => lhs; unfold flat
@[simp] theorem flat_lst (xs : List D) : flat (.lst xs) = flatL xs := by conv => lhs; unfold flat
@[simp] theorem flat_scr (xs : List D) : flat (.scr xs) = flatL xs := by conv => lhs; unfold flat
@[simp] theorem flatL_nil : flatL [] = true := by unfold flatL; rfl
@[simp] theorem flatL_cons (x : D) (xs : List D) : flatL (x :: xs) = (flat x && flatL xs) := by conv => lhs; unfold flatL
@[simp] theorem flatL_ints (ns : List Int) : flatL (ns.map D.int) = true := by induction ns <;> simp_all
theorem flatL_map {α : Type} (g : α → D) (hg : ∀ a, flat (g a) = true) (xs : List α) : flatL (xs.map g) = true := by induction xs <;> simp_all
@[simp] theorem flatC_lst (xs : List D) : flatC (.lst xs) = flatL xs := Eq.trans rfl rfl
@[simp] theorem tyD_int : tyD h (.int i) = some "int" := Eq.trans rfl rfl
@[simp] theorem tyD_str : tyD h (.str s) = some "str" := Eq.trans rfl rfl
@[simp] theorem tyD_bl : tyD h (.bl b) = some "bool" := Eq.trans rfl rfl
@[simp] theorem tyD_non : tyD h .non = some "NoneType" := Eq.trans rfl rfl
@[simp] theorem tyD_tup (xs : List D) : tyD h (.tup xs) = some "tuple" := Eq.trans rfl rfl
@[simp] theorem tyD_lst (xs : List D) : tyD h (.lst xs) = some "list" := Eq.trans rfl rfl
@[simp] theorem isF_s (d : D) (c : String) : isF [d, .ty c] h = match tyD h d with
    | some t => if tyAsked.contains c = true then .ok (.bl (isB t c)) h else .bad
    | none => .bad := Eq.trans rfl rfl
@[simp] theorem lenF_lst (xs : List D) : lenF [.lst xs] h = .ok (.int xs.length) h := Eq.trans rfl rfl
@[simp] theorem lenF_tup (xs : List D) : lenF [.tup xs] h = .ok (.int xs.length) h := Eq.trans rfl rfl
@[simp] theorem lenF_str : lenF [.str s] h = if s.length ≤ lim then .ok (.int s.length) h else .bad := Eq.trans rfl rfl
theorem lenF_ref {n : Nat} {xs : List D} (e : h[n]? = some (.lst xs)) : lenF [.ref n] h = .ok (.int xs.length) h := by simp [lenF, e]
@[simp] theorem tupleF_lst (xs : List D) : tupleF [.lst xs] h = .ok (.tup xs) h := Eq.trans rfl rfl
@[simp] theorem listF_lst (xs : List D) : listF [.lst xs] h = .ok (.lst xs) h := Eq.trans rfl rfl
@[simp] theorem ixF_tup (xs : List D) : ixF (.tup xs) (.int i) h = match atI xs i with
    | some d => .ok d h
    | none => .bad := Eq.trans rfl rfl
@[simp] theorem ixF_lst (xs : List D) : ixF (.lst xs) (.int i) h = match atI xs i with
    | some d => .ok d h
    | none => .bad := Eq.trans rfl rfl
theorem ixF_ref {n : Nat} {xs : List D} (e : h[n]? = some (.lst xs)) : ixF (.ref n) (.int i) h = match atI xs i with
    | some d => .ok d h
    | none => .bad := by
  simp [ixF, e]
  all_goals rfl
theorem atI_of {α : Type} {xs : List α} {i : Int} (h0 : 0 ≤ i) (h1 : i < xs.length) : atI xs i = xs[i.toNat]? := by
  unfold atI ixN
  rw [if_pos h0, if_pos h1]; rfl
theorem atI_nat' {α : Type} {xs : List α} {n : Nat} (h1 : n < xs.length) : atI xs (n : Int) = xs[n]? := by
  rw [atI_of (by omega) (by omega)]; simp
@[simp] theorem atI_0 {α : Type} (x : α) (xs : List α) : atI (x :: xs) 0 = some x := by rw [atI_of (by omega) (by simp only [List.length_cons]; omega)]; rfl
@[simp] theorem atI_1 {α : Type} (x y : α) (xs : List α) : atI (x :: y :: xs) 1 = some y := by rw [atI_of (by omega) (by simp only [List.length_cons]; omega)]; rfl
theorem mulOk_l (h1 : -18446744073709551616 < i) (h2 : i < 18446744073709551616) : mulOk i j = true := by unfold mulOk; simp; exact .inl (.inl ⟨h1, h2⟩)
theorem mulOk_r (h1 : -18446744073709551616 < j) (h2 : j < 18446744073709551616) : mulOk i j = true := by unfold mulOk; simp; exact .inl (.inr ⟨h1, h2⟩)
theorem divOk_of (h0 : j ≠ 0) (h1 : -(2 ^ 64) < j) (h2 : j < 2 ^ 64) : divOk j = true := by
  unfold divOk
  simp only [Bool.and_eq_true, decide_eq_true_eq]
  refine ⟨h0, ?_⟩
  have : j.natAbs < 2 ^ 64 := by omega
  have := (Nat.log2_lt (n := j.natAbs) (k := 64) (by omega)).mpr this
  omega
end
/-! ### kinds -/
@[simp] theorem rgOk_4 : rgOk 4 = true := by decide +kernel
@[simp] theorem rgOk_60 : rgOk 60 = true := by decide +kernel
@[simp] theorem rgOk_20000 : rgOk 20000 = true := by decide +kernel
@[simp] theorem asked_bool : "bool" ∈ tyAsked := by decide +kernel
@[simp] theorem isB_bool_bool : isB "bool" "bool" = true := by decide +kernel
@[simp] theorem isB_int_bool : isB "int" "bool" = false := by decide +kernel
@[simp] theorem isB_str_bool : isB "str" "bool" = false := by decide +kernel
@[simp] theorem asked_int : "int" ∈ tyAsked := by decide +kernel
@[simp] theorem isB_int_int : isB "int" "int" = true := by decide +kernel
@[simp] theorem isB_str_int : isB "str" "int" = false := by decide +kernel
@[simp] theorem asked_str : "str" ∈ tyAsked := by decide +kernel
@[simp] theorem isB_str_str : isB "str" "str" = true := by decide +kernel
@[simp] theorem asked_tuple : "tuple" ∈ tyAsked := by decide +kernel
@[simp] theorem isB_NoneType_tuple : isB "NoneType" "tuple" = false := by decide +kernel
@[simp] theorem isB_bool_tuple : isB "bool" "tuple" = false := by decide +kernel
@[simp] theorem isB_int_tuple : isB "int" "tuple" = false := by decide +kernel
@[simp] theorem isB_str_tuple : isB "str" "tuple" = false := by decide +kernel
@[simp] theorem isB_tuple_tuple : isB "tuple" "tuple" = true := by decide +kernel
@[simp] theorem isB_list_tuple : isB "list" "tuple" = false := by decide +kernel
@[simp] theorem asked_list : "list" ∈ tyAsked := by decide +kernel
@[simp] theorem isB_tuple_list : isB "tuple" "list" = false := by decide +kernel
@[simp] theorem isB_list_list : isB "list" "list" = true := by decide +kernel
/-! ### truth and comprehensions -/
section
variable (h : Hc) (b : Bool) (i : Int) (xs : List D) (ds : Sl)
@[simp] theorem truD_bl : truD h (.bl b) = some b := Eq.trans rfl rfl
theorem truD_ref {n : Nat} (e : h[n]? = some (.lst xs)) : truD h (.ref n) = some (!xs.isEmpty) := by unfold truD; simp [e]
@[simp] theorem wipeD_nil : wipeD ds [] = ds := by unfold wipeD; rfl
@[simp] theorem wipeD_cons (v : Nat) (vs : List Nat) : wipeD ds (v :: vs) = (wipeD ds vs).set v none := by conv => lhs; unfold wipeD
@[simp] theorem lcR_nil (chk : Hc → Bool) (p : Pt) (own : List Nat) (c : SB) (m : SE) (acc : List D) : lcR chk p own c m ds [] acc h = if chk h = true then .ok acc h else .bad := by conv => lhs; unfold lcR
@[simp] theorem lcR_cons (chk : Hc → Bool) (p : Pt) (own : List Nat) (c : SB) (m : SE) (acc : List D) (d : D) (r : List D) : lcR chk p own c m ds (d :: r) acc h = if chk h = true then (match bindP h p d (wipeD ds own) with
      | some ds1 => (c ds1 h).nox.bd fun b h1 => if b = true then (m ds1 h1).nox.bd fun y h2 => if acc.length < lim then lcR chk p own c m ds r (acc ++ [y]) h2 else .bad else lcR chk p own c m ds r acc h1
      | none => .bad) else .bad := by
  conv => lhs; unfold lcR
  all_goals rfl
@[simp] theorem eLc_s (mi : SI) (p : Pt) (own : List Nat) (c : SB) (m : SE) : eLc mi p own c m ds h = (mi ds h).bd fun it h1 => (lcR it.chk p own c m ds it.items [] h1).bd fun xs h2 => .ok (.lst xs) h2 := Eq.trans rfl rfl
@[simp] theorem eLcC_s (mi : SI) (p : Pt) (own : List Nat) (c : SB) (m : SE) : eLcC mi p own c m ds h = (mi ds h).bd fun it h1 => (lcR it.chk p own c m ds it.items [] h1).bd fun xs h2 => .ok (.ref h2.length) (h2 ++ [.lst xs]) := Eq.trans rfl rfl
end
/-- each with its own -/
def All2 {α β : Type} (P : α → β → Prop) : List α → List β → Prop
  | [], [] => True
  | a :: as, b :: bs => P a b ∧ All2 P as bs
  | _, _ => False
theorem All2.map {α β γ : Type} {P : β → γ → Prop} {f : α → β} {g : α → γ} : ∀ {xs : List α}, (∀ x ∈ xs, P (f x) (g x)) → All2 P (xs.map f) (xs.map g)
  | [], _ => trivial
  | x :: xs, h => ⟨h x (by simp), All2.map fun y hy => h y (by simp [hy])⟩
/-- a comprehension whose element does no harm -/
theorem lcR_two {chk : Hc → Bool} {p : Pt} {own : List Nat} {m : SE} {ds : Sl} {h : Hc} (hc : chk h = true) : ∀ (items outs acc : List D), acc.length + items.length ≤ 1000000 → All2 (fun d y => ∃ ds1, bindP h p d (wipeD ds own) = some ds1 ∧ m ds1 h = .ok y h) items outs →
    lcR chk p own (fun _ h => .ok true h) m ds items acc h = .ok (acc ++ outs) h
  | [], [], acc, _, _ => by simp [hc]
  | [], _ :: _, acc, _, a => a.elim
  | _ :: _, [], acc, _, a => a.elim
  | d :: r, y :: ys, acc, hl, ⟨⟨ds1, e1, e2⟩, a⟩ => by
    have ih := lcR_two hc r ys (acc ++ [y]) (by simp at hl ⊢; omega) a
    have : acc.length < 1000000 := by simp at hl; omega
    simp [hc, e1, e2, this, ih]
/-- a comprehension whose element moves the cells -/
theorem lcR_st {chk : Hc → Bool} {p : Pt} {own : List Nat} {m : SE} {ds : Sl} (I : Hc → Prop) (P : D → Prop) (hc : ∀ h, I h → chk h = true) : ∀ (items acc : List D) (h : Hc), acc.length + items.length ≤ 1000000 → I h →
    (∀ d ∈ items, ∀ h, I h → ∃ ds1 y h', bindP h p d (wipeD ds own) = some ds1 ∧ m ds1 h = .ok y h' ∧ I h' ∧ P y) →
    ∃ outs h', lcR chk p own (fun _ h => .ok true h) m ds items acc h = .ok (acc ++ outs) h' ∧ outs.length = items.length ∧ (∀ y ∈ outs, P y) ∧ I h'
  | [], acc, h, _, i, _ => ⟨[], h, by simp [hc h i], rfl, by simp, i⟩
  | d :: r, acc, h, hl, i, st => by
    obtain ⟨ds1, y, h1, e1, e2, i1, py⟩ := st d (by simp) h i
    obtain ⟨outs, h2, e3, l3, p3, i3⟩ := lcR_st I P hc r (acc ++ [y]) h1 (by simp at hl ⊢; omega) i1 fun d hd => st d (by simp [hd])
    have : acc.length < 1000000 := by simp at hl; omega
    refine ⟨y :: outs, h2, ?_, by simp [l3], ?_, i3⟩
    · simp [hc h i, e1, e2, this, e3]
    · intro z hz
      rcases List.mem_cons.mp hz with rfl | hz
      · exact py
      · exact p3 z hz
theorem ints_of {P : Int → Prop} : ∀ {ds : List D}, (∀ y ∈ ds, ∃ v, y = .int v ∧ P v) → ∃ vs : List Int, ds = vs.map D.int ∧ ∀ v ∈ vs, P v
  | [], _ => ⟨[], rfl, by simp⟩
  | d :: r, h => by
    obtain ⟨v, e, pv⟩ := h d (by simp)
    obtain ⟨vs, e2, p2⟩ := ints_of (ds := r) fun y hy => h y (List.mem_cons_of_mem _ hy)
    subst e e2
    exact ⟨v :: vs, rfl, by
      intro z hz
      rcases List.mem_cons.mp hz with rfl | hz
      · exact pv
      · exact p2 z hz⟩
/-- a comprehension over values whose element does no harm -/
theorem lcR_map {chk : Hc → Bool} {p : Pt} {own : List Nat} {m : SE} {ds : Sl} {h : Hc} (f : D → D) (hc : chk h = true) : ∀ (items acc : List D), acc.length + items.length ≤ 1000000 → (∀ d ∈ items, ∃ ds1, bindP h p d (wipeD ds own) = some ds1 ∧ m ds1 h = .ok (f d) h) →
    lcR chk p own (fun _ h => .ok true h) m ds items acc h = .ok (acc ++ items.map f) h
  | [], acc, _, _ => by simp [hc]
  | d :: r, acc, hl, hi => by
    obtain ⟨ds1, e1, e2⟩ := hi d (by simp)
    have ih := lcR_map f hc r (acc ++ [f d]) (by simp at hl ⊢; omega) fun d hd => hi d (by simp [hd])
    have : acc.length < 1000000 := by simp at hl; omega
    simp [hc, e1, e2, this, ih]
/-! ### what LayH brings -/
section
variable (h : Hc) (i j : Int) (xs : List D) (ds : Sl)
@[simp] theorem iZip_s (as : SA) : iZip as ds h = (as ds h).bd zpF := Eq.trans rfl rfl
theorem zpF_seq {d e : D} {us ws : List D} (h1 : seqD h d = some us) (h2 : seqD h e = some ws) : zpF [d, e] h = .ok ⟨zipD us ws, chkZ d us e ws⟩ h := by
  unfold zpF
  simp only [h1, h2]
@[simp] theorem zipD_cons (x y : D) (r s : List D) : zipD (x :: r) (y :: s) = .tup [x, y] :: zipD r s := by conv => lhs; unfold zipD
@[simp] theorem zipD_nil (s : List D) : zipD [] s = [] := by unfold zipD; rfl
@[simp] theorem zipD_nil2 (s : List D) : zipD s [] = [] := by cases s <;> (unfold zipD; rfl)
@[simp] theorem iEnu_s (as : SA) : iEnu as ds h = (as ds h).bd enF := Eq.trans rfl rfl
@[simp] theorem enF_tup : enF [.tup xs] h = .ok ⟨enumD 0 xs, chkQ (.tup xs) xs⟩ h := Eq.trans rfl rfl
@[simp] theorem enF_lst : enF [.lst xs] h = .ok ⟨enumD 0 xs, chkQ (.lst xs) xs⟩ h := Eq.trans rfl rfl
@[simp] theorem sumA_lst (ns : List Int) : sumA [.lst (ns.map D.int)] h = .ok (.int ns.sum) h := by simp [sumA]
@[simp] theorem sumA_tup (ns : List Int) : sumA [.tup (ns.map D.int)] h = .ok (.int ns.sum) h := by simp [sumA]
@[simp] theorem allF_lst (bs : List Bool) : allF [.lst (bs.map D.bl)] h = .ok (.bl (bs.all id)) h := by simp [allF, lF]
@[simp] theorem maxF_2 : maxF [.int i, .int j] h = .ok (.int (if i < j then j else i)) h := Eq.trans rfl rfl
end
/-! ### calls -/
theorem refsOf_flat : ∀ {as : List D}, flatL as = true → refsOf as = []
  | [], _ => rfl
  | d :: ds, hf => by
    simp at hf
    have := refsOf_flat hf.2
    cases d <;> first | exact this | simp at hf
theorem renL_flat {rs : List Nat} : ∀ {as : List D}, flatL as = true → renL rs as = some as
  | [], _ => rfl
  | d :: ds, hf => by
    simp at hf
    have h2 := renL_flat (rs := rs) hf.2
    have h1 : renD rs d = some d := by
      cases d <;> first | (unfold renD; simp [hf.1]; done) | (simp at hf; done)
    unfold renL
    rw [h1, h2]
theorem frzD_flat {rs : List Nat} {h : Hc} {n : Nat} {d : D} (hf : flat d = true) : frzD rs h n d = some d := by
  cases n <;> simp [frzD, hf]
/-- no cell is passed -/
theorem call_pure {m : Fn} {as : List D} {d0 d : D} {h' : Hc} (ha : flatL as = true) (hm : m as [] = .ok d0 h') (hd : frzD [] h' 8 d0 = some d) (h : Hc) : callL m as h = .ok d h := by
  unfold callL
  rw [refsOf_flat ha, renL_flat ha]
  simp [cellsAt, hm, hd, wb]
theorem call_flat {m : Fn} {as : List D} {d : D} {h' : Hc} (ha : flatL as = true) (hm : m as [] = .ok d h') (hd : flat d = true) (h : Hc) : callL m as h = .ok d h := call_pure ha hm (frzD_flat hd) h
/-- a list that was made within is handed back -/
theorem frz_cell {rs : List Nat} {h : Hc} {n i : Nat} {xs : List D} (hi : rs.length ≤ i) (e : h[i]? = some (.lst xs)) (hf : flatL xs = true) : frzD rs h (n + 2) (.ref i) = some (.lst xs) := by
  have go : ∀ ys : List D, flatL ys = true → frzD.frzL (frzD rs h (n + 1)) ys = some ys := by
    intro ys
    induction ys with
    | nil => intro _; rfl
    | cons y ys ih =>
      intro hy
      simp at hy
      unfold frzD.frzL
      rw [frzD_flat hy.1, ih hy.2]
  unfold frzD
  simp only [flat_ref, Bool.false_eq_true, if_false]
  rw [if_neg (Nat.not_lt.mpr hi), e]
  simp only
  rw [go xs hf]; rfl
/-- the law's defs that draw: the second argument is the cell of the place -/
theorem call_spot {m : Fn} {R rest : List D} {i : Nat} {h h' : Hc} {k k' : Int} {d0 d : D} (hR : flatL R = true) (hr : flatL rest = true) (hi : h[i]? = some (.lst [.int k])) (hm : m (.lst R :: .ref 0 :: rest) [.lst [.int k]] = .ok d0 h') (h0 : h'[0]? = some (.lst [.int k']))
    (hd : ∀ j, frzD [j] h' 8 d0 = some d) : callL m (.lst R :: .ref i :: rest) h = .ok d (h.set i (.lst [.int k'])) := by
  have e1 : refsOf (.lst R :: .ref i :: rest) = [i] := by
    show refsOf (.ref i :: rest) = [i]
    unfold refsOf
    rw [refsOf_flat hr]; simp
  have e2 : renL [i] (.lst R :: .ref i :: rest) = some (.lst R :: .ref 0 :: rest) := by
    unfold renL
    have a1 : renD [i] (.lst R) = some (.lst R) := by unfold renD; simp [hR]
    have a2 : renL [i] (.ref i :: rest) = some (.ref 0 :: rest) := by
      unfold renL
      rw [renL_flat hr]
      have : renD [i] (.ref i) = some (.ref 0) := by unfold renD; simp [List.findIdx?_cons]
      rw [this]
    rw [a1, a2]
  obtain ⟨t, ht⟩ : ∃ t, h' = .lst [.int k'] :: t := by
    cases h' with
    | nil => simp at h0
    | cons c t => simp at h0; exact ⟨t, by rw [h0]⟩
  unfold callL
  rw [e1, e2]
  simp only [cellsAt, hi]
  simp only [List.all_cons, List.all_nil, flatC_lst, flatL_cons, flat_int, flatL_nil, Bool.and_true, Bool.and_self, if_true, hm, hd i]
  subst ht
  simp [wb]
/-- one cell is passed -/
theorem call_ref1 {m : Fn} {as as' : List D} {i : Nat} {c c' : C} {h h' : Hc} {d0 d : D} (hrefs : refsOf as = [i]) (hren : renL [i] as = some as') (hi : h[i]? = some c) (hc : flatC c = true) (hm : m as' [c] = .ok d0 h') (h0 : h'[0]? = some c')
    (hc2 : flatC c' = true) (hd : frzD [i] h' 8 d0 = some d) : callL m as h = .ok d (h.set i c') := by
  obtain ⟨t, ht⟩ : ∃ t, h' = c' :: t := by
    cases h' with
    | nil => simp at h0
    | cons x t => simp at h0; exact ⟨t, by rw [h0]⟩
  unfold callL
  rw [hrefs, hren]
  simp only [cellsAt, hi]
  simp only [List.all_cons, List.all_nil, hc, Bool.and_true, if_true, hm, hd]
  subst ht
  simp [wb, hc2]
/-- a comprehension with a test -/
theorem lcR_flt {chk : Hc → Bool} {p : Pt} {own : List Nat} {c : SB} {m : SE} {ds : Sl} {h : Hc} (test : D → Bool) (f : D → D) (hc : chk h = true) : ∀ (items acc : List D), acc.length + items.length ≤ 1000000 →
    (∀ d ∈ items, ∃ ds1, bindP h p d (wipeD ds own) = some ds1 ∧ c ds1 h = .ok (test d) h ∧ (test d = true → m ds1 h = .ok (f d) h)) → lcR chk p own c m ds items acc h = .ok (acc ++ (items.filter test).map f) h
  | [], acc, _, _ => by simp [hc]
  | d :: r, acc, hl, hi => by
    obtain ⟨ds1, e1, e2, e3⟩ := hi d (by simp)
    have : acc.length < 1000000 := by simp at hl; omega
    cases t : test d with
    | true =>
      have ih := lcR_flt test f hc r (acc ++ [f d]) (by simp at hl ⊢; omega) fun x hx => hi x (by simp [hx])
      simp [hc, e1, e2, t, e3 t, this, ih, List.filter_cons]
    | false =>
      have ih := lcR_flt test f hc r acc (by simp at hl ⊢; omega) fun x hx => hi x (by simp [hx])
      simp [hc, e1, e2, t, ih, List.filter_cons]
/-! ### what LayX, LayY bring -/
section
variable (h h' : Hc) (ds ds' : Sl) (d v : D) (x : Str) (fs : List Str) (vs : List D) (m : SE) (as : SA) (a b : SS)
@[simp] theorem sRaise_s : sRaise x fs as ds h = sBd (as ds h) ds fun vs h1 => if vs.length = fs.length then .ex x fs vs.reverse ds h1 else .bad := Eq.trans rfl rfl
theorem eTold_ok (e : m ds h = .ok v h') : eTold m ds h = .ok (.tup [.str "value", v]) h' := by unfold eTold; rw [e]
theorem eTold_ex (e : m ds h = .ex x fs vs h') (o : toldOk x fs vs.length = true) : eTold m ds h = .ok (.tup (.str x :: vs.reverse)) h' := by unfold eTold; rw [e]; simp [o]
end
end Mp
/-! LayV: name = {k: v for ..} on one line. -/
namespace Mp
open PySem PySem.Spec PyProof.Rows L2
section
variable {X : Cx} {W : WX}
/-- in each block of a comprehension -/
abbrev InBlk (X : Cx) (scope : Scope) (P : Cx → Prop) : Prop := ∀ (s : Shared) (H : Hp) (C : Addr) (cl : List (Str × Addr)) (fp : List Addr), P (X.blk s H scope (compEnvC scope cl C X.env) fp)
end
/-! a def under a second name of its module -/
def DefAs (K : PySem.W.Frag) (mg : Str → Option Value) (y x qual : Str) (st : Stmt) (ps : List Str) : Prop := ∃ (f : Addr) (fd : FuncData), mg y = some (.ref f) ∧ Fun K x qual st f fd ∧ Binds K fd ps []
section
variable {P : Program} {w : World} {K : PySem.W.Frag} {mg : Str → Option Value} {base : Heap} {y x qual : Str} {st : Stmt} {ps N : List Str} {k j : Nat} {m : SS}
end
end Mp
namespace Mp
open PySem PySem.Spec PyProof.Rows L2
/-! list(d) of a dict: its keys -/
def kD : Key → D
  | .inl i => .int i
  | .inr x => .str x
def listDF (xs : List D) (h : Hc) : R D := match xs with
  | [d] => match dctD h d with
    | some (ks, _) => .ok (.lst (ks.map kD)) h
    | none => .bad
  | _ => .bad
end Mp
namespace Mp
open PySem PySem.Spec PyProof.Rows L2
/-! ### mirrors: Pre -/
def m_law_numbers_l1 : SS :=
  (sSeq (sIf (bEx (eOp eqF (eVar 3) (eC (.int 0))))
          (fun ds h => .bk ds h)
          sNext)
        (sSeq (sDrop (eBM "list" appF (eVar 1) (aCons (eOp modF (eCB intF (aCons (eVar 3) aNil)) (eC (.int 997))) aNil)))
        (sSet 3 (eOp fdivF (eVar 3) (eC (.int 997))))))
def m_law_numbers_l2 : SS :=
  (sSeq (sSet 5 (eOp modF (eCB intF (aCons (eOp addF (eOp addF (eOp mulF (eVar 2) (eC (.int 48271))) (eOp mulF (eVar 4) (eC (.int 69621)))) (eC (.int 11))) aNil)) (eC (.int 2147483647))))
        (sDrop (eBM "list" appF (eVar 1) (aCons (eOp modF (eCB intF (aCons (eOp addF (eOp mulF (eVar 5) (eC (.int 16807))) (eVar 4)) aNil)) (eC (.int 2147483629))) aNil))))
def m_law_numbers_l3 : SS :=
  (sIf (bEx (eOp geF (eVar 2) (eOp powF (eC (.int 10)) (eC (.int 18)))))
      (sSeq (sSet 3 (eVar 2))
      (sFor (iRg1 (aCons (eC (.int 60)) aNil)) (.n 4)
        m_law_numbers_l1))
      (sFor (iRg1 (aCons (eC (.int 4)) aNil)) (.n 4)
        m_law_numbers_l2))
/-- _law_numbers: script 0, row 1, cell 2, left 3, k 4, mixed 5 -/
def m_law_numbers : Fn := runB 6
  (sSeq (sSet 1 (eCell aNil))
  (sSeq (sFor (iSeq (eSl slF (eVar 0) none (some (eC (.int 63))))) (.n 2)
    m_law_numbers_l3)
  (sSeq (sIf (bEx (eOp eqF (eCB lenF (aCons (eVar 1) aNil)) (eC (.int 0))))
    (sDrop (eBM "list" appF (eVar 1) (aCons (eC (.int 0)) aNil)))
    sNext)
  (sRet (eVar 1)))))
def m_law_gcd_l1 : SS :=
  (sSeq (sIf (bEx (eOp eqF (eVar 3) (eC (.int 0))))
      (fun ds h => .bk ds h)
      sNext)
    (sSeq (sSet 5 (eOp modF (eCB intF (aCons (eVar 2) aNil)) (eVar 3)))
    (sSeq (sSet 2 (eVar 3))
    (sSet 3 (eVar 5)))))
/-- _law_gcd: one 0, other 1, left 2, right 3, k 4, rest 5 -/
def m_law_gcd : Fn := runB 6
  (sSeq (sSet 2 (eIf (bEx (eOp geF (eVar 0) (eC (.int 0)))) (eVar 0) (eUn negF (eVar 0))))
  (sSeq (sSet 3 (eIf (bEx (eOp geF (eVar 1) (eC (.int 0)))) (eVar 1) (eUn negF (eVar 1))))
  (sSeq (sFor (iRg1 (aCons (eC (.int 20000)) aNil)) (.n 4)
    m_law_gcd_l1)
  (sRet (eVar 2)))))
/-- _law_red: n 0, d 1, common 2 -/
def m_law_red : Nat → Fn
  | 0 => fun _ _ => .bad
  | n + 1 => runB 3 (sSeq (sIf (bEx (eOp ltF (eVar 1) (eC (.int 0))))
    (sRet (eCall (m_law_red n) (aCons (eUn negF (eVar 0)) (aCons (eUn negF (eVar 1)) aNil))))
    sNext)
  (sSeq (sSet 2 (eCall m_law_gcd (aCons (eVar 0) (aCons (eVar 1) aNil))))
  (sSeq (sIf (bEx (eOp eqF (eVar 2) (eC (.int 0))))
    (sRet (eTup (aCons (eC (.int 0)) (aCons (eC (.int 1)) aNil))))
    sNext)
  (sRet (eTup (aCons (eOp fdivF (eVar 0) (eVar 2)) (aCons (eOp fdivF (eVar 1) (eVar 2)) aNil)))))))
/-- _law_draw: row 0, at 1, limit 2, mixed 3 -/
def m_law_draw : Fn := runB 4
  (sSeq (sIf (bEx (eOp ltF (eVar 1) (eCB lenF (aCons (eVar 0) aNil))))
    (sRet (eOp modF (eCB intF (aCons (eOp ixF (eVar 0) (eVar 1)) aNil)) (eVar 2)))
    sNext)
  (sSeq (sSet 3 (eOp modF (eCB intF (aCons (eOp addF (eOp addF (eOp mulF (eOp ixF (eVar 0) (eOp modF (eCB intF (aCons (eVar 1) aNil)) (eCB lenF (aCons (eVar 0) aNil)))) (eC (.int 40692))) (eOp mulF (eVar 1) (eC (.int 7919)))) (eC (.int 3))) aNil)) (eC (.int 2147483399))))
  (sRet (eOp modF (eCB intF (aCons (eOp modF (eCB intF (aCons (eOp addF (eOp mulF (eVar 3) (eC (.int 48271))) (eVar 1)) aNil)) (eC (.int 2147483647))) aNil)) (eVar 2)))))
/-- _law_take: row 0, spot 1, limit 2 -/
def m_law_take : Fn := runB 3
  (sSeq (sPut setF (eOp addF (eOp ixF (eVar 1) (eC (.int 0))) (eC (.int 1))) (eVar 1) (eC (.int 0)))
  (sRet (eCall m_law_draw (aCons (eVar 0) (aCons (eOp subF (eOp ixF (eVar 1) (eC (.int 0))) (eC (.int 1))) (aCons (eVar 2) aNil))))))
/-- _law_wide: row 0, spot 1, limit 2, first 3, second 4, third 5 -/
def m_law_wide : Fn := runB 6
  (sSeq (sSet 3 (eCall m_law_take (aCons (eVar 0) (aCons (eVar 1) (aCons (eC (.int 997)) aNil)))))
  (sSeq (sSet 4 (eCall m_law_take (aCons (eVar 0) (aCons (eVar 1) (aCons (eC (.int 997)) aNil)))))
  (sSeq (sSet 5 (eCall m_law_take (aCons (eVar 0) (aCons (eVar 1) (aCons (eC (.int 997)) aNil)))))
  (sRet (eOp modF (eCB intF (aCons (eOp addF (eOp addF (eOp mulF (eVar 3) (eC (.int 994009))) (eOp mulF (eVar 4) (eC (.int 997)))) (eVar 5)) aNil)) (eVar 2))))))
/-- _law_frac: row 0, spot 1, top 2, low 3 -/
def m_law_frac : Fn := runB 4
  (sSeq (sSet 2 (eIf (bEx (eOp eqF (eCall m_law_take (aCons (eVar 0) (aCons (eVar 1) (aCons (eC (.int 2)) aNil)))) (eC (.int 0)))) (eOp subF (eCall m_law_wide (aCons (eVar 0) (aCons (eVar 1) (aCons (eC (.int 2000001)) aNil)))) (eC (.int 1000000))) (eOp subF (eCall m_law_take (aCons (eVar 0) (aCons (eVar 1) (aCons (eC (.int 21)) aNil)))) (eC (.int 10)))))
  (sSeq (sSet 3 (eOp addF (eC (.int 1)) (eIf (bEx (eOp eqF (eCall m_law_take (aCons (eVar 0) (aCons (eVar 1) (aCons (eC (.int 2)) aNil)))) (eC (.int 0)))) (eCall m_law_wide (aCons (eVar 0) (aCons (eVar 1) (aCons (eC (.int 1000000)) aNil)))) (eCall m_law_take (aCons (eVar 0) (aCons (eVar 1) (aCons (eC (.int 12)) aNil)))))))
  (sRet (eCall (m_law_red 24) (aCons (eVar 2) (aCons (eVar 3) aNil))))))
def m_law_so_l1 (self : Fn) : SS :=
  (sIf (bNot (bTru (eCall self (aCons (eOp ixF (eVar 0) (eVar 2)) (aCons (eOp ixF (eVar 1) (eVar 2)) aNil)))))
        (sRet (eC (.bl false)))
        sNext)
/-- _law_so: found 0, meant 1, k 2 -/
def m_law_so : Nat → Fn
  | 0 => fun _ _ => .bad
  | n + 1 => runB 3 (sSeq (sIf (bEx (eOp isnF (eVar 1) (eC .non)))
    (sRet (eOp isnF (eVar 0) (eC .non)))
    sNext)
  (sSeq (sIf (bTru (eCB isF (aCons (eVar 1) (aCons (eC (.ty "tuple")) aNil))))
    (sSeq (sIf (bOr (bNot (bTru (eCB isF (aCons (eVar 0) (aCons (eC (.ty "tuple")) aNil))))) (bEx (eOp neF (eCB lenF (aCons (eVar 0) aNil)) (eCB lenF (aCons (eVar 1) aNil)))))
      (sRet (eC (.bl false)))
      sNext)
    (sSeq (sFor (iRg1 (aCons (eCB lenF (aCons (eVar 1) aNil)) aNil)) (.n 2)
      (m_law_so_l1 (m_law_so n)))
    (sRet (eC (.bl true)))))
    sNext)
  (sSeq (sIf (bOr (bTru (eCB isF (aCons (eVar 1) (aCons (eC (.ty "bool")) aNil)))) (bTru (eCB isF (aCons (eVar 0) (aCons (eC (.ty "bool")) aNil)))))
    (sRet (eAnd (eCB isF (aCons (eVar 1) (aCons (eC (.ty "bool")) aNil))) (eAnd (eCB isF (aCons (eVar 0) (aCons (eC (.ty "bool")) aNil))) (eOp eqF (eVar 0) (eVar 1)))))
    sNext)
  (sSeq (sIf (bTru (eCB isF (aCons (eVar 1) (aCons (eC (.ty "int")) aNil))))
    (sRet (eAnd (eCB isF (aCons (eVar 0) (aCons (eC (.ty "int")) aNil))) (eOp eqF (eVar 0) (eVar 1))))
    sNext)
  (sRet (eAnd (eCB isF (aCons (eVar 1) (aCons (eC (.ty "str")) aNil))) (eAnd (eCB isF (aCons (eVar 0) (aCons (eC (.ty "str")) aNil))) (eOp eqF (eVar 0) (eVar 1)))))))))
/-- _law_add: one 0, other 1 -/
def m_law_add : Fn := runB 2
  (sRet (eCall (m_law_red 24) (aCons (eOp addF (eOp mulF (eOp ixF (eVar 0) (eC (.int 0))) (eOp ixF (eVar 1) (eC (.int 1)))) (eOp mulF (eOp ixF (eVar 1) (eC (.int 0))) (eOp ixF (eVar 0) (eC (.int 1))))) (aCons (eOp mulF (eOp ixF (eVar 0) (eC (.int 1))) (eOp ixF (eVar 1) (eC (.int 1)))) aNil))))
/-- _law_sub: one 0, other 1 -/
def m_law_sub : Fn := runB 2
  (sRet (eCall (m_law_red 24) (aCons (eOp subF (eOp mulF (eOp ixF (eVar 0) (eC (.int 0))) (eOp ixF (eVar 1) (eC (.int 1)))) (eOp mulF (eOp ixF (eVar 1) (eC (.int 0))) (eOp ixF (eVar 0) (eC (.int 1))))) (aCons (eOp mulF (eOp ixF (eVar 0) (eC (.int 1))) (eOp ixF (eVar 1) (eC (.int 1)))) aNil))))
/-- _law_mul: one 0, other 1 -/
def m_law_mul : Fn := runB 2
  (sRet (eCall (m_law_red 24) (aCons (eOp mulF (eOp ixF (eVar 0) (eC (.int 0))) (eOp ixF (eVar 1) (eC (.int 0)))) (aCons (eOp mulF (eOp ixF (eVar 0) (eC (.int 1))) (eOp ixF (eVar 1) (eC (.int 1)))) aNil))))
def m_law_listed_c1 (self : Fn) : SE :=
  (eCall self (aCons (eVar 1) aNil))
/-- _law_listed: value 0, one 1 -/
def m_law_listed : Nat → Fn
  | 0 => fun _ _ => .bad
  | n + 1 => runB 2 (sSeq (sIf (bTru (eCB isF (aCons (eVar 0) (aCons (eC (.ty "tuple")) aNil))))
    (sRet (eLc (iSeq (eVar 0)) (.n 1) [1] (fun _ h => .ok true h) (m_law_listed_c1 (m_law_listed n))))
    sNext)
  (sRet (eVar 0)))
/-- _law_handed: row 0, spot 1, value 2 -/
def m_law_handed : Fn := runB 3
  (sRet (eIf (bEx (eOp eqF (eCall m_law_take (aCons (eVar 0) (aCons (eVar 1) (aCons (eC (.int 2)) aNil)))) (eC (.int 0)))) (eCall (m_law_listed 24) (aCons (eVar 2) aNil)) (eVar 2)))
/-- _law_div: one 0, other 1 -/
def m_law_div : Fn := runB 2
  (sRet (eCall (m_law_red 24) (aCons (eOp mulF (eOp ixF (eVar 0) (eC (.int 0))) (eOp ixF (eVar 1) (eC (.int 1)))) (aCons (eOp mulF (eOp ixF (eVar 0) (eC (.int 1))) (eOp ixF (eVar 1) (eC (.int 0)))) aNil))))
/-- _law_less: one 0, other 1 -/
def m_law_less : Fn := runB 2
  (sRet (eOp ltF (eOp mulF (eOp ixF (eVar 0) (eC (.int 0))) (eOp ixF (eVar 1) (eC (.int 1)))) (eOp mulF (eOp ixF (eVar 1) (eC (.int 0))) (eOp ixF (eVar 0) (eC (.int 1))))))
end Mp
/-! PreSpec: what the laws' own helpers reckon. -/
namespace Mp
open PySem PySem.Spec PyProof.Rows L2
/-! ### loops -/
theorem upFrom_int {lo : Int} {n : Nat} : ∀ d ∈ upFrom lo n, ∃ j : Int, d = .int j ∧ lo ≤ j ∧ j < lo + n := by
  intro d hd
  unfold upFrom at hd
  obtain ⟨i, hi, rfl⟩ := List.mem_map.mp hd
  have := List.mem_range.mp hi
  exact ⟨_, rfl, by omega, by omega⟩
theorem upFrom_len {lo : Int} {n : Nat} : (upFrom lo n).length = n := by unfold upFrom; simp
theorem cutD_map {α β : Type} (f : α → β) (xs : List α) (lo hi : Option Int) : cutD (xs.map f) lo hi = (cutD xs lo hi).map f := by
  unfold cutD
  simp [List.map_take, List.map_drop]
theorem cutD_len {α : Type} (xs : List α) (lo hi : Option Int) : (cutD xs lo hi).length ≤ xs.length := by
  unfold cutD
  simp only [List.length_take, List.length_drop]; omega
/-! ### the row of numbers -/
theorem dok997 : divOk 997 = true := divOk_of _ (by decide) (by decide) (by decide)
theorem numbers_l1 (sc : Option D) (c : Option D) (x5 : Option D) : ∀ (items : List D) (l : Int) (x4 : Option D) (acc : List Int), (∃ y3 y4 acc', fl (fun _ => true) (.n 4) m_law_numbers_l1 items [sc, some (.ref 0), c, some (.int l), x4, x5] [.lst (acc.map D.int)] = .nx [sc, some (.ref 0), c, y3, y4, x5] [.lst ((acc' : List Int).map D.int)] ∧ acc'.length ≤ acc.length + items.length) ∨ 999999 < acc.length + items.length
  | [], l, x4, acc => .inl ⟨some (.int l), x4, acc, by simp [fl], by simp⟩
  | d :: r, l, x4, acc => by
    by_cases hb : acc.length + (d :: r).length ≤ 999999
    · left
      unfold fl
      simp only [if_true, bindP_n]
      by_cases hl : l = 0
      · subst hl
        exact ⟨some (.int 0), some d, acc, by simp [m_law_numbers_l1], by simp⟩
      · have hacc : acc.length < 1000000 := by simp at hb; omega
        have e1 : m_law_numbers_l1 [sc, some (.ref 0), c, some (.int l), some d, x5] [.lst (acc.map D.int)] = .nx [sc, some (.ref 0), c, some (.int (l.fdiv 997)), some d, x5] [.lst ((acc ++ [l % 997]).map D.int)] := by
          simp [m_law_numbers_l1, hl, kindOk, appF, hacc, dok997]
        simp only [List.set_cons_succ, List.set_cons_zero, e1]
        rcases numbers_l1 sc c x5 r (l.fdiv 997) (some d) (acc ++ [l % 997]) with ⟨y3, y4, acc', e, hlen⟩ | z
        · exact ⟨y3, y4, acc', e, by simp at hlen ⊢; omega⟩
        · simp at z hb; omega
    · right; omega
theorem numbers_l2 (sc x3 : Option D) (c : Int) : ∀ (items : List D) (x4 x5 : Option D) (acc : List Int), (∀ d ∈ items, ∃ j : Int, d = .int j) → acc.length + items.length ≤ 999999 →
    ∃ y4 y5 acc', fl (fun _ => true) (.n 4) m_law_numbers_l2 items [sc, some (.ref 0), some (.int c), x3, x4, x5] [.lst (acc.map D.int)] = .nx [sc, some (.ref 0), some (.int c), x3, y4, y5] [.lst ((acc' : List Int).map D.int)] ∧ acc'.length ≤ acc.length + items.length
  | [], x4, x5, acc, _, _ => ⟨x4, x5, acc, by simp [fl], by simp⟩
  | d :: r, x4, x5, acc, hi, hb => by
    obtain ⟨j, rfl⟩ := hi d (by simp)
    have hacc : acc.length < 1000000 := by simp at hb; omega
    unfold fl
    simp only [if_true, bindP_n, List.set_cons_succ, List.set_cons_zero]
    have m1 : mulOk c 48271 = true := mulOk_r _ _ (by decide) (by decide)
    have m2 : mulOk j 69621 = true := mulOk_r _ _ (by decide) (by decide)
    have m3 : ∀ z, mulOk z 16807 = true := fun z => mulOk_r _ _ (by decide) (by decide)
    obtain ⟨v, w, e1⟩ : ∃ v w, m_law_numbers_l2 [sc, some (.ref 0), some (.int c), x3, some (.int j), x5] [.lst (acc.map D.int)] = .nx [sc, some (.ref 0), some (.int c), x3, some (.int j), some v] [.lst ((acc ++ [w]).map D.int)] := by
      simp [m_law_numbers_l2, kindOk, appF, hacc, m1, m2, m3]
    simp only [e1]
    obtain ⟨y4, y5, acc', e, hlen⟩ := numbers_l2 sc x3 c r (some (.int j)) (some v) (acc ++ [w]) (fun d hd => hi d (by simp [hd])) (by simp at hb ⊢; omega)
    exact ⟨y4, y5, acc', e, by simp at hlen ⊢; omega⟩
theorem numbers_l3 (sc : Option D) : ∀ (zs : List Int) (x2 x3 x4 x5 : Option D) (acc : List Int), acc.length + 60 * zs.length ≤ 999999 →
    ∃ y2 y3 y4 y5 acc', fl (fun _ => true) (.n 2) m_law_numbers_l3 (zs.map D.int) [sc, some (.ref 0), x2, x3, x4, x5] [.lst (acc.map D.int)] = .nx [sc, some (.ref 0), y2, y3, y4, y5] [.lst ((acc' : List Int).map D.int)] ∧ acc'.length ≤ acc.length + 60 * zs.length
  | [], x2, x3, x4, x5, acc, _ => ⟨x2, x3, x4, x5, acc, by simp [fl], by simp⟩
  | c :: r, x2, x3, x4, x5, acc, hb => by
    simp only [List.length_cons] at hb
    have key : ∃ y2 y3 y4 y5 acc', m_law_numbers_l3 [sc, some (.ref 0), some (.int c), x3, x4, x5] [.lst (acc.map D.int)] = .nx [sc, some (.ref 0), y2, y3, y4, y5] [.lst ((acc' : List Int).map D.int)] ∧ acc'.length ≤ acc.length + 60 := by
      by_cases hc : (1000000000000000000 : Int) ≤ c
      · rcases numbers_l1 sc (some (.int c)) x5 (upFrom 0 60) c x4 acc with ⟨y3, y4, acc', e, hl⟩ | z
        · exact ⟨some (.int c), y3, y4, x5, acc', by simp [m_law_numbers_l3, hc, e], by rw [upFrom_len] at hl; exact hl⟩
        · rw [upFrom_len] at z; omega
      · obtain ⟨y4, y5, acc', e, hl⟩ := numbers_l2 sc x3 c (upFrom 0 4) x4 x5 acc (fun d hd => by obtain ⟨j, e, _⟩ := upFrom_int d hd; exact ⟨j, e⟩) (by rw [upFrom_len]; omega)
        exact ⟨some (.int c), x3, y4, y5, acc', by simp [m_law_numbers_l3, hc, e], by rw [upFrom_len] at hl; omega⟩
    obtain ⟨y2, y3, y4, y5, acc1, e1, h1⟩ := key
    obtain ⟨z2, z3, z4, z5, acc2, e2, h2⟩ := numbers_l3 sc r y2 y3 y4 y5 acc1 (by omega)
    refine ⟨z2, z3, z4, z5, acc2, ?_, by simp only [List.length_cons]; omega⟩
    rw [List.map_cons]
    unfold fl
    simp only [if_true, bindP_n, List.set_cons_succ, List.set_cons_zero, e1]
    exact e2
theorem numbers_raw (b : Bool) (ns : List Int) (hn : ns.length ≤ 63) : ∃ row : List Int, row ≠ [] ∧ row.length ≤ 4000 ∧ m_law_numbers [scD b (ns.map D.int)] [] = .ok (.ref 0) [.lst (row.map D.int)] := by
  unfold m_law_numbers
  rw [runB_s]
  have e0 : ∀ h, slF (scD b (ns.map D.int)) none (some 63) h = .ok (.lst (cutD (ns.map D.int) none (some 63))) h := fun h => by cases b <;> simp [scD, slF]
  simp [e0, cutD_map]
  generalize hz : cutD ns none (some 63) = zs
  have hzl : zs.length ≤ 63 := by rw [← hz]; exact Nat.le_trans (cutD_len _ _ _) hn
  obtain ⟨y2, y3, y4, y5, row, e, hl⟩ := numbers_l3 (some (scD b (ns.map D.int))) zs none none none none [] (by simp; omega)
  simp only [List.map_nil] at e
  rw [e]
  by_cases hr : row = []
  · subst hr
    exact ⟨[0], by simp, by simp, by simp [kindOk, appF, lenF]⟩
  · have : (row.map D.int).length ≠ 0 := by simpa using hr
    refine ⟨row, hr, by simp at hl; omega, ?_⟩
    simp [lenF, hr]
/-- the row of numbers that a law makes of its script -/
theorem numbers_ok (b : Bool) (ns : List Int) (hn : ns.length ≤ 63) : ∃ row : List Int, row ≠ [] ∧ row.length ≤ 4000 ∧ ∀ h, callL m_law_numbers [scD b (ns.map D.int)] h = .ok (.lst (row.map D.int)) h := by
  obtain ⟨row, h1, h2, e⟩ := numbers_raw b ns hn
  exact ⟨row, h1, h2, call_pure (by cases b <;> simp [scD]) e (frz_cell (by simp) rfl (by simp))⟩
/-! ### draws -/
def draw (row : List Int) (at_ lim : Int) : Int :=
  if at_ < row.length then row.getD at_.toNat 0 % lim else ((((row.getD (at_ % row.length).toNat 0 * 40692 + at_ * 7919 + 3) % 2147483399) * 48271 + at_) % 2147483647) % lim
theorem draw_range {row : List Int} {a l : Int} (hl : 0 < l) : 0 ≤ draw row a l ∧ draw row a l < l := by
  unfold draw
  split
  · exact ⟨Int.emod_nonneg _ (by omega), Int.emod_lt_of_pos _ hl⟩
  · exact ⟨Int.emod_nonneg _ (by omega), Int.emod_lt_of_pos _ hl⟩
theorem draw_ok {row : List Int} (hr : row ≠ []) {a l : Int} (ha : 0 ≤ a) (hl : 0 < l) (h : Hc) : callL m_law_draw [.lst (row.map D.int), .int a, .int l] h = .ok (.int (draw row a l)) h := by
  refine call_flat (h' := []) (by simp) ?_ (by simp) h
  unfold m_law_draw
  rw [runB_s]
  have hp : 0 < row.length := by cases row <;> simp_all
  have m1 : ∀ z, mulOk z 40692 = true := fun z => mulOk_r _ _ (by decide) (by decide)
  have m2 : mulOk a 7919 = true := mulOk_r _ _ (by decide) (by decide)
  have m3 : ∀ z, mulOk z 48271 = true := fun z => mulOk_r _ _ (by decide) (by decide)
  by_cases hc : a < row.length
  · have e : atI (row.map D.int) a = some (.int (row.getD a.toNat 0)) := by
      rw [atI_of ha (by simpa using hc)]
      have : a.toNat < row.length := by omega
      simp [this]
    simp [hc, e, hl, draw]
  · have h1 := Int.emod_nonneg a (show (row.length : Int) ≠ 0 by omega)
    have h2 := Int.emod_lt_of_pos a (show (0 : Int) < row.length by omega)
    have e : atI (row.map D.int) (a % row.length) = some (.int (row.getD (a % row.length).toNat 0)) := by
      rw [atI_of h1 (by simpa using h2)]
      have : (a % row.length).toNat < row.length := by omega
      simp [this]
    simp [hc, e, hl, draw, m1, m2, m3, hp]
theorem take_raw {row : List Int} (hr : row ≠ []) {k l : Int} (hk : 0 ≤ k) (hl : 0 < l) : m_law_take [.lst (row.map D.int), .ref 0, .int l] [.lst [.int k]] = .ok (.int (draw row k l)) [.lst [.int (k + 1)]] := by
  unfold m_law_take
  rw [runB_s]
  simp [ixF, setF, ixN, draw_ok hr hk hl]
theorem take_ok {row : List Int} (hr : row ≠ []) {k l : Int} {i : Nat} {h : Hc} (hi : h[i]? = some (.lst [.int k])) (hk : 0 ≤ k) (hl : 0 < l) : callL m_law_take [.lst (row.map D.int), .ref i, .int l] h = .ok (.int (draw row k l)) (h.set i (.lst [.int (k + 1)])) :=
  call_spot (by simp) (by simp) hi (take_raw hr hk hl) (by simp) fun j => frzD_flat (by simp)
end Mp
/-! PreSpecB: draws that are wide, and the law's own quotients. -/
namespace Mp
open PySem PySem.Spec PyProof.Rows L2
section
variable {row : List Int} (hr : row ≠ [])
include hr
theorem take_ex {k l : Int} {i : Nat} {h : Hc} (hi : h[i]? = some (.lst [.int k])) (hk : 0 ≤ k) (hl : 0 < l) : ∃ v k', 0 ≤ v ∧ v < l ∧ 0 ≤ k' ∧ callL m_law_take [.lst (row.map D.int), .ref i, .int l] h = .ok (.int v) (h.set i (.lst [.int k'])) :=
  ⟨draw row k l, k + 1, (draw_range hl).1, (draw_range hl).2, by omega, take_ok hr hi hk hl⟩
end
/-! ### the gcd -/
theorem gcd_l1_zero {o1 o2 x4 x5 : Option D} {a : Int} {h : Hc} : m_law_gcd_l1 [o1, o2, some (.int a), some (.int 0), x4, x5] h = .bk [o1, o2, some (.int a), some (.int 0), x4, x5] h := by
  simp [m_law_gcd_l1]
theorem gcd_l1_step {o1 o2 x4 x5 : Option D} {a b : Nat} {h : Hc} (hb : b ≠ 0) (h1 : b < 2 ^ 8000) : m_law_gcd_l1 [o1, o2, some (.int a), some (.int b), x4, x5] h = .nx [o1, o2, some (.int b), some (.int ((a % b : Nat) : Int)), x4, some (.int ((a % b : Nat) : Int))] h := by
  have : ¬ ((b : Int) = 0) := by omega
  have hp : (0 : Int) < b := by omega
  simp [m_law_gcd_l1, hb, hp, Nat.pos_of_ne_zero hb]
theorem gcd_loop : ∀ (m : Nat) (items : List D) (o1 o2 x4 x5 : Option D) (a b : Nat) (h : Hc), m ≤ 8000 → b < 2 ^ m → 2 * m + 1 ≤ items.length →
    ∃ y4 y5, fl (fun _ => true) (.n 4) m_law_gcd_l1 items [o1, o2, some (.int a), some (.int b), x4, x5] h = .nx [o1, o2, some (.int (Nat.gcd a b : Nat)), some (.int 0), y4, y5] h
  | m, [], _, _, _, _, _, _, _, _, _, hl => by simp at hl
  | 0, d :: r, o1, o2, x4, x5, a, b, h, _, hb, _ => by
    have : b = 0 := by simpa using hb
    subst this
    refine ⟨some d, x5, ?_⟩
    unfold fl
    simp only [if_true, bindP_n, List.set_cons_succ, List.set_cons_zero, Int.ofNat_zero, Nat.gcd_zero_right, Int.natCast_zero, gcd_l1_zero]
  | m + 1, d :: [], o1, o2, x4, x5, a, b, h, _, hb, hl => by simp at hl
  | m + 1, d :: d' :: r, o1, o2, x4, x5, a, b, h, hm, hb, hl => by
    by_cases h0 : b = 0
    · subst h0
      refine ⟨some d, x5, ?_⟩
      unfold fl
      simp only [if_true, bindP_n, List.set_cons_succ, List.set_cons_zero, Int.natCast_zero, Nat.gcd_zero_right, gcd_l1_zero]
    · have hb8 : b < 2 ^ 8000 := Nat.lt_of_lt_of_le hb (Nat.pow_le_pow_right (by decide) hm)
      have hlt : a % b < b := Nat.mod_lt _ (by omega)
      have g1 : Nat.gcd a b = Nat.gcd b (a % b) := by rw [Nat.gcd_comm a b, Nat.gcd_rec, Nat.gcd_comm]
      unfold fl
      simp only [if_true, bindP_n, List.set_cons_succ, List.set_cons_zero, gcd_l1_step h0 hb8]
      by_cases h2 : a % b = 0
      · refine ⟨some d', some (.int 0), ?_⟩
        unfold fl
        simp only [if_true, bindP_n, List.set_cons_succ, List.set_cons_zero, h2, Int.natCast_zero, gcd_l1_zero, g1, Nat.gcd_zero_right]
      · unfold fl
        simp only [if_true, bindP_n, List.set_cons_succ, List.set_cons_zero, gcd_l1_step h2 (Nat.lt_trans hlt hb8)]
        have g2 : Nat.gcd a b = Nat.gcd (a % b) (b % (a % b)) := by rw [g1, Nat.gcd_comm b, Nat.gcd_rec, Nat.gcd_comm]
        rw [g2]
        refine gcd_loop m r o1 o2 _ _ _ _ h (by omega) ?_ (by simp at hl; omega)
        have hh : b % (a % b) < a % b := Nat.mod_lt _ (by omega)
        have hq : 1 ≤ b / (a % b) := Nat.div_pos (by omega) (by omega)
        have hd := Nat.div_add_mod b (a % b)
        have hm1 : a % b * 1 ≤ a % b * (b / (a % b)) := Nat.mul_le_mul_left _ hq
        rw [Nat.pow_succ] at hb
        omega
theorem gcd_ok (a b : Int) (hb : b.natAbs < 2 ^ 8000) (h : Hc) : callL m_law_gcd [.int a, .int b] h = .ok (.int (Int.gcd a b : Nat)) h := by
  refine call_flat (h' := []) (by simp) ?_ (by simp) h
  unfold m_law_gcd
  rw [runB_s]
  obtain ⟨y4, y5, e⟩ := gcd_loop 8000 (upFrom 0 20000) (some (.int a)) (some (.int b)) none none a.natAbs b.natAbs [] (Nat.le_refl _) hb (by rw [upFrom_len]; decide)
  have key : ∀ (f : O → O) (x : Option D), x = some (.int (a.natAbs : Int)) → f = f := fun _ _ _ => rfl
  by_cases h1 : 0 ≤ a <;> by_cases h2 : 0 ≤ b
  · have q1 : (a.natAbs : Int) = a := by omega
    have q2 : (b.natAbs : Int) = b := by omega
    rw [q1, q2] at e
    simp [h1, h2, e, Int.gcd]
  · have q1 : (a.natAbs : Int) = a := by omega
    have q2 : (b.natAbs : Int) = -b := by omega
    rw [q1, q2] at e
    simp [h1, h2, e, Int.gcd]
  · have q1 : (a.natAbs : Int) = -a := by omega
    have q2 : (b.natAbs : Int) = b := by omega
    rw [q1, q2] at e
    simp [h1, h2, e, Int.gcd]
  · have q1 : (a.natAbs : Int) = -a := by omega
    have q2 : (b.natAbs : Int) = -b := by omega
    rw [q1, q2] at e
    simp [h1, h2, e, Int.gcd]
/-! ### quotients -/
/-- the number that divides both, with the sign of the divisor -/
def sg (n d : Int) : Int := if d < 0 then -(Int.gcd n d : Int) else (Int.gcd n d : Int)
/-- a quotient in lowest terms -/
def rdc (n d : Int) : D := .tup [.int (n.fdiv (sg n d)), .int (d.fdiv (sg n d))]
@[simp] theorem flat_rdc (n d : Int) : flat (rdc n d) = true := by simp [rdc]
theorem sg_ne {n d : Int} (hd : d ≠ 0) : sg n d ≠ 0 := by
  have := Int.gcd_ne_zero_right (a := n) hd
  unfold sg; split <;> omega
theorem sg_divOk {n d : Int} (hd : d ≠ 0) (hb : d.natAbs < 2 ^ 8000) : divOk (sg n d) = true := by
  have h1 : Int.gcd n d ≤ d.natAbs := Nat.le_of_dvd (by omega) (Int.gcd_dvd_natAbs_right n d)
  have h2 : (sg n d).natAbs = Int.gcd n d := by unfold sg; split <;> simp
  have h3 := Int.gcd_ne_zero_right (a := n) hd
  unfold divOk
  simp only [Bool.and_eq_true, decide_eq_true_eq]
  refine ⟨sg_ne hd, ?_⟩
  rw [h2]
  have := (Nat.log2_lt h3).mpr (Nat.lt_of_le_of_lt h1 hb)
  omega
theorem red_pos (n : Nat) {a d : Int} (hd : 0 < d) (hb : d.natAbs < 2 ^ 8000) (h : Hc) : callL (m_law_red (n + 1)) [.int a, .int d] h = .ok (rdc a d) h := by
  refine call_flat (h' := []) (by simp) ?_ (by simp) h
  unfold m_law_red
  rw [runB_s]
  have h3 := Int.gcd_ne_zero_right (a := a) (show d ≠ 0 by omega)
  have h4 := sg_divOk (n := a) (show d ≠ 0 by omega) hb
  have h5 : ¬ d < 0 := by omega
  have h6 : sg a d = (Int.gcd a d : Int) := by unfold sg; rw [if_neg h5]
  rw [h6] at h4
  have h7 : ¬ ((Int.gcd a d : Int) = 0) := by omega
  have h8 : ¬ (a = 0 ∧ d = 0) := by omega
  simp [gcd_ok a d hb, h4, h5, h8, rdc, h6]
theorem red_ok (n : Nat) {a d : Int} (hd : d ≠ 0) (hb : d.natAbs < 2 ^ 8000) (h : Hc) : callL (m_law_red (n + 2)) [.int a, .int d] h = .ok (rdc a d) h := by
  by_cases hp : 0 < d
  · exact red_pos _ hp hb h
  · have hn : 0 < -d := by omega
    refine call_flat (h' := []) (by simp) ?_ (by simp) h
    have e := red_pos n (a := -a) hn (by rwa [Int.natAbs_neg]) []
    have er : rdc (-a) (-d) = rdc a d := by
      unfold rdc sg
      have h1 : ¬ (-d < 0) := by omega
      have h2 : d < 0 := by omega
      rw [if_neg h1, if_pos h2]
      simp only [Int.gcd_neg, Int.neg_gcd]
      rw [← Int.neg_fdiv_neg a, ← Int.neg_fdiv_neg d]; simp
    have h2 : d < 0 := by omega
    unfold m_law_red
    rw [runB_s]
    simp [h2, e, er]
end Mp
/-! PreSpecC: sums of quotients, the same answer, what is handed in. -/
namespace Mp
open PySem PySem.Spec PyProof.Rows L2
/-- a quotient as a value -/
abbrev qv (n d : Int) : D := .tup [.int n, .int d]
/-- a number that is small -/
def sm (m : Nat) (n : Int) : Prop := n.natAbs < 2 ^ m
theorem sm_mul {a b : Nat} {x y : Int} (hx : sm a x) (hy : sm b y) : sm (a + b) (x * y) := by
  unfold sm at *
  rw [Int.natAbs_mul, Nat.pow_add]
  exact Nat.mul_lt_mul'' hx hy
theorem sm_le {a b : Nat} {x : Int} (h : a ≤ b) (hx : sm a x) : sm b x := Nat.lt_of_lt_of_le hx (Nat.pow_le_pow_right (by decide) h)
theorem mulOk_sm {x y : Int} (hx : sm 8000 x) (hy : sm 8000 y) : mulOk x y = true := by
  unfold mulOk
  have l : ∀ {z : Int}, sm 8000 z → z.natAbs.log2 < 8000 := by
    intro z hz
    by_cases h0 : z.natAbs = 0
    · rw [h0]; decide
    · exact (Nat.log2_lt h0).mpr hz
  have := l hx; have := l hy
  simp only [Bool.or_eq_true, decide_eq_true_eq]
  right; omega
theorem law_add_ok {a b c d : Int} (ha : sm 4000 a) (hb : sm 4000 b) (hc : sm 4000 c) (hd : sm 4000 d) (b0 : b ≠ 0) (d0 : d ≠ 0) (h : Hc) : callL m_law_add [qv a b, qv c d] h = .ok (rdc (a * d + c * b) (b * d)) h := by
  refine call_flat (h' := []) (by simp) ?_ (by simp) h
  have s := @sm_le 4000 8000
  have m1 := mulOk_sm (s (by decide) ha) (s (by decide) hd)
  have m2 := mulOk_sm (s (by decide) hc) (s (by decide) hb)
  have m3 := mulOk_sm (s (by decide) hb) (s (by decide) hd)
  have e := red_ok 22 (a := a * d + c * b) (d := b * d) (Int.mul_ne_zero b0 d0) (sm_mul hb hd) []
  unfold m_law_add
  rw [runB_s]
  simp at e
  simp [m1, m2, m3, e]
/-! ### a quotient that is drawn -/
section
variable {row : List Int} (hr : row ≠ [])
include hr
end
/-! ### the same answer -/
def soFit : Nat → D → Bool
  | 0, _ => false
  | n + 1, d => match d with
    | .int _ => true
    | .bl _ => true
    | .str _ => true
    | .non => true
    | .tup xs => decide (xs.length < 1000000) && xs.all (soFit n)
    | _ => false
theorem soFit_flat : ∀ {n : Nat} {d : D}, soFit n d = true → flat d = true
  | 0, d, h => by simp [soFit] at h
  | n + 1, d, h => by
    cases d <;> simp [soFit] at h ⊢
    rename_i xs
    obtain ⟨_, h⟩ := h
    have : ∀ ys : List D, (∀ a ∈ ys, soFit n a = true) → flatL ys = true := by
      intro ys
      induction ys with
      | nil => simp
      | cons x ys ih =>
        intro h
        simp at h ⊢
        exact ⟨soFit_flat h.1, ih h.2⟩
    exact this xs h
theorem so_loop {n : Nat} {xs : List D} (ih : ∀ d h, soFit n d = true → callL (m_law_so n) [d, d] h = .ok (.bl true) h) (hx : ∀ x ∈ xs, soFit n x = true) : ∀ (items : List D) (x2 : Option D), (∀ d ∈ items, ∃ j : Int, d = .int j ∧ 0 ≤ j ∧ j < xs.length) → ∃ y2, fl (fun _ => true) (.n 2) (m_law_so_l1 (m_law_so n)) items [some (.tup xs), some (.tup xs), x2] [] = .nx [some (.tup xs), some (.tup xs), y2] []
  | [], x2, _ => ⟨x2, by simp [fl]⟩
  | d :: r, x2, hi => by
    obtain ⟨j, rfl, j0, j1⟩ := hi d (by simp)
    obtain ⟨y2, e⟩ := so_loop ih hx r (some (.int j)) fun d hd => hi d (by simp [hd])
    refine ⟨y2, ?_⟩
    have hj : j.toNat < xs.length := by omega
    have e2 : atI xs j = some xs[j.toNat] := by rw [atI_of j0 j1]; simp [hj]
    have e3 := ih xs[j.toNat] [] (hx _ (List.getElem_mem hj))
    unfold fl
    simp [m_law_so_l1, e2, e3]
    exact e
theorem so_step {n : Nat} (ih : ∀ d h, soFit n d = true → callL (m_law_so n) [d, d] h = .ok (.bl true) h) (d : D) (h : Hc) (hf : soFit (n + 1) d = true) : callL (m_law_so (n + 1)) [d, d] h = .ok (.bl true) h := by
  have hfl := soFit_flat hf
  refine call_flat (h' := []) (by simp [hfl]) ?_ (by simp) h
  unfold m_law_so
  rw [runB_s]
  cases d <;> simp [soFit] at hf
  · simp
  · simp
  · simp
  · simp
  · rename_i xs
    obtain ⟨hl, hx⟩ := hf
    obtain ⟨y2, e⟩ := so_loop ih hx (upFrom 0 xs.length) none (fun d hd => by
      obtain ⟨j, e, j0, j1⟩ := upFrom_int d hd
      exact ⟨j, e, j0, by omega⟩)
    simp [e, rgOk_nat (show xs.length < 4000000000000000000 by omega)]
theorem so_refl : ∀ (n : Nat) (d : D) (h : Hc), soFit n d = true → callL (m_law_so n) [d, d] h = .ok (.bl true) h := by
  intro n
  induction n with
  | zero => intro d h hf; simp [soFit] at hf
  | succ n ih => exact so_step ih
/-! ### what is handed in -/
/-- a row of two, as a tuple or as a list -/
def pq (b : Bool) (n d : Int) : D := if b then .lst [.int n, .int d] else qv n d
end Mp
namespace Mp
open PySem PySem.Spec PyProof.Rows L2
/-! ### mirrors: Quo -/
/-- lowest: n 0, d 1, common 2 -/
def m_lowest : Fn := runB 3
  (sSeq (sSet 2 (eCB gcdF (aCons (eVar 0) (aCons (eVar 1) aNil))))
  (sSeq (sIf (bEx (eOp ltF (eVar 1) (eC (.int 0))))
    (sSet 2 (eUn negF (eVar 2)))
    sNext)
  (sRet (eTup (aCons (eOp fdivF (eVar 0) (eVar 2)) (aCons (eOp fdivF (eVar 1) (eVar 2)) aNil))))))
/-- is_integer: x 0 -/
def m_is_integer : Fn := runB 1
  (sRet (eAnd (eCB isF (aCons (eVar 0) (aCons (eC (.ty "int")) aNil))) (eNot (eCB isF (aCons (eVar 0) (aCons (eC (.ty "bool")) aNil))))))
/-- reduced: n 0, d 1 -/
def m_reduced : Fn := runB 2
  (sSeq (sIf (bNot (bTru (eCall m_is_integer (aCons (eVar 0) aNil))))
    (sRaise "BadValue" ["at"] (aCons (eC (.int 0)) aNil))
    sNext)
  (sSeq (sIf (bOr (bNot (bTru (eCall m_is_integer (aCons (eVar 1) aNil)))) (bEx (eOp eqF (eVar 1) (eC (.int 0)))))
    (sRaise "BadValue" ["at"] (aCons (eC (.int 1)) aNil))
    sNext)
  (sRet (eCall m_lowest (aCons (eVar 0) (aCons (eVar 1) aNil))))))
/-- is_sequence: x 0 -/
def m_is_sequence : Fn := runB 1
  (sRet (eIs2 (eVar 0) "list" "tuple"))
/-- is_row: x 0, least 1, most 2 -/
def m_is_row : Fn := runB 3
  (sRet (eAnd (eCall m_is_sequence (aCons (eVar 0) aNil)) (eAnd (eOp leF (eVar 1) (eCB lenF (aCons (eVar 0) aNil))) (eOp leF (eCB lenF (aCons (eVar 0) aNil)) (eVar 2)))))
/-- is_fraction: x 0 -/
def m_is_fraction : Fn := runB 1
  (sSeq (sIf (bOr (bNot (bTru (eCall m_is_row (aCons (eVar 0) (aCons (eC (.int 2)) (aCons (eC (.int 2)) aNil)))))) (bOr (bNot (bTru (eCall m_is_integer (aCons (eOp ixF (eVar 0) (eC (.int 0))) aNil)))) (bNot (bTru (eCall m_is_integer (aCons (eOp ixF (eVar 0) (eC (.int 1))) aNil))))))
    (sRet (eC (.bl false)))
    sNext)
  (sRet (eAnd (eOp geF (eOp ixF (eVar 0) (eC (.int 1))) (eC (.int 1))) (eOp eqF (eCB gcdF (aCons (eOp ixF (eVar 0) (eC (.int 0))) (aCons (eOp ixF (eVar 0) (eC (.int 1))) aNil))) (eC (.int 1))))))
/-- _look: a 0, b 1 -/
def m_look : Fn := runB 2
  (sSeq (sIf (bNot (bTru (eCall m_is_fraction (aCons (eVar 0) aNil))))
    (sRaise "BadValue" ["at"] (aCons (eC (.int 0)) aNil))
    sNext)
  (sIf (bNot (bTru (eCall m_is_fraction (aCons (eVar 1) aNil))))
    (sRaise "BadValue" ["at"] (aCons (eC (.int 1)) aNil))
    sNext))
/-- plus: a 0, b 1 -/
def m_plus : Fn := runB 2
  (sSeq (sDrop (eCall m_look (aCons (eVar 0) (aCons (eVar 1) aNil))))
  (sRet (eCall m_lowest (aCons (eOp addF (eOp mulF (eOp ixF (eVar 0) (eC (.int 0))) (eOp ixF (eVar 1) (eC (.int 1)))) (eOp mulF (eOp ixF (eVar 1) (eC (.int 0))) (eOp ixF (eVar 0) (eC (.int 1))))) (aCons (eOp mulF (eOp ixF (eVar 0) (eC (.int 1))) (eOp ixF (eVar 1) (eC (.int 1)))) aNil)))))
/-- minus: a 0, b 1 -/
def m_minus : Fn := runB 2
  (sSeq (sDrop (eCall m_look (aCons (eVar 0) (aCons (eVar 1) aNil))))
  (sRet (eCall m_lowest (aCons (eOp subF (eOp mulF (eOp ixF (eVar 0) (eC (.int 0))) (eOp ixF (eVar 1) (eC (.int 1)))) (eOp mulF (eOp ixF (eVar 1) (eC (.int 0))) (eOp ixF (eVar 0) (eC (.int 1))))) (aCons (eOp mulF (eOp ixF (eVar 0) (eC (.int 1))) (eOp ixF (eVar 1) (eC (.int 1)))) aNil)))))
/-- times: a 0, b 1 -/
def m_times : Fn := runB 2
  (sSeq (sDrop (eCall m_look (aCons (eVar 0) (aCons (eVar 1) aNil))))
  (sRet (eCall m_lowest (aCons (eOp mulF (eOp ixF (eVar 0) (eC (.int 0))) (eOp ixF (eVar 1) (eC (.int 0)))) (aCons (eOp mulF (eOp ixF (eVar 0) (eC (.int 1))) (eOp ixF (eVar 1) (eC (.int 1)))) aNil)))))
/-- over: a 0, b 1 -/
def m_over : Fn := runB 2
  (sSeq (sDrop (eCall m_look (aCons (eVar 0) (aCons (eVar 1) aNil))))
  (sSeq (sIf (bEx (eOp eqF (eOp ixF (eVar 1) (eC (.int 0))) (eC (.int 0))))
    (sRaise "BadValue" ["at"] (aCons (eC (.int 1)) aNil))
    sNext)
  (sRet (eCall m_lowest (aCons (eOp mulF (eOp ixF (eVar 0) (eC (.int 0))) (eOp ixF (eVar 1) (eC (.int 1)))) (aCons (eOp mulF (eOp ixF (eVar 0) (eC (.int 1))) (eOp ixF (eVar 1) (eC (.int 0)))) aNil))))))
/-- less: a 0, b 1 -/
def m_less : Fn := runB 2
  (sSeq (sDrop (eCall m_look (aCons (eVar 0) (aCons (eVar 1) aNil))))
  (sRet (eOp ltF (eOp mulF (eOp ixF (eVar 0) (eC (.int 0))) (eOp ixF (eVar 1) (eC (.int 1)))) (eOp mulF (eOp ixF (eVar 1) (eC (.int 0))) (eOp ixF (eVar 0) (eC (.int 1)))))))
end Mp
/-! QuoSpec: what the program's quotients reckon. -/
namespace Mp
open PySem PySem.Spec PyProof.Rows L2
theorem lowest_ok {n d : Int} (hd : d ≠ 0) (hb : d.natAbs < 2 ^ 8000) (h : Hc) : callL m_lowest [.int n, .int d] h = .ok (rdc n d) h := by
  refine call_flat (h' := []) (by simp) ?_ (by simp) h
  have h4 := sg_divOk (n := n) hd hb
  unfold m_lowest
  rw [runB_s]
  have e : ((n.natAbs.gcd d.natAbs : Nat) : Int) = (Int.gcd n d : Int) := rfl
  by_cases h5 : d < 0
  · have h6 : sg n d = -(Int.gcd n d : Int) := by unfold sg; rw [if_pos h5]
    rw [h6] at h4
    simp [h5, e, h4, rdc, h6]
  · have h6 : sg n d = (Int.gcd n d : Int) := by unfold sg; rw [if_neg h5]
    rw [h6] at h4
    simp [h5, e, h4, rdc, h6]
theorem is_integer_int (i : Int) (h : Hc) : callL m_is_integer [.int i] h = .ok (.bl true) h := by
  refine call_flat (h' := []) (by simp) ?_ (by simp) h
  unfold m_is_integer
  rw [runB_s]
  simp
theorem reduced_ok {n d : Int} (hd : d ≠ 0) (hb : d.natAbs < 2 ^ 8000) (h : Hc) : callL m_reduced [.int n, .int d] h = .ok (rdc n d) h := by
  refine call_flat (h' := []) (by simp) ?_ (by simp) h
  unfold m_reduced
  rw [runB_s]
  simp [is_integer_int, lowest_ok hd hb, hd]
section
variable (x y : Bool) {a b c d : Int} (ha : sm 4000 a) (hb : sm 4000 b) (hc : sm 4000 c) (hd : sm 4000 d) (b1 : 1 ≤ b) (gab : Int.gcd a b = 1) (d1 : 1 ≤ d) (gcd_ : Int.gcd c d = 1) (h : Hc)
include ha hb hc hd b1 gab d1 gcd_
end
end Mp
/-! LayU: three sequences walked side by side, each a list or a tuple. -/
namespace Mp
open PySem PySem.Spec PyProof.Rows L2
/-- three sequences, their items in new triples -/
def ItT3 (t1 t2 t3 : Bool) (K : PySem.W.Frag) (a b c : Addr) : It where
  go i H := ∃ (xs ys zs : List V) (x y z : V), SqX t1 K H a xs ∧ SqX t2 K H b ys ∧ SqX t3 K H c zs ∧ xs[i]? = some x ∧ ys[i]? = some y ∧ zs[i]? = some z
  yld i H v H' := ∃ T x y z, v = .ref T ∧ H T = none ∧ H' = upd H T (.tup [x, y, z]) ∧ (∀ xs, SqX t1 K H a xs → xs[i]? = some x) ∧ (∀ ys, SqX t2 K H b ys → ys[i]? = some y) ∧ ∀ zs, SqX t3 K H c zs → zs[i]? = some z
  stop i H := ∃ xs ys zs : List V, SqX t1 K H a xs ∧ SqX t2 K H b ys ∧ SqX t3 K H c zs ∧ (xs.length ≤ i ∨ ys.length ≤ i ∨ zs.length ≤ i)
section
variable {prog : Program} {w : World} {A : Around}
end
/-- zip of three sequences -/
def iZpB3 (K : PySem.W.Frag) (ta : TA) : TI := fun σ H R => ta σ H fun vs H1 => ∃ t1 t2 t3 a b c xs ys zs, vs = [.ref a, .ref b, .ref c] ∧ SqX t1 K H1 a xs ∧ SqX t2 K H1 b ys ∧ SqX t3 K H1 c zs ∧ R (ItT3 t1 t2 t3 K a b c) H1
/-- the triples -/
def zipD3 : List D → List D → List D → List D
  | x :: xs, y :: ys, z :: zs => .tup [x, y, z] :: zipD3 xs ys zs
  | _, _, _ => []
def chkZ3 (d : D) (xs : List D) (e : D) (ys : List D) (f : D) (zs : List D) : Hc → Bool := fun h => chkQ d xs h && chkQ e ys h && chkQ f zs h
def zp3F (xs : List D) (h : Hc) : R ItD := match xs with
  | [d, e, f] => match seqD h d, seqD h e, seqD h f with
    | some us, some ws, some ts => .ok ⟨zipD3 us ws ts, chkZ3 d us e ws f ts⟩ h
    | _, _, _ => .bad
  | _ => .bad
def iZip3 (as : SA) : SI := fun ds h => (as ds h).bd zp3F
section
variable {K : PySem.W.Frag} {ω : Wo} {h : Hc} {d e f : D}
end
section
variable {X : Cx} {W : WX} {e : Expr} {as : SA}
end
end Mp
/-! LayT: x in a list, the items data of any depth. -/
namespace Mp
open PySem PySem.Spec PyProof.Rows L2
def inZ (neg : Bool) (x y : D) (h : Hc) : R D := if scalD x = true then inG neg x y h else match toPyR h x, toPyR h y with
  | some d, some (.list ds) => if SeqAt.shaped d = true ∧ SeqAt.shaped (.list ds) = true then .ok (.bl (if neg then !(ds.any fun z => PyData.eqv z d) else ds.any fun z => PyData.eqv z d)) h else .bad
  | _, _ => .bad
def rInZ (K : PySem.W.Frag) (neg : Bool) : R2 := fun x y H Q => rInA K neg x y H Q ∨ ∃ d ds, Dp K H x d ∧ Dp K H y (.list ds) ∧ SeqAt.shaped d = true ∧ SeqAt.shaped (.list ds) = true ∧ Q (.bl (if neg then !(ds.any fun z => PyData.eqv z d) else ds.any fun z => PyData.eqv z d)) H
section
variable {X : Cx}
theorem hu_of65 {k : Nat} (hr : Room k X.A) : X.A.units + 65 < cLine := by have := hr.un; omega
theorem op_inZ (hu : X.A.units + 65 < cLine) : OpR X (compareOp .In) (rInZ X.K false) := op_inA.or (op_inD hu)
theorem op_notInZ (hu : X.A.units + 65 < cLine) : OpR X (compareOp .NotIn) (rInZ X.K true) := op_notInA.or (op_notInD hu)
theorem opd_inZ {neg : Bool} : OpD X (rInZ X.K neg) (inZ neg) := fun W σ ω h x y v u Q r rx ry p => by
  unfold inZ at p
  split at p
  · exact .inl (opd_in (neg := neg) W σ ω h x y v u Q r rx ry p)
  · split at p
    · rename_i d ds q1 q2
      obtain ⟨hs, p⟩ := p.if_
      exact .inr ⟨d, ds, toPyR_rel r q1 rx, toPyR_rel r q2 ry, hs.1, hs.2, p.here r bl_rd⟩
    · exact False.elim p
end
end Mp
namespace Mp
open PySem PySem.Spec PyProof.Rows L2
/-! ### mirrors: Age -/
/-- _law_pick: row 0, spot 1, things 2 -/
def m_law_pick : Fn := runB 3
  (sRet (eOp ixF (eVar 2) (eCall m_law_take (aCons (eVar 0) (aCons (eVar 1) (aCons (eCB lenF (aCons (eVar 2) aNil)) aNil))))))
def m_law_life_c1 : SE :=
  (eCall m_law_pick (aCons (eVar 0) (aCons (eVar 1) (aCons (eLst (aCons (eC (.int 0)) (aCons (eC (.int 0)) (aCons (eC (.int 1)) (aCons (eC (.int 1)) (aCons (eC (.int 2)) (aCons (eC (.int 3)) (aCons (eC (.int 9)) aNil)))))))) aNil))))
/-- _law_life: row 0, spot 1, made 2, k 3 -/
def m_law_life : Fn := runB 4
  (sSeq (sSet 2 (eLcC (iRg1 (aCons (eOp addF (eC (.int 1)) (eCall m_law_take (aCons (eVar 0) (aCons (eVar 1) (aCons (eC (.int 12)) aNil))))) aNil)) (.n 3) [3] (fun _ h => .ok true h) m_law_life_c1))
  (sSeq (sIf (bEx (eOp eqF (eOp ixF (eVar 2) (eOp subF (eCB lenF (aCons (eVar 2) aNil)) (eC (.int 1)))) (eC (.int 0))))
    (sPut setF (eOp addF (eC (.int 1)) (eCall m_law_take (aCons (eVar 0) (aCons (eVar 1) (aCons (eC (.int 4)) aNil))))) (eVar 2) (eOp subF (eCB lenF (aCons (eVar 2) aNil)) (eC (.int 1))))
    sNext)
  (sRet (eCB tupleF (aCons (eVar 2) aNil)))))
/-- is_within: x 0, low 1, high 2 -/
def m_is_within : Fn := runB 3
  (sRet (eAnd (eCall m_is_integer (aCons (eVar 0) aNil)) (eAnd (eOp leF (eVar 1) (eVar 0)) (eOp leF (eVar 0) (eVar 2)))))
def m_is_life_c1 : SE :=
  (eCall m_is_within (aCons (eVar 1) (aCons (eC (.int 0)) (aCons (eC (.int 9)) aNil))))
/-- is_life: life 0, weight 1 -/
def m_is_life : Fn := runB 2
  (sSeq (sIf (bNot (bTru (eCall m_is_row (aCons (eVar 0) (aCons (eC (.int 1)) (aCons (eC (.int 12)) aNil))))))
    (sRet (eC (.bl false)))
    sNext)
  (sSeq (sIf (bNot (bTru (eCB allF (aCons (eLc (iSeq (eVar 0)) (.n 1) [1] (fun _ h => .ok true h) m_is_life_c1) aNil))))
    (sRet (eC (.bl false)))
    sNext)
  (sRet (eOp geF (eOp ixF (eVar 0) (eUn negF (eC (.int 1)))) (eC (.int 1))))))
def m_used_days_c1 : SE :=
  (eOp mulF (eVar 3) (eCB minF (aCons (eOp addF (eVar 2) (eC (.int 1))) (aCons (eVar 1) aNil))))
/-- used_days: life 0, age 1, at 2, weight 3 -/
def m_used_days : Fn := runB 4
  (sRet (eCB sumA (aCons (eLc (iEnu (aCons (eVar 0) aNil)) (.t ((.n 2) :: ((.n 3) :: []))) [2, 3] (fun _ h => .ok true h) m_used_days_c1) aNil)))
/-- mean_life: life 0 -/
def m_mean_life : Fn := runB 1
  (sSeq (sIf (bNot (bTru (eCall m_is_life (aCons (eVar 0) aNil))))
    (sRaise "BadValue" ["at"] (aCons (eC (.int 0)) aNil))
    sNext)
  (sRet (eCall m_reduced (aCons (eCall m_used_days (aCons (eVar 0) (aCons (eCB lenF (aCons (eVar 0) aNil)) aNil))) (aCons (eCB sumA (aCons (eVar 0) aNil)) aNil)))))
/-- check_costs: life 0, plan 1, fail 2 -/
def m_check_costs : Fn := runB 3
  (sSeq (sIf (bNot (bTru (eCall m_is_life (aCons (eVar 0) aNil))))
    (sRaise "BadValue" ["at"] (aCons (eC (.int 0)) aNil))
    sNext)
  (sSeq (sIf (bNot (bTru (eCall m_is_within (aCons (eVar 1) (aCons (eC (.int 0)) (aCons (eC (.int 1000)) aNil))))))
    (sRaise "BadValue" ["at"] (aCons (eC (.int 1)) aNil))
    sNext)
  (sIf (bNot (bTru (eCall m_is_within (aCons (eVar 2) (aCons (eC (.int 0)) (aCons (eC (.int 1000)) aNil))))))
    (sRaise "BadValue" ["at"] (aCons (eC (.int 2)) aNil))
    sNext)))
/-- paid: life 0, plan 1, fail 2, age 3, ended 4 -/
def m_paid : Fn := runB 5
  (sSeq (sSet 4 (eCB sumA (aCons (eSl slF (eVar 0) none (some (eVar 3))) aNil)))
  (sRet (eOp addF (eOp mulF (eVar 2) (eVar 4)) (eOp mulF (eVar 1) (eOp subF (eCB sumA (aCons (eVar 0) aNil)) (eVar 4))))))
/-- cost_of_age: life 0, plan 1, fail 2, age 3 -/
def m_cost_of_age : Fn := runB 4
  (sRet (eCall m_reduced (aCons (eCall m_paid (aCons (eVar 0) (aCons (eVar 1) (aCons (eVar 2) (aCons (eVar 3) aNil))))) (aCons (eCall m_used_days (aCons (eVar 0) (aCons (eVar 3) aNil))) aNil))))
/-- age_cost: life 0, plan 1, fail 2, age 3 -/
def m_age_cost : Fn := runB 4
  (sSeq (sDrop (eCall m_check_costs (aCons (eVar 0) (aCons (eVar 1) (aCons (eVar 2) aNil)))))
  (sSeq (sIf (bNot (bTru (eCall m_is_within (aCons (eVar 3) (aCons (eC (.int 1)) (aCons (eCB lenF (aCons (eVar 0) aNil)) aNil))))))
    (sRaise "BadValue" ["at"] (aCons (eC (.int 3)) aNil))
    sNext)
  (sRet (eCall m_cost_of_age (aCons (eVar 0) (aCons (eVar 1) (aCons (eVar 2) (aCons (eVar 3) aNil))))))))
def m_law_age_cost_l1 : SS :=
  (sSeq (sSet 4 (eOp addF (eVar 4) (eOp mulF (eOp ixF (eVar 0) (eVar 6)) (eIf (bEx (eOp leF (eOp addF (eVar 6) (eC (.int 1))) (eVar 3))) (eVar 2) (eVar 1)))))
    (sSet 5 (eOp addF (eVar 5) (eOp mulF (eOp ixF (eVar 0) (eVar 6)) (eIf (bEx (eOp leF (eOp addF (eVar 6) (eC (.int 1))) (eVar 3))) (eOp addF (eVar 6) (eC (.int 1))) (eVar 3))))))
/-- _law_age_cost: life 0, plan 1, fail 2, age 3, cost 4, days 5, k 6 -/
def m_law_age_cost : Fn := runB 7
  (sSeq (sSet 4 (eC (.int 0)))
  (sSeq (sSet 5 (eC (.int 0)))
  (sSeq (sFor (iRg1 (aCons (eCB lenF (aCons (eVar 0) aNil)) aNil)) (.n 6)
    m_law_age_cost_l1)
  (sRet (eCall (m_law_red 24) (aCons (eVar 4) (aCons (eVar 5) aNil)))))))
end Mp
/-! AgeSpec: lives, what they use and pay. -/
namespace Mp
open PySem PySem.Spec PyProof.Rows L2
/-- a row of numbers, as a list or as a tuple -/
def sq (b : Bool) (xs : List Int) : D := if b then .lst (xs.map D.int) else .tup (xs.map D.int)
@[simp] theorem flat_sq (b : Bool) (xs : List Int) : flat (sq b xs) = true := by cases b <;> simp [sq]
theorem flatL_of {xs : List D} (h : ∀ x ∈ xs, flat x = true) : flatL xs = true := by
  induction xs with
  | nil => simp
  | cons x xs ih => simp [h x (by simp), ih fun y hy => h y (by simp [hy])]
section
variable {row : List Int} (hr : row ≠ [])
include hr
/-- one of some things -/
theorem pick_ex {k : Int} {i : Nat} {h : Hc} {xs : List D} (hf : ∀ x ∈ xs, flat x = true) (hx : xs ≠ []) (hi : h[i]? = some (.lst [.int k])) (hk : 0 ≤ k) : ∃ v k', v ∈ xs ∧ 0 ≤ k' ∧ callL m_law_pick [.lst (row.map D.int), .ref i, .lst xs] h = .ok v (h.set i (.lst [.int k'])) := by
  have hp : 0 < xs.length := by cases xs <;> simp_all
  obtain ⟨v, k1, a1, b1, c1, e1⟩ := take_ex hr (h := [.lst [.int k]]) (i := 0) (l := (xs.length : Int)) rfl hk (by omega)
  simp at e1
  have hj : v.toNat < xs.length := by omega
  have e2 : atI xs v = some xs[v.toNat] := by rw [atI_of a1 (by omega)]; simp [hj]
  refine ⟨xs[v.toNat], k1, List.getElem_mem hj, c1, call_spot (d0 := xs[v.toNat]) (h' := [.lst [.int k1]]) (by simp) (by simp [flatL_of hf]) hi ?_ rfl fun j => frzD_flat (hf _ (List.getElem_mem hj))⟩
  unfold m_law_pick
  rw [runB_s]
  simp [e1, e2]
end
theorem is_within_int (x lo hi : Int) (h : Hc) : callL m_is_within [.int x, .int lo, .int hi] h = .ok (.bl (decide (lo ≤ x) && decide (x ≤ hi))) h := by
  refine call_flat (h' := []) (by simp) ?_ (by simp) h
  unfold m_is_within
  rw [runB_s]
  by_cases h1 : lo ≤ x <;> simp [is_integer_int, h1]
theorem is_row_sq (b : Bool) (xs : List Int) (lo hi : Int) (h : Hc) : callL m_is_row [sq b xs, .int lo, .int hi] h = .ok (.bl (decide (lo ≤ xs.length) && decide ((xs.length : Int) ≤ hi))) h := by
  have e : ∀ h, callL m_is_sequence [sq b xs] h = .ok (.bl true) h := fun h => by
    refine call_flat (h' := []) (by simp) ?_ (by simp) h
    unfold m_is_sequence
    rw [runB_s]
    cases b <;> simp [sq]
  refine call_flat (h' := []) (by simp) ?_ (by simp) h
  unfold m_is_row
  rw [runB_s]
  simp [e]
  have l : ∀ h, lenF [sq b xs] h = .ok (.int xs.length) h := fun h => by cases b <;> simp [sq]
  by_cases h1 : lo ≤ (xs.length : Int) <;> simp [l, h1]
@[simp] theorem seqD_sq (b : Bool) (xs : List Int) (h : Hc) : seqD h (sq b xs) = some (xs.map D.int) := by cases b <;> rfl
@[simp] theorem chkQ_sq (b : Bool) (xs : List Int) : chkQ (sq b xs) (xs.map D.int) = fun _ => true := by cases b <;> simp [sq]
@[simp] theorem sumA_sq (b : Bool) (xs : List Int) (h : Hc) : sumA [sq b xs] h = .ok (.int xs.sum) h := by cases b <;> simp [sq]
/-- a life: some days, each with a weight, the last with one -/
structure Life (l : List Int) : Prop where
  ne : l ≠ []
  len : l.length ≤ 12
  w : ∀ x ∈ l, 0 ≤ x ∧ x ≤ 9
  last : ∀ h : l ≠ [], 1 ≤ l.getLast h
theorem all_within {xs : List Int} {lo hi : Int} (hw : ∀ x ∈ xs, lo ≤ x ∧ x ≤ hi) : (xs.map fun x => decide (lo ≤ x) && decide (x ≤ hi)).all id = true := by
  simp only [List.all_eq_true, List.mem_map, forall_exists_index, and_imp]
  rintro b x hx rfl
  simp [hw x hx]
theorem setF_ok {n : Nat} {xs : List D} {h : Hc} {i : Int} {x : D} (e : h[n]? = some (.lst xs)) (h0 : 0 ≤ i) (h1 : i < xs.length) : setF (.ref n) (.int i) x h = some (h.set n (.lst (xs.set i.toNat x))) := by
  unfold setF
  simp only [e]
  have : ixN xs.length i = some i.toNat := by unfold ixN; rw [if_pos h0, if_pos h1]
  rw [this]; rfl
section
variable {row : List Int} (hr : row ≠ [])
include hr
end
/-- the days that a life uses, up to an age -/
def usedF (age : Int) : Int → List Int → Int
  | _, [] => 0
  | n, w :: r => w * (if age < n + 1 then age else n + 1) + usedF age (n + 1) r
/-- what a policy pays -/
def paidF (l : List Int) (plan fail : Int) (age : Nat) : Int := fail * (l.take age).sum + plan * (l.sum - (l.take age).sum)
theorem small8000 {z : Int} (h : z.natAbs < 2 ^ 60) : z.natAbs < 2 ^ 8000 := Nat.lt_of_lt_of_le h (Nat.pow_le_pow_right (by decide) (by decide))
/-! ### what the law pays -/
def costF (plan fail age : Int) : Int → List Int → Int
  | _, [] => 0
  | n, w :: r => w * (if n + 1 ≤ age then fail else plan) + costF plan fail age (n + 1) r
def daysF (age : Int) : Int → List Int → Int
  | _, [] => 0
  | n, w :: r => w * (if n + 1 ≤ age then n + 1 else age) + daysF age (n + 1) r
end Mp
/-! RdcSpec: quotients in lowest terms are one for each value. -/
namespace Mp
open PySem PySem.Spec PyProof.Rows L2
section
variable {a b c d N M : Int} (hb : 0 < b) (hd : 0 < d) (hM : 0 < M) (sa : sm 4000 a) (sb : sm 4000 b) (sc : sm 4000 c) (sd : sm 4000 d)
include hb hd hM sa sb sc sd
end
end Mp
namespace Mp
open PySem PySem.Spec PyProof.Rows L2
/-! ### mirrors: Chn -/
def m_law_chain_c1 : SE :=
  (eCall m_law_pick (aCons (eVar 0) (aCons (eVar 1) (aCons (eLst (aCons (eC (.int 0)) (aCons (eC (.int 0)) (aCons (eC (.int 0)) (aCons (eC (.int 1)) (aCons (eC (.int 1)) (aCons (eC (.int 2)) (aCons (eC (.int 9)) aNil)))))))) aNil))))
def m_law_chain_l1 : SS :=
  (sSeq (sSet 6 (eLcC (iRg1 (aCons (eVar 3) aNil)) (.n 7) [7] (fun _ h => .ok true h) m_law_chain_c1))
    (sSeq (sIf (bEx (eOp eqF (eCB sumA (aCons (eVar 6) aNil)) (eC (.int 0))))
      (sPut setF (eOp addF (eC (.int 1)) (eCall m_law_take (aCons (eVar 0) (aCons (eVar 1) (aCons (eC (.int 4)) aNil))))) (eVar 6) (eCall m_law_take (aCons (eVar 0) (aCons (eVar 1) (aCons (eVar 3) aNil)))))
      sNext)
    (sDrop (eBM "list" appF (eVar 4) (aCons (eCB tupleF (aCons (eVar 6) aNil)) aNil)))))
/-- _law_chain: row 0, spot 1, most 2, many 3, made 4, s 5, weights 6, j 7 -/
def m_law_chain : Fn := runB 8
  (sSeq (sSet 3 (eOp addF (eC (.int 1)) (eCall m_law_take (aCons (eVar 0) (aCons (eVar 1) (aCons (eVar 2) aNil))))))
  (sSeq (sSet 4 (eCell aNil))
  (sSeq (sFor (iRg1 (aCons (eVar 3) aNil)) (.n 5)
    m_law_chain_l1)
  (sRet (eCB tupleF (aCons (eVar 4) aNil))))))
def m_sure_c1 : SE :=
  (eIf (bEx (eOp eqF (eVar 2) (eVar 1))) (eTup (aCons (eC (.int 1)) (aCons (eC (.int 1)) aNil))) (eTup (aCons (eC (.int 0)) (aCons (eC (.int 1)) aNil))))
/-- sure: many 0, at 1, k 2 -/
def m_sure : Fn := runB 3
  (sRet (eCB tupleF (aCons (eLc (iRg1 (aCons (eVar 0) aNil)) (.n 2) [2] (fun _ h => .ok true h) m_sure_c1) aNil)))
def m_is_weights_c1 : SE :=
  (eCall m_is_within (aCons (eVar 2) (aCons (eC (.int 0)) (aCons (eC (.int 9)) aNil))))
/-- is_weights: row 0, many 1, weight 2 -/
def m_is_weights : Fn := runB 3
  (sSeq (sIf (bNot (bTru (eCall m_is_row (aCons (eVar 0) (aCons (eVar 1) (aCons (eVar 1) aNil))))))
    (sRet (eC (.bl false)))
    sNext)
  (sRet (eAnd (eCB allF (aCons (eLc (iSeq (eVar 0)) (.n 2) [2] (fun _ h => .ok true h) m_is_weights_c1) aNil)) (eOp gtF (eCB sumA (aCons (eVar 0) aNil)) (eC (.int 0))))))
def m_is_chain_c1 : SE :=
  (eCall m_is_weights (aCons (eVar 1) (aCons (eCB lenF (aCons (eVar 0) aNil)) aNil)))
/-- is_chain: chain 0, row 1 -/
def m_is_chain : Fn := runB 2
  (sSeq (sIf (bNot (bTru (eCall m_is_row (aCons (eVar 0) (aCons (eC (.int 1)) (aCons (eC (.int 6)) aNil))))))
    (sRet (eC (.bl false)))
    sNext)
  (sRet (eCB allF (aCons (eLc (iSeq (eVar 0)) (.n 1) [1] (fun _ h => .ok true h) m_is_chain_c1) aNil))))
def m_common_bottom_l1 : SS :=
  (sSet 1 (eCB lcmF (aCons (eVar 1) (aCons (eVar 2) aNil))))
/-- common_bottom: bottoms 0, common 1, bottom 2 -/
def m_common_bottom : Fn := runB 3
  (sSeq (sSet 1 (eC (.int 1)))
  (sSeq (sFor (iSeq (eVar 0)) (.n 2)
    m_common_bottom_l1)
  (sRet (eVar 1))))
def m_lifted_c1 : SE :=
  (eOp mulF (eOp ixF (eVar 4) (eC (.int 1))) (eCB sumA (aCons (eVar 5) aNil)))
def m_lifted_c2 : SE :=
  (eOp mulF (eOp ixF (eVar 4) (eC (.int 0))) (eOp fdivF (eVar 3) (eVar 6)))
/-- lifted: rows 0, shares 1, bottoms 2, common 3, share 4, row 5, bottom 6 -/
def m_lifted : Fn := runB 7
  (sSeq (sSet 2 (eLc (iZip (aCons (eVar 1) (aCons (eVar 0) aNil))) (.t ((.n 4) :: ((.n 5) :: []))) [4, 5] (fun _ h => .ok true h) m_lifted_c1))
  (sSeq (sSet 3 (eCall m_common_bottom (aCons (eVar 2) aNil)))
  (sRet (eTup (aCons (eLc (iZip (aCons (eVar 1) (aCons (eVar 2) aNil))) (.t ((.n 4) :: ((.n 6) :: []))) [4, 6] (fun _ h => .ok true h) m_lifted_c2) (aCons (eVar 3) aNil))))))
def m_spread_c1 : SE :=
  (eOp mulF (eVar 7) (eOp ixF (eVar 8) (eVar 5)))
def m_spread_l1 : SS :=
  (sSeq (sSet 6 (eCB sumA (aCons (eLc (iZip (aCons (eVar 2) (aCons (eVar 0) aNil))) (.t ((.n 7) :: ((.n 8) :: []))) [7, 8] (fun _ h => .ok true h) m_spread_c1) aNil)))
    (sDrop (eBM "list" appF (eVar 4) (aCons (eCall m_reduced (aCons (eVar 6) (aCons (eVar 3) aNil))) aNil))))
/-- spread: rows 0, shares 1, factors 2, common 3, found 4, at 5, top 6, factor 7, row 8 -/
def m_spread : Fn := runB 9
  (sSeq (sAsg (.t ((.n 2) :: ((.n 3) :: []))) (eCall m_lifted (aCons (eVar 0) (aCons (eVar 1) aNil))))
  (sSeq (sSet 4 (eCell aNil))
  (sSeq (sFor (iRg1 (aCons (eCB lenF (aCons (eOp ixF (eVar 0) (eC (.int 0))) aNil)) aNil)) (.n 5)
    m_spread_l1)
  (sRet (eCB tupleF (aCons (eVar 4) aNil))))))
def m_law_shares_c1 : SE :=
  (eCall (m_law_red 24) (aCons (eVar 2) (aCons (eCB sumA (aCons (eOp ixF (eVar 0) (eVar 1)) aNil)) aNil)))
/-- _law_shares: chain 0, s 1, one 2 -/
def m_law_shares : Fn := runB 3
  (sRet (eLc (iSeq (eOp ixF (eVar 0) (eVar 1))) (.n 2) [2] (fun _ h => .ok true h) m_law_shares_c1))
end Mp
/-! ChnSpec: chains, shares, what a day makes of them. -/
namespace Mp
open PySem PySem.Spec PyProof.Rows L2
/-! ### sequences of either kind -/
def sqs (b : Bool) (ds : List D) : D := if b then .lst ds else .tup ds
@[simp] theorem seqD_sqs (b : Bool) (xs : List D) (h : Hc) : seqD h (sqs b xs) = some xs := by cases b <;> rfl
@[simp] theorem chkQ_sqs (b : Bool) (xs : List D) : chkQ (sqs b xs) xs = fun _ => true := by cases b <;> simp [sqs]
@[simp] theorem len_sqs (b : Bool) (xs : List D) (h : Hc) : lenF [sqs b xs] h = .ok (.int xs.length) h := by cases b <;> simp [sqs]
theorem ix_sqs (b : Bool) (xs : List D) (i : Int) (h : Hc) : ixF (sqs b xs) (.int i) h = match atI xs i with
    | some d => .ok d h
    | none => .bad := by cases b <;> simp [sqs] <;> rfl
theorem flat_sqs (b : Bool) {xs : List D} (hx : flatL xs = true) : flat (sqs b xs) = true := by cases b <;> simp [sqs, hx]
theorem zipD_map {α : Type} (f g : α → D) : ∀ Z : List α, zipD (Z.map f) (Z.map g) = Z.map fun z => .tup [f z, g z]
  | [] => by simp [zipD]
  | z :: r => by simp [zipD, zipD_map f g r]
theorem zpF_sqs (b c : Bool) (xs ys : List D) (h : Hc) : zpF [sqs b xs, sqs c ys] h = .ok ⟨zipD xs ys, fun _ => true⟩ h := by
  simp only [zpF, seqD_sqs]
  have : chkZ (sqs b xs) xs (sqs c ys) ys = fun _ => true := by unfold chkZ; simp
  rw [this]
/-! ### quotients: their two numbers -/
def nm (n d : Int) : Int := n.fdiv (sg n d)
def dn (n d : Int) : Int := d.fdiv (sg n d)
def shD (e : Bool) (a N : Int) : D := pq e (nm a N) (dn a N)
/-! ### one bottom for all -/
def lcmL (a : Int) : List Int → Int
  | [] => a
  | b :: r => lcmL ((Nat.lcm a.natAbs b.natAbs : Nat) : Int) r
/-! ### shares lifted to one bottom -/
section
variable {N L : Int} (hN : 0 < N) (hL : 0 < L) (sN : sm 4000 N) (sL : sm 4000 L) {Z : List (Int × List Int)} (hZ : ∀ z ∈ Z, 0 < z.2.sum ∧ z.2.sum ∣ L ∧ sm 4000 z.1) (hlen : Z.length ≤ 1000)
abbrev bt (N : Int) (z : Int × List Int) : Int := dn z.1 N * z.2.sum
abbrev cbt (N : Int) (Z : List (Int × List Int)) : Int := lcmL 1 (Z.map (bt N))
abbrev fc (N : Int) (Z : List (Int × List Int)) (z : Int × List Int) : Int := nm z.1 N * (cbt N Z).fdiv (bt N z)
include hN hL hZ
include sN sL hlen
end

/-! ### a day -/
def stepZ (L : Int) (Z : List (Int × List Int)) (j : Nat) : Int := (Z.map fun z => z.1 * (L / z.2.sum) * z.2.getD j 0).sum
section
variable {N L : Int} (hN : 0 < N) (hL : 0 < L) (sN : sm 4000 N) (sL : sm 4000 L) {Z : List (Int × List Int)} (hZ : ∀ z ∈ Z, 0 < z.2.sum ∧ z.2.sum ∣ L ∧ sm 4000 z.1) (hlen : Z.length ≤ 1000) {n : Nat} (hn : n ≤ 1000) (hr : ∀ z ∈ Z, z.2.length = n ∧ ∀ x ∈ z.2, 0 ≤ x ∧ x ≤ 9)
include hN hL hZ sN sL hlen hn hr
end

/-! ### chains -/
structure Chn (M : List (List Int)) : Prop where
  lo : 1 ≤ M.length
  hi : M.length ≤ 5
  row : ∀ r ∈ M, r.length = M.length ∧ 0 < r.sum ∧ ∀ x ∈ r, 0 ≤ x ∧ x ≤ 9
def ch (b : Bool) (M : List (List Int)) : D := sqs b (M.map (sq b))
theorem flat_ch (b : Bool) (M : List (List Int)) : flat (ch b M) = true := flat_sqs b (flatL_map _ (fun r => flat_sq b r) M)
def prodL : List (List Int) → Int
  | [] => 1
  | r :: R => r.sum * prodL R
theorem sum_le9 : ∀ (r : List Int), (∀ x ∈ r, 0 ≤ x ∧ x ≤ 9) → 0 ≤ r.sum ∧ r.sum ≤ 9 * r.length
  | [], _ => by simp
  | x :: r, h => by
    have ih := sum_le9 r fun y hy => h y (by simp [hy])
    have := h x (by simp)
    simp only [List.sum_cons, List.length_cons]
    omega
theorem Chn.sums {M : List (List Int)} (C : Chn M) : ∀ r ∈ M, 0 < r.sum ∧ r.sum ≤ 64 := fun r hr => by
  obtain ⟨h1, h2, h3⟩ := C.row r hr
  have := (sum_le9 r h3).2
  have := C.hi
  exact ⟨h2, by omega⟩
theorem is_weights_ok (b : Bool) {r : List Int} {n : Nat} (hn : n ≤ 1000) (hl : r.length = n) (hs : 0 < r.sum) (hw : ∀ x ∈ r, 0 ≤ x ∧ x ≤ 9) (h : Hc) : callL m_is_weights [sq b r, .int (n : Int)] h = .ok (.bl true) h := by
  have e1 := lcR_two (chk := fun _ => true) (p := .n 2) (own := [2]) (m := m_is_weights_c1) (ds := [some (sq b r), some (.int (n : Int)), none]) (h := []) rfl (r.map D.int) (r.map fun x => .bl (decide (0 ≤ x) && decide (x ≤ 9))) [] (by simp; omega)
    (All2.map fun x _ => ⟨_, bindP_n .., by simp [m_is_weights_c1, is_within_int]⟩)
  have e4 : ∀ h, allF [.lst (r.map fun x => D.bl (decide (0 ≤ x) && decide (x ≤ 9)))] h = .ok (.bl true) h := fun h => by
    have e2 : (r.map fun x => D.bl (decide (0 ≤ x) && decide (x ≤ 9))) = (r.map fun x => decide (0 ≤ x) && decide (x ≤ 9)).map D.bl := by simp
    rw [e2, allF_lst, all_within hw]
  refine call_flat (h' := []) (by simp) ?_ (by simp) h
  unfold m_is_weights
  rw [runB_s]
  simp only [List.nil_append] at e1
  simp [is_row_sq, hl, e1, e4, hs]
theorem is_chain_ok (b : Bool) {M : List (List Int)} (C : Chn M) (h : Hc) : callL m_is_chain [ch b M] h = .ok (.bl true) h := by
  have h1 := C.lo
  have h2 := C.hi
  have e1 := lcR_two (chk := fun _ => true) (p := .n 1) (own := [1]) (m := m_is_chain_c1) (ds := [some (ch b M), none]) (h := []) rfl (M.map (sq b)) ((M.map fun _ => true).map D.bl) [] (by simp; omega) (by
    rw [List.map_map]
    refine All2.map fun r hr => ⟨_, bindP_n .., ?_⟩
    obtain ⟨a1, a2, a3⟩ := C.row r hr
    have := fun h => is_weights_ok b (by omega) a1 a2 a3 h
    simp [m_is_chain_c1, ch, this])
  have e2 : ∀ h, callL m_is_row [ch b M, .int 1, .int 6] h = .ok (.bl true) h := fun h => by
    have f := flat_ch b M
    have e : ∀ h, callL m_is_sequence [ch b M] h = .ok (.bl true) h := fun h => by
      refine call_flat (h' := []) (by simp [f]) ?_ (by simp) h
      unfold m_is_sequence
      rw [runB_s]
      cases b <;> simp [ch, sqs]
    refine call_flat (h' := []) (by simp [f]) ?_ (by simp) h
    unfold m_is_row
    rw [runB_s]
    have g1 : ((M.length : Int) : Int) ≤ 6 := by omega
    have g0 : (1 : Int) ≤ (M.length : Int) := by omega
    have l : ∀ h, lenF [ch b M] h = .ok (.int (M.length : Int)) h := fun h => by simp [ch]
    simp [e, l, g0, g1]
  refine call_flat (h' := []) (by simp [flat_ch]) ?_ (by simp) h
  unfold m_is_chain
  rw [runB_s]
  simp only [List.nil_append] at e1
  have e5 : ∀ h, allF [.lst ((M.map fun _ => true).map D.bl)] h = .ok (.bl true) h := fun h => by
    rw [allF_lst]
    congr 2
    simp
  have e6 : ∀ h, seqD h (ch b M) = some (M.map (sq b)) := fun h => seqD_sqs b _ h
  have e7 : chkQ (ch b M) (M.map (sq b)) = fun _ => true := chkQ_sqs b _
  generalize hB : (M.map fun _ => true).map D.bl = BL at *
  simp [e2, e6, e7, e1, e5]
/-! ### the shares of a day -/
def dayA (M : List (List Int)) (s : Nat) : Nat → List Int
  | 0 => (List.range' 0 M.length).map fun k => if k = s then 1 else 0
  | d + 1 => (List.range' 0 M.length).map fun j => stepZ (prodL M) ((dayA M s d).zip M) j
/-! ### handed in as it is or as lists throughout -/
def lsdN : Nat → D → D
  | 0, d => d
  | n + 1, .tup xs => .lst (xs.map (lsdN n))
  | _ + 1, d => d
def lsFit : Nat → D → Bool
  | 0, _ => false
  | n + 1, .tup xs => decide (xs.length ≤ 1000000) && xs.all (lsFit n)
  | _ + 1, .int _ => true
  | _ + 1, .str _ => true
  | _ + 1, .bl _ => true
  | _ + 1, .non => true
  | _ + 1, _ => false
theorem lsFit_flat : ∀ (n : Nat) (d : D), lsFit n d = true → flat d = true ∧ flat (lsdN n d) = true
  | 0, d, h => by simp [lsFit] at h
  | n + 1, d, h => by
    cases d with
    | tup xs =>
      unfold lsFit at h
      rw [Bool.and_eq_true] at h
      have hx := List.all_eq_true.mp h.2
      refine ⟨by rw [flat_tup]; exact flatL_of fun x hx' => (lsFit_flat n x (hx x hx')).1, ?_⟩
      show flat (.lst (xs.map (lsdN n))) = true
      rw [flat_lst]
      refine flatL_of fun y hy => ?_
      obtain ⟨x, hx', rfl⟩ := List.mem_map.mp hy
      exact (lsFit_flat n x (hx x hx')).2
    | int i => exact ⟨by simp, by simp [lsdN]⟩
    | str i => exact ⟨by simp, by simp [lsdN]⟩
    | bl i => exact ⟨by simp, by simp [lsdN]⟩
    | non => exact ⟨by simp, by simp [lsdN]⟩
    | _ => simp [lsFit] at h
theorem listed_gen : ∀ (n : Nat) (d : D) (h : Hc), lsFit n d = true → callL (m_law_listed n) [d] h = .ok (lsdN n d) h
  | 0, d, h, f => by simp [lsFit] at f
  | n + 1, d, h, f => by
    have ff := lsFit_flat (n + 1) d f
    refine call_flat (h' := []) (by simp [ff.1]) ?_ ff.2 h
    unfold m_law_listed
    rw [runB_s]
    cases d with
    | tup xs =>
      unfold lsFit at f
      rw [Bool.and_eq_true] at f
      have hx := List.all_eq_true.mp f.2
      have hl : xs.length ≤ 1000000 := by simpa using f.1
      have e := lcR_map (chk := fun _ => true) (p := .n 1) (own := [1]) (m := m_law_listed_c1 (m_law_listed n)) (ds := [some (.tup xs), none]) (h := []) (lsdN n) rfl xs [] (by simpa using hl) (fun d hd => ⟨_, bindP_n .., by
        have := fun h => listed_gen n d h (hx d hd)
        simp [m_law_listed_c1, this]⟩)
      simp only [List.nil_append] at e
      simp [e, lsdN]
    | int i => simp [lsdN]
    | str i => simp [lsdN]
    | bl i => simp [lsdN]
    | non => simp [lsdN]
    | _ => simp [lsFit] at f
theorem handed_gen {row : List Int} (hr : row ≠ []) {k : Int} {d : D} {i : Nat} {h : Hc} (f : lsFit 24 d = true) (hi : h[i]? = some (.lst [.int k])) (hk : 0 ≤ k) : ∃ (b : Bool) (k' : Int), 0 ≤ k' ∧ callL m_law_handed [.lst (row.map D.int), .ref i, d] h = .ok (if b then lsdN 24 d else d) (h.set i (.lst [.int k'])) := by
  obtain ⟨v1, k1, a1, b1, c1, e1⟩ := take_ex hr (h := [.lst [.int k]]) (i := 0) (l := 2) rfl hk (by decide)
  simp at e1
  have ff := lsFit_flat 24 d f
  refine ⟨decide (v1 = 0), k1, c1, call_spot (d0 := if decide (v1 = 0) then lsdN 24 d else d) (h' := [.lst [.int k1]]) (by simp) (by simp [ff.1]) hi ?_ rfl fun j => frzD_flat (by split; exact ff.2; exact ff.1)⟩
  unfold m_law_handed
  rw [runB_s]
  have e2 := fun h => listed_gen 24 d h f
  by_cases hv : v1 = 0
  · simp [e1, hv, e2]
  · simp [e1, hv]
theorem fit_row (n : Nat) (r : List Int) (hl : r.length ≤ 1000) : lsFit (n + 2) (sq false r) = true := by
  have : sq false r = .tup (r.map D.int) := rfl
  rw [this]
  unfold lsFit
  simp [lsFit]
  omega
theorem handed_ch {row : List Int} (hr : row ≠ []) {M : List (List Int)} (C : Chn M) {k : Int} {i : Nat} {h : Hc} (hi : h[i]? = some (.lst [.int k])) (hk : 0 ≤ k) : ∃ (b : Bool) (k' : Int), 0 ≤ k' ∧ callL m_law_handed [.lst (row.map D.int), .ref i, ch false M] h = .ok (ch b M) (h.set i (.lst [.int k'])) := by
  have hm := C.hi
  have f : lsFit 24 (ch false M) = true := by
    show lsFit 24 (.tup (M.map (sq false))) = true
    unfold lsFit
    rw [Bool.and_eq_true]
    refine ⟨by simp; omega, List.all_eq_true.mpr fun x hx => ?_⟩
    obtain ⟨r, hr, rfl⟩ := List.mem_map.mp hx
    have := (C.row r hr).1
    exact fit_row 21 r (by omega)
  obtain ⟨b, k', h1, e⟩ := handed_gen hr f hi hk
  refine ⟨b, k', h1, ?_⟩
  rw [e]
  congr 1
  cases b with
  | false => rfl
  | true =>
    show lsdN 24 (.tup (M.map (sq false))) = .lst (M.map (sq true))
    have : ∀ r : List Int, lsdN 23 (sq false r) = sq true r := fun r => by
      show D.lst ((r.map D.int).map (lsdN 22)) = D.lst (r.map D.int)
      rw [List.map_map]
      rfl
    show D.lst ((M.map (sq false)).map (lsdN 23)) = _
    rw [List.map_map]
    congr 1
    exact List.map_congr_left fun r _ => this r
/-! ### the start, the law's shares -/
theorem law_shares_ok (b : Bool) {M : List (List Int)} (C : Chn M) {s : Nat} (hs : s < M.length) (h : Hc) : callL m_law_shares [ch b M, .int (s : Int)] h = .ok (.lst (M[s].map fun w => rdc w M[s].sum)) h := by
  obtain ⟨r1, r2, r3⟩ := C.row M[s] (List.getElem_mem hs)
  have hm := C.hi
  have sm' := (C.sums M[s] (List.getElem_mem hs)).2
  have i0 : ∀ h, ixF (ch b M) (.int (s : Int)) h = .ok (sq b M[s]) h := fun h => by
    show ixF (sqs b (M.map (sq b))) (.int (s : Int)) h = _
    rw [ix_sqs, atI_nat' (by simpa using hs)]
    simp [hs]
  have e := lcR_two (chk := fun _ => true) (p := .n 2) (own := [2]) (m := m_law_shares_c1) (ds := [some (ch b M), some (.int (s : Int)), none]) (h := []) rfl (M[s].map D.int) (M[s].map fun w => rdc w M[s].sum) [] (by simp; omega) (by
    refine All2.map fun w hw => ⟨_, bindP_n .., ?_⟩
    have := fun h => red_ok 22 (a := w) (d := M[s].sum) (by omega) (small8000 (by omega)) h
    simp [m_law_shares_c1, i0, this])
  refine call_flat (h' := []) (by simp [flat_ch]) ?_ (by rw [flat_lst]; exact flatL_map _ (fun j => flat_rdc _ _) _) h
  unfold m_law_shares
  rw [runB_s]
  simp only [List.nil_append] at e
  simp [i0, e]
/-! ### drawn chains -/
theorem sum_pos_mem : ∀ {r : List Int}, (∀ x ∈ r, 0 ≤ x) → (∃ x ∈ r, 1 ≤ x) → 0 < r.sum
  | [], _, ⟨_, h, _⟩ => by simp at h
  | y :: r, h, ⟨x, hx, h1⟩ => by
    have h0 := h y (by simp)
    have hr : 0 ≤ r.sum := by
      have : ∀ (l : List Int), (∀ x ∈ l, 0 ≤ x) → 0 ≤ l.sum := fun l => by
        induction l with
        | nil => simp
        | cons a l ih => intro h; have := ih fun x hx => h x (by simp [hx]); have := h a (by simp); simp only [List.sum_cons]; omega
      exact this r fun x hx => h x (by simp [hx])
    simp only [List.sum_cons]
    rcases List.mem_cons.mp hx with rfl | hx
    · omega
    · have := sum_pos_mem (r := r) (fun x hx => h x (by simp [hx])) ⟨x, hx, h1⟩
      omega
section
variable {row : List Int} (hr : row ≠ [])
include hr
theorem chain_step {n : Nat} (n1 : 1 ≤ n) (n2 : n ≤ 1000) (R : List (List Int)) (hR : R.length ≤ 1000) (x2 x5 x6 x7 : Option D) {k : Int} {J : Hc} (hk : 0 ≤ k) : ∃ r y6 k' J', (r.length = n ∧ 0 < r.sum ∧ ∀ x ∈ r, 0 ≤ x ∧ x ≤ 9) ∧ 0 ≤ k' ∧
    m_law_chain_l1 [some (.lst (row.map D.int)), some (.ref 0), x2, some (.int (n : Int)), some (.ref 1), x5, x6, x7] (.lst [.int k] :: .lst (R.map (sq false)) :: J) = .nx [some (.lst (row.map D.int)), some (.ref 0), x2, some (.int (n : Int)), some (.ref 1), x5, y6, x7] (.lst [.int k'] :: .lst ((R ++ [r]).map (sq false)) :: J') := by
  obtain ⟨outs, h2, e2, l2, p2, k2, hk2, i2⟩ := lcR_st (chk := fun _ => true) (p := .n 7) (own := [7]) (m := m_law_chain_c1) (ds := [some (.lst (row.map D.int)), some (.ref 0), x2, some (.int (n : Int)), some (.ref 1), x5, x6, x7]) (fun h => ∃ k, 0 ≤ k ∧ h = .lst [.int k] :: .lst (R.map (sq false)) :: J) (fun y => ∃ v, y = .int v ∧ 0 ≤ v ∧ v ≤ 9) (fun _ _ => rfl)
    (upFrom 0 n) [] (.lst [.int k] :: .lst (R.map (sq false)) :: J) (by rw [upFrom_len]; simp; omega) ⟨k, hk, rfl⟩ (fun d _ h ⟨k, hk, eh⟩ => by
      subst eh
      obtain ⟨v, k', hv, hk', e⟩ := pick_ex hr (h := .lst [.int k] :: .lst (R.map (sq false)) :: J) (i := 0) (k := k) (xs := [.int 0, .int 0, .int 0, .int 1, .int 1, .int 2, .int 9]) (by simp) (by simp) rfl hk
      simp only [List.set_cons_zero] at e
      refine ⟨_, v, .lst [.int k'] :: .lst (R.map (sq false)) :: J, bindP_n .., by simp [m_law_chain_c1, e], ⟨k', hk', rfl⟩, ?_⟩
      simp at hv
      rcases hv with rfl | rfl | rfl | rfl <;> exact ⟨_, rfl, by decide, by decide⟩)
  subst i2
  obtain ⟨vs, rfl, hv⟩ := ints_of p2
  rw [upFrom_len] at l2
  simp at l2
  have g1 : rgOk (n : Int) = true := rgOk_nat (by omega)
  simp only [List.nil_append] at e2
  have hn0 : ∀ x ∈ vs, 0 ≤ x := fun x hx => (hv x hx).1
  have es : ∀ (a b : C) (ws : List Int), sumA [.ref (J.length + 2)] (a :: b :: (J ++ [.lst (ws.map D.int)])) = .ok (.int ws.sum) (a :: b :: (J ++ [.lst (ws.map D.int)])) := fun a b ws => by
    simp [sumA]
  have et : ∀ (a b : C) (ws : List Int), tupleF [.ref (J.length + 2)] (a :: b :: (J ++ [.lst (ws.map D.int)])) = .ok (.tup (ws.map D.int)) (a :: b :: (J ++ [.lst (ws.map D.int)])) := fun a b ws => by
    simp [tupleF]
  have ea : ∀ (a : C) (T : Hc) (d : D), appF (.ref 1) [d] (a :: .lst (R.map (sq false)) :: T) = .ok .non (a :: .lst (R.map (sq false) ++ [d]) :: T) := fun a T d => by
    simp [appF]; omega
  have ek : ∀ (a : C) (T : Hc), kindOk (a :: .lst (R.map (sq false)) :: T) "list" (.ref 1) = true := fun a T => by simp [kindOk]
  by_cases hz : vs.sum = 0
  · obtain ⟨t, k3, t0, t1, hk3, e3⟩ := take_ex hr (h := .lst [.int k2] :: .lst (R.map (sq false)) :: (J ++ [.lst (vs.map D.int)])) (i := 0) (k := k2) (l := 4) rfl hk2 (by decide)
    simp only [List.set_cons_zero] at e3
    obtain ⟨j, k4, j0, j1, hk4, e4⟩ := take_ex hr (h := .lst [.int k3] :: .lst (R.map (sq false)) :: (J ++ [.lst (vs.map D.int)])) (i := 0) (k := k3) (l := (n : Int)) rfl hk3 (by omega)
    simp only [List.set_cons_zero] at e4
    have e5 := setF_ok (n := J.length + 2) (xs := vs.map D.int) (h := .lst [.int k4] :: .lst (R.map (sq false)) :: (J ++ [.lst (vs.map D.int)])) (i := j) (x := .int (1 + t)) (by simp) j0 (by simp; omega)
    have e6 : (.lst [.int k4] :: .lst (R.map (sq false)) :: (J ++ [C.lst (vs.map D.int)]) : Hc).set (J.length + 2) (.lst ((vs.map D.int).set j.toNat (.int (1 + t)))) = .lst [.int k4] :: .lst (R.map (sq false)) :: (J ++ [.lst ((vs.set j.toNat (1 + t)).map D.int)]) := by
      rw [List.set_cons_succ, List.set_cons_succ, List.set_append_right _ _ (by omega)]
      simp
    rw [e6] at e5
    have hj : j.toNat < vs.length := by omega
    refine ⟨vs.set j.toNat (1 + t), some (.ref (J.length + 2)), k4, J ++ [.lst ((vs.set j.toNat (1 + t)).map D.int)], ⟨by simpa using l2, ?_, ?_⟩, hk4, ?_⟩
    · refine sum_pos_mem (fun x hx => ?_) ⟨1 + t, List.mem_set hj _, by omega⟩
      rcases List.mem_or_eq_of_mem_set hx with q | q
      · exact hn0 x q
      · omega
    · intro x hx
      rcases List.mem_or_eq_of_mem_set hx with q | q
      · exact hv x q
      · omega
    · have et' := et (.lst [.int k4]) (.lst (R.map (sq false))) (vs.set j.toNat (1 + t))
      have es' := es (.lst [.int k2]) (.lst (R.map (sq false))) vs
      generalize hW : vs.set j.toNat (1 + t) = W at *
      simp [m_law_chain_l1, g1, e2, es', hz, e3, e4, e5, et', ek, ea, sq]
  · have hp : 0 < vs.sum := by
      have := (sum_le9 vs hv).1
      omega
    refine ⟨vs, some (.ref (J.length + 2)), k2, J ++ [.lst (vs.map D.int)], ⟨l2, hp, hv⟩, hk2, ?_⟩
    have et' := et (.lst [.int k2]) (.lst (R.map (sq false))) vs
    have es' := es (.lst [.int k2]) (.lst (R.map (sq false))) vs
    simp [m_law_chain_l1, g1, e2, es', hz, et', ek, ea, sq]
theorem chain_loop {n : Nat} (n1 : 1 ≤ n) (n2 : n ≤ 1000) (x2 x7 : Option D) : ∀ (items : List D) (R : List (List Int)) (x5 x6 : Option D) (k : Int) (J : Hc), R.length + items.length ≤ 1000 → 0 ≤ k → (∀ r ∈ R, r.length = n ∧ 0 < r.sum ∧ ∀ x ∈ r, 0 ≤ x ∧ x ≤ 9) →
    ∃ (R' : List (List Int)) (y5 y6 : Option D) (k' : Int) (J' : Hc), R'.length = R.length + items.length ∧ (∀ r ∈ R', r.length = n ∧ 0 < r.sum ∧ ∀ x ∈ r, 0 ≤ x ∧ x ≤ 9) ∧ 0 ≤ k' ∧ fl (fun _ => true) (.n 5) m_law_chain_l1 items [some (.lst (row.map D.int)), some (.ref 0), x2, some (.int (n : Int)), some (.ref 1), x5, x6, x7] (.lst [.int k] :: .lst (R.map (sq false)) :: J) =
      .nx [some (.lst (row.map D.int)), some (.ref 0), x2, some (.int (n : Int)), some (.ref 1), y5, y6, x7] (.lst [.int k'] :: .lst (R'.map (sq false)) :: J')
  | [], R, x5, x6, k, J, _, hk, hR => ⟨R, x5, x6, k, J, by simp, hR, hk, fl_end rfl⟩
  | d :: items, R, x5, x6, k, J, hl, hk, hR => by
    simp only [List.length_cons] at hl
    obtain ⟨r, y6, k1, J1, hrr, hk1, e⟩ := chain_step hr n1 n2 R (by omega) x2 (some d) x6 x7 (J := J) hk
    obtain ⟨R', z5, z6, k', J', l', q', hk', e'⟩ := chain_loop n1 n2 x2 x7 items (R ++ [r]) (some d) y6 k1 J1 (by simp; omega) hk1 (fun x hx => by
      rcases List.mem_append.mp hx with q | q
      · exact hR x q
      · rw [List.mem_singleton.mp q]; exact hrr)
    refine ⟨R', z5, z6, k', J', by simp at l' ⊢; omega, q', hk', ?_⟩
    rw [fl_n (by simpa using e)]
    simp only [List.map_append, List.map_cons, List.map_nil] at e'
    exact e'
theorem chain_ex {most : Int} (m1 : 1 ≤ most) (m2 : most ≤ 5) {k : Int} {i : Nat} {h : Hc} (hi : h[i]? = some (.lst [.int k])) (hk : 0 ≤ k) : ∃ M k', Chn M ∧ 0 ≤ k' ∧ callL m_law_chain [.lst (row.map D.int), .ref i, .int most] h = .ok (ch false M) (h.set i (.lst [.int k'])) := by
  obtain ⟨n, k1, n0, n5, hk1, e1⟩ := take_ex hr (h := [.lst [.int k]]) (i := 0) (k := k) (l := most) rfl hk (by omega)
  simp only [List.set_cons_zero] at e1
  obtain ⟨N, hN⟩ : ∃ N : Nat, 1 + n = (N : Int) := ⟨(1 + n).toNat, by omega⟩
  obtain ⟨M, y5, y6, k2, J, l2, q2, hk2, e2⟩ := chain_loop hr (n := N) (by omega) (by omega) (some (.int most)) none (upFrom 0 N) [] none none k1 [] (by rw [upFrom_len]; simp; omega) hk1 (by simp)
  rw [upFrom_len] at l2
  simp at l2
  refine ⟨M, k2, ⟨by omega, by omega, fun r hr' => by rw [l2]; exact q2 r hr'⟩, hk2, call_spot (d0 := ch false M) (h' := .lst [.int k2] :: .lst (M.map (sq false)) :: J) (by simp) (by simp) hi ?_ rfl fun j => frzD_flat (flat_ch false M)⟩
  unfold m_law_chain
  rw [runB_s]
  have g1 : rgOk (N : Int) = true := rgOk_nat (by omega)
  simp only [List.map_nil] at e2
  simp [e1, hN, g1, e2, tupleF, ch, sqs]
end
end Mp
namespace Mp
/-! RatA: rational values and how long their numbers are. -/
def qs (k : Nat) (q : Rat) : Prop := q.num.natAbs < 2 ^ k ∧ q.den < 2 ^ k
theorem qs_le {a b : Nat} {q : Rat} (h : a ≤ b) (x : qs a q) : qs b q :=
  ⟨Nat.lt_of_lt_of_le x.1 (Nat.pow_le_pow_right (by decide) h), Nat.lt_of_lt_of_le x.2 (Nat.pow_le_pow_right (by decide) h)⟩
theorem q_of_div (a : Int) {b : Int} (hb : 0 < b) : ((a : Rat) / (b : Rat)).num = a / (Int.gcd a b : Int) ∧ ((a : Rat) / (b : Rat)).den = b.natAbs / Int.gcd a b := by
  rw [← Rat.divInt_eq_div, Rat.num_divInt, Rat.den_divInt, Int.sign_eq_one_of_pos hb, Int.one_mul, if_neg (by omega), Int.gcd_comm b a]
  exact ⟨rfl, rfl⟩
theorem qs_div {k : Nat} {a b : Int} (hb : b ≠ 0) (sa : a.natAbs < 2 ^ k) (sb : b.natAbs < 2 ^ k) : qs k ((a : Rat) / (b : Rat)) := by
  have go : ∀ {a b : Int}, 0 < b → a.natAbs < 2 ^ k → b.natAbs < 2 ^ k → qs k ((a : Rat) / (b : Rat)) := fun {a b} hb sa sb => by
    obtain ⟨e1, e2⟩ := q_of_div a hb
    refine ⟨?_, ?_⟩
    · rw [e1]; exact Nat.lt_of_le_of_lt (Int.natAbs_ediv_le_natAbs _ _) sa
    · rw [e2]; exact Nat.lt_of_le_of_lt (Nat.div_le_self _ _) sb
  by_cases h : 0 < b
  · exact go h sa sb
  · have e : (a : Rat) / (b : Rat) = ((-a : Int) : Rat) / ((-b : Int) : Rat) := by
      have : (b : Rat) ≠ 0 := by simpa using hb
      rw [Rat.intCast_neg, Rat.intCast_neg]
      grind
    rw [e]
    exact go (by omega) (by omega) (by omega)
theorem q_self (q : Rat) : q = (q.num : Rat) / ((q.den : Int) : Rat) := by
  conv => lhs; rw [← Rat.num_divInt_den q]
  rw [Rat.divInt_eq_div]
theorem den_ne (q : Rat) : ((q.den : Int) : Rat) ≠ 0 := by
  have := q.den_nz
  simpa using this
theorem add_val (p q : Rat) : ((p.num * q.den + q.num * p.den : Int) : Rat) / ((p.den * q.den : Int) : Rat) = p + q := by
  have h1 := den_ne p
  have h2 := den_ne q
  conv => rhs; rw [q_self p, q_self q]
  simp only [Rat.intCast_add, Rat.intCast_mul]
  grind
theorem sub_val (p q : Rat) : ((p.num * q.den - q.num * p.den : Int) : Rat) / ((p.den * q.den : Int) : Rat) = p - q := by
  have h1 := den_ne p
  have h2 := den_ne q
  conv => rhs; rw [q_self p, q_self q]
  simp only [Rat.intCast_sub, Rat.intCast_mul]
  grind
theorem mul_val (p q : Rat) : ((p.num * q.num : Int) : Rat) / ((p.den * q.den : Int) : Rat) = p * q := by
  have h1 := den_ne p
  have h2 := den_ne q
  conv => rhs; rw [q_self p, q_self q]
  simp only [Rat.intCast_mul]
  grind
theorem num_ne {q : Rat} (hq : q ≠ 0) : q.num ≠ 0 := fun z => hq (Rat.num_eq_zero.mp z)
theorem div_val (p q : Rat) (hq : q ≠ 0) : ((p.num * q.den : Int) : Rat) / ((p.den * q.num : Int) : Rat) = p / q := by
  have hn : (q.num : Rat) ≠ 0 := by have := num_ne hq; simpa using this
  have h1 := den_ne p
  have h2 := den_ne q
  conv => rhs; rw [q_self p, q_self q]
  simp only [Rat.intCast_mul]
  grind
theorem dden_ne (p q : Rat) : (p.den * q.den : Int) ≠ 0 := by
  have := Nat.mul_pos p.den_pos q.den_pos
  have : ((p.den * q.den : Nat) : Int) ≠ 0 := by omega
  simpa using this
theorem qs_add {a b : Nat} {p q : Rat} (x : qs a p) (y : qs b q) : qs (a + b + 1) (p + q) := by
  have e : p + q = ((p.num * q.den + q.num * p.den : Int) : Rat) / ((p.den * q.den : Int) : Rat) := by
    have h1 := den_ne p
    have h2 := den_ne q
    conv => lhs; rw [q_self p, q_self q]
    simp only [Rat.intCast_add, Rat.intCast_mul]
    grind
  rw [e]
  have pp := Nat.two_pow_pos
  have m1 : p.num.natAbs * q.den ≤ 2 ^ a * 2 ^ b := Nat.mul_le_mul (Nat.le_of_lt x.1) (Nat.le_of_lt y.2)
  have m2 : q.num.natAbs * p.den < 2 ^ b * 2 ^ a := Nat.mul_lt_mul'' y.1 x.2
  have m3 : p.den * q.den < 2 ^ a * 2 ^ b := Nat.mul_lt_mul'' x.2 y.2
  have e3 : 2 ^ (a + b + 1) = 2 ^ a * 2 ^ b + 2 ^ b * 2 ^ a := by rw [Nat.pow_succ, Nat.pow_add, Nat.mul_comm (2 ^ b)]; omega
  refine qs_div ?_ ?_ ?_
  · have := Nat.mul_pos p.den_pos q.den_pos
    have : ((p.den * q.den : Nat) : Int) ≠ 0 := by omega
    simpa using this
  · rw [e3]
    refine Nat.lt_of_le_of_lt (Int.natAbs_add_le _ _) ?_
    rw [Int.natAbs_mul, Int.natAbs_mul]
    simp only [Int.natAbs_natCast]; omega
  · rw [e3, Int.natAbs_mul]
    simp only [Int.natAbs_natCast]; omega
theorem qs_neg {a : Nat} {p : Rat} (x : qs a p) : qs a (-p) := by
  refine ⟨?_, ?_⟩
  · have := x.1; rw [Rat.neg_num]; omega
  · rw [Rat.neg_den]; exact x.2
theorem qs_sub {a b : Nat} {p q : Rat} (x : qs a p) (y : qs b q) : qs (a + b + 1) (p - q) := by
  rw [Rat.sub_eq_add_neg]; exact qs_add x (qs_neg y)
theorem qs_mul {a b : Nat} {p q : Rat} (x : qs a p) (y : qs b q) : qs (a + b) (p * q) := by
  have e : p * q = ((p.num * q.num : Int) : Rat) / ((p.den * q.den : Int) : Rat) := by
    have h1 := den_ne p
    have h2 := den_ne q
    conv => lhs; rw [q_self p, q_self q]
    simp only [Rat.intCast_mul]
    grind
  rw [e]
  refine qs_div ?_ ?_ ?_
  · have := Nat.mul_pos p.den_pos q.den_pos
    have : ((p.den * q.den : Nat) : Int) ≠ 0 := by omega
    simpa using this
  · rw [Nat.pow_add, Int.natAbs_mul]; exact Nat.mul_lt_mul'' x.1 y.1
  · rw [Nat.pow_add, Int.natAbs_mul]
    simp only [Int.natAbs_natCast]; exact Nat.mul_lt_mul'' x.2 y.2
theorem qs_quo {a b : Nat} {p q : Rat} (x : qs a p) (y : qs b q) (hq : q ≠ 0) : qs (a + b) (p / q) := by
  have hn : (q.num : Rat) ≠ 0 := by
    intro z
    have : q.num = 0 := by simpa using z
    exact hq (Rat.num_eq_zero.mp this)
  have hn' : q.num ≠ 0 := by simpa using hn
  have e : p / q = ((p.num * q.den : Int) : Rat) / ((p.den * q.num : Int) : Rat) := by
    have h1 := den_ne p
    have h2 := den_ne q
    conv => lhs; rw [q_self p, q_self q]
    simp only [Rat.intCast_mul]
    grind
  rw [e]
  refine qs_div ?_ ?_ ?_
  · have := p.den_pos
    have : (p.den : Int) ≠ 0 := by omega
    exact Int.mul_ne_zero this hn'
  · rw [Nat.pow_add, Int.natAbs_mul]; exact Nat.mul_lt_mul'' x.1 y.2
  · rw [Nat.pow_add, Int.natAbs_mul]; exact Nat.mul_lt_mul'' x.2 y.1
theorem qs_int {k : Nat} {i : Int} (h : i.natAbs < 2 ^ k) (hk : 1 ≤ k) : qs k (i : Rat) := by
  refine ⟨by simpa using h, ?_⟩
  have : (2 : Nat) ^ 1 ≤ 2 ^ k := Nat.pow_le_pow_right (by decide) hk
  simp; omega
end Mp
/-! RatSpec: fractions as rational values. -/
namespace Mp
open PySem PySem.Spec PyProof.Rows L2
def qD (q : Rat) : D := .tup [.int q.num, .int (q.den : Int)]
def qE (e : Bool) (q : Rat) : D := pq e q.num q.den
@[simp] theorem qE_ff (q : Rat) : qE false q = qD q := rfl
@[simp] theorem flat_qD (q : Rat) : flat (qD q) = true := by simp [qD]
theorem rdc_q (a : Int) {b : Int} (hb : b ≠ 0) : rdc a b = qD ((a : Rat) / (b : Rat)) := by
  have g0 : Int.gcd a b ≠ 0 := by
    intro z
    exact hb (Int.gcd_eq_zero_iff.mp z).2
  unfold rdc qD
  by_cases h : 0 < b
  · obtain ⟨e1, e2⟩ := q_of_div a h
    rw [e1, e2]
    have e : sg a b = (Int.gcd a b : Int) := by unfold sg; rw [if_neg (by omega)]
    rw [e, Int.fdiv_eq_ediv_of_nonneg _ (by omega), Int.fdiv_eq_ediv_of_nonneg _ (by omega)]
    congr 3
    rw [Int.natCast_ediv]
    congr 2
    omega
  · have e : (a : Rat) / (b : Rat) = ((-a : Int) : Rat) / ((-b : Int) : Rat) := by
      have : (b : Rat) ≠ 0 := by simpa using hb
      rw [Rat.intCast_neg, Rat.intCast_neg]
      grind
    obtain ⟨e1, e2⟩ := q_of_div (-a) (show 0 < -b by omega)
    rw [e, e1, e2]
    have e : sg a b = -(Int.gcd a b : Int) := by unfold sg; rw [if_pos (by omega)]
    have ea : (-(Int.gcd a b : Int)) ∣ a := Int.neg_dvd.mpr (Int.gcd_dvd_left ..)
    have eb : (-(Int.gcd a b : Int)) ∣ b := Int.neg_dvd.mpr (Int.gcd_dvd_right ..)
    rw [e, Int.fdiv_eq_ediv_of_dvd ea, Int.fdiv_eq_ediv_of_dvd eb]
    have g : Int.gcd (-a) (-b) = Int.gcd a b := by simp
    rw [g]
    congr 3
    · rw [Int.ediv_neg, Int.neg_ediv_of_dvd (Int.gcd_dvd_left ..)]
    · rw [Int.natCast_ediv, Int.ediv_neg]
      have : ((-b).natAbs : Int) = -b := by omega
      rw [this, Int.neg_ediv_of_dvd (Int.gcd_dvd_right ..)]
section
variable {p q : Rat}
theorem qsm (x : qs 4000 p) : sm 4000 p.num ∧ sm 4000 (p.den : Int) := ⟨x.1, by unfold sm; simpa using x.2⟩
theorem qpos (p : Rat) : (1 : Int) ≤ p.den := by have := p.den_pos; omega
variable (x : qs 4000 p) (y : qs 4000 q)
include x y
theorem law_add_q (h : Hc) : callL m_law_add [qD p, qD q] h = .ok (qD (p + q)) h := by
  have pd := qpos p
  have qd := qpos q
  have := law_add_ok (qsm x).1 (qsm x).2 (qsm y).1 (qsm y).2 (by omega) (by omega) h
  rw [rdc_q _ (dden_ne p q), add_val] at this
  exact this
end
theorem q_ix0 (e : Bool) (q : Rat) (h : Hc) : ixF (qE e q) (.int 0) h = .ok (.int q.num) h := by cases e <;> simp [qE, pq]
theorem qD_ix0 (q : Rat) (h : Hc) : ixF (qD q) (.int 0) h = .ok (.int q.num) h := q_ix0 false q h
end Mp
namespace Mp
open PySem PySem.Spec PyProof.Rows L2
/-! ### mirrors: Str -/
def m_law_letters_l1 : SS :=
  (sSet 3 (eOp addF (eVar 3) (eOp ixF (eC (.str "abcdefghijklmnopqrstuvwxyz")) (eCall m_law_take (aCons (eVar 0) (aCons (eVar 1) (aCons (eC (.int 26)) aNil)))))))
/-- _law_letters: row 0, spot 1, many 2, made 3, k 4 -/
def m_law_letters : Fn := runB 5
  (sSeq (sSet 3 (eC (.str "")))
  (sSeq (sFor (iRg1 (aCons (eVar 2) aNil)) (.n 4)
    m_law_letters_l1)
  (sRet (eVar 3))))
/-- _law_reserved:  -/
def m_law_reserved : Fn := runB 0
  (sRet (eLst (aCons (eC (.str "and")) (aCons (eC (.str "or")) (aCons (eC (.str "of")) (aCons (eC (.str "always")) (aCons (eC (.str "never")) aNil)))))))
def m_law_name_l1 : SS :=
  (sSeq (sIf (bAnd (bEx (eOp (inG true) (eVar 3) (eVar 2))) (bEx (eOp (inG true) (eVar 3) (eCall m_law_reserved aNil))))
      (fun ds h => .bk ds h)
      sNext)
    (sSeq (sSet 3 (eOp addF (eSl slF (eVar 3) none (some (eC (.int 7)))) (eOp ixF (eC (.str "abcdefghijklmnopqrstuvwxyz")) (eOp modF (eCB intF (aCons (eOp addF (eOp mulF (eVar 4) (eC (.int 7))) (eCB lenF (aCons (eVar 2) aNil))) aNil)) (eC (.int 26))))))
    (sIf (bEx (eOp gtF (eVar 4) (eC (.int 20))))
      (sSet 3 (eOp addF (eSl slF (eVar 3) (some (eC (.int 1))) none) (eC (.str "z"))))
      sNext)))
/-- _law_name: row 0, spot 1, used 2, made 3, k 4 -/
def m_law_name : Fn := runB 5
  (sSeq (sSet 3 (eCall m_law_letters (aCons (eVar 0) (aCons (eVar 1) (aCons (eOp addF (eC (.int 1)) (eCall m_law_take (aCons (eVar 0) (aCons (eVar 1) (aCons (eIf (bEx (eOp gtF (eCall m_law_take (aCons (eVar 0) (aCons (eVar 1) (aCons (eC (.int 4)) aNil)))) (eC (.int 0)))) (eC (.int 2)) (eC (.int 8))) aNil))))) aNil)))))
  (sSeq (sFor (iRg1 (aCons (eC (.int 40)) aNil)) (.n 4)
    m_law_name_l1)
  (sSeq (sDrop (eBM "list" appF (eVar 2) (aCons (eVar 3) aNil)))
  (sRet (eVar 3)))))
def m_law_names_l1 : SS :=
  (sDrop (eCall m_law_name (aCons (eVar 0) (aCons (eVar 1) (aCons (eVar 3) aNil)))))
/-- _law_names: row 0, spot 1, many 2, used 3, k 4 -/
def m_law_names : Fn := runB 5
  (sSeq (sSet 3 (eCell aNil))
  (sSeq (sFor (iRg1 (aCons (eVar 2) aNil)) (.n 4)
    m_law_names_l1)
  (sRet (eCB sortF (aCons (eVar 3) aNil)))))
def m_law_tree_l1 (self : Fn) : SS :=
  (sDrop (eBM "list" appF (eVar 7) (aCons (eCall self (aCons (eVar 0) (aCons (eVar 1) (aCons (eVar 2) (aCons (eOp subF (eVar 3) (eC (.int 1))) (aCons (eIf (bEx (eOp gtF (eVar 3) (eC (.int 2)))) (eVar 4) (eC (.int 3))) aNil)))))) aNil)))
/-- _law_tree: row 0, spot 1, names 2, depth 3, most 4, kind 5, many 6, es 7, k 8 -/
def m_law_tree : Nat → Fn
  | 0 => fun _ _ => .bad
  | n + 1 => runB 9 (sSeq (sSet 5 (eCall m_law_take (aCons (eVar 0) (aCons (eVar 1) (aCons (eC (.int 10)) aNil)))))
  (sSeq (sIf (bOr (bEx (eOp leF (eVar 3) (eC (.int 1)))) (bEx (eOp leF (eVar 5) (eC (.int 2)))))
    (sSeq (sIf (bAnd (bEx (eOp eqF (eVar 5) (eC (.int 0)))) (bEx (eOp eqF (eCall m_law_take (aCons (eVar 0) (aCons (eVar 1) (aCons (eC (.int 3)) aNil)))) (eC (.int 0)))))
      (sRet (eIf (bEx (eOp eqF (eCall m_law_take (aCons (eVar 0) (aCons (eVar 1) (aCons (eC (.int 2)) aNil)))) (eC (.int 0)))) (eTup (aCons (eC (.str "all")) (aCons (eTup aNil) aNil))) (eTup (aCons (eC (.str "any")) (aCons (eTup aNil) aNil)))))
      sNext)
    (sRet (eTup (aCons (eC (.str "part")) (aCons (eCall m_law_pick (aCons (eVar 0) (aCons (eVar 1) (aCons (eVar 2) aNil)))) aNil)))))
    sNext)
  (sSeq (sSet 6 (eOp addF (eC (.int 2)) (eCall m_law_take (aCons (eVar 0) (aCons (eVar 1) (aCons (eOp subF (eVar 4) (eC (.int 1))) aNil))))))
  (sSeq (sIf (bEx (eOp geF (eVar 5) (eC (.int 7))))
    (sSet 6 (eOp addF (eC (.int 1)) (eCall m_law_take (aCons (eVar 0) (aCons (eVar 1) (aCons (eVar 4) aNil))))))
    sNext)
  (sSeq (sSet 7 (eCell aNil))
  (sSeq (sFor (iRg1 (aCons (eVar 6) aNil)) (.n 8)
    (m_law_tree_l1 (m_law_tree n)))
  (sSeq (sIf (bEx (eOp leF (eVar 5) (eC (.int 4))))
    (sRet (eTup (aCons (eC (.str "all")) (aCons (eCB tupleF (aCons (eVar 7) aNil)) aNil))))
    sNext)
  (sSeq (sIf (bEx (eOp leF (eVar 5) (eC (.int 6))))
    (sRet (eTup (aCons (eC (.str "any")) (aCons (eCB tupleF (aCons (eVar 7) aNil)) aNil))))
    sNext)
  (sRet (eTup (aCons (eC (.str "some")) (aCons (eOp addF (eC (.int 1)) (eCall m_law_take (aCons (eVar 0) (aCons (eVar 1) (aCons (eVar 6) aNil))))) (aCons (eCB tupleF (aCons (eVar 7) aNil)) aNil)))))))))))))
def m_law_flat_c1 : SE :=
  (eTup (aCons (eC (.str "part")) (aCons (eVar 6) aNil)))
def m_law_flat_l1 : SS :=
  (sIf (bEx (eOp eqF (eCall m_law_take (aCons (eVar 0) (aCons (eVar 1) (aCons (eC (.int 2)) aNil)))) (eC (.int 0))))
      (sDrop (eBM "list" appF (eVar 3) (aCons (eTup (aCons (eC (.str "part")) (aCons (eCall m_law_pick (aCons (eVar 0) (aCons (eVar 1) (aCons (eVar 2) aNil)))) aNil))) aNil)))
      sNext)
/-- _law_flat: row 0, spot 1, names 2, es 3, k 4, kind 5, name 6 -/
def m_law_flat : Fn := runB 7
  (sSeq (sSet 3 (eLcC (iSeq (eSl slF (eVar 2) none (some (eC (.int 8))))) (.n 6) [6] (fun _ h => .ok true h) m_law_flat_c1))
  (sSeq (sFor (iRg1 (aCons (eOp subF (eC (.int 8)) (eCB lenF (aCons (eVar 3) aNil))) aNil)) (.n 4)
    m_law_flat_l1)
  (sSeq (sIf (bEx (eOp ltF (eCB lenF (aCons (eVar 3) aNil)) (eC (.int 2))))
    (sRet (eTup (aCons (eC (.str "some")) (aCons (eC (.int 1)) (aCons (eCB tupleF (aCons (eVar 3) aNil)) aNil)))))
    sNext)
  (sSeq (sSet 5 (eCall m_law_take (aCons (eVar 0) (aCons (eVar 1) (aCons (eC (.int 4)) aNil)))))
  (sSeq (sIf (bEx (eOp eqF (eVar 5) (eC (.int 0))))
    (sRet (eTup (aCons (eC (.str "all")) (aCons (eCB tupleF (aCons (eVar 3) aNil)) aNil))))
    sNext)
  (sSeq (sIf (bEx (eOp eqF (eVar 5) (eC (.int 1))))
    (sRet (eTup (aCons (eC (.str "any")) (aCons (eCB tupleF (aCons (eVar 3) aNil)) aNil))))
    sNext)
  (sRet (eTup (aCons (eC (.str "some")) (aCons (eOp addF (eC (.int 1)) (eCall m_law_take (aCons (eVar 0) (aCons (eVar 1) (aCons (eCB lenF (aCons (eVar 3) aNil)) aNil))))) (aCons (eCB tupleF (aCons (eVar 3) aNil)) aNil)))))))))))
/-- _law_structure: row 0, spot 1, names 2, kind 3 -/
def m_law_structure : Fn := runB 4
  (sSeq (sSet 3 (eCall m_law_take (aCons (eVar 0) (aCons (eVar 1) (aCons (eC (.int 6)) aNil)))))
  (sSeq (sIf (bEx (eOp eqF (eVar 3) (eC (.int 0))))
    (sRet (eCall m_law_flat (aCons (eVar 0) (aCons (eVar 1) (aCons (eVar 2) aNil)))))
    sNext)
  (sSeq (sIf (bEx (eOp eqF (eVar 3) (eC (.int 1))))
    (sRet (eCall (m_law_tree 24) (aCons (eVar 0) (aCons (eVar 1) (aCons (eVar 2) (aCons (eC (.int 2)) (aCons (eC (.int 6)) aNil)))))))
    sNext)
  (sRet (eCall (m_law_tree 24) (aCons (eVar 0) (aCons (eVar 1) (aCons (eVar 2) (aCons (eOp addF (eC (.int 2)) (eCall m_law_take (aCons (eVar 0) (aCons (eVar 1) (aCons (eC (.int 3)) aNil))))) (aCons (eC (.int 3)) aNil))))))))))
def m_law_works_c1 (self : Fn) : SE :=
  (eVar 3)
def m_law_works_t1 (self : Fn) : SB :=
  (bTru (eCall self (aCons (eVar 3) (aCons (eVar 1) aNil))))
/-- _law_works: e 0, up 1, many 2, one 3 -/
def m_law_works : Nat → Fn
  | 0 => fun _ _ => .bad
  | n + 1 => runB 4 (sSeq (sIf (bEx (eOp eqF (eOp ixF (eVar 0) (eC (.int 0))) (eC (.str "part"))))
    (sRet (eOp (inG false) (eOp ixF (eVar 0) (eC (.int 1))) (eVar 1)))
    sNext)
  (sSeq (sSet 2 (eCB lenF (aCons (eLc (iSeq (eOp ixF (eVar 0) (eOp subF (eCB lenF (aCons (eVar 0) aNil)) (eC (.int 1))))) (.n 3) [3] (m_law_works_t1 (m_law_works n)) (m_law_works_c1 (m_law_works n))) aNil)))
  (sSeq (sIf (bEx (eOp eqF (eOp ixF (eVar 0) (eC (.int 0))) (eC (.str "all"))))
    (sRet (eOp eqF (eVar 2) (eCB lenF (aCons (eOp ixF (eVar 0) (eC (.int 1))) aNil))))
    sNext)
  (sSeq (sIf (bEx (eOp eqF (eOp ixF (eVar 0) (eC (.int 0))) (eC (.str "any"))))
    (sRet (eOp gtF (eVar 2) (eC (.int 0))))
    sNext)
  (sRet (eOp geF (eVar 2) (eOp ixF (eVar 0) (eC (.int 1)))))))))
def m_is_name_c1 : SE :=
  (eOp (inG false) (eVar 1) (eC (.str "abcdefghijklmnopqrstuvwxyz")))
/-- is_name: x 0, sign 1 -/
def m_is_name : Fn := runB 2
  (sSeq (sIf (bOr (bNot (bTru (eCB isF (aCons (eVar 0) (aCons (eC (.ty "str")) aNil))))) (bOr (bEx (eOp eqF (eCB lenF (aCons (eVar 0) aNil)) (eC (.int 0)))) (bOr (bEx (eOp gtF (eCB lenF (aCons (eVar 0) aNil)) (eC (.int 8)))) (bEx (eOp (inG false) (eVar 0) (eC (.tup [(.str "and"), (.str "or"), (.str "of"), (.str "always"), (.str "never")])))))))
    (sRet (eC (.bl false)))
    sNext)
  (sRet (eCB allF (aCons (eLc (iSgn (eVar 0)) (.n 1) [1] (fun _ h => .ok true h) m_is_name_c1) aNil))))
/-- _is_outline: e 0 -/
def m_is_outline : Fn := runB 1
  (sSeq (sIf (bOr (bNot (bTru (eCall m_is_sequence (aCons (eVar 0) aNil)))) (bOr (bEx (eOp ltF (eCB lenF (aCons (eVar 0) aNil)) (eC (.int 2)))) (bOr (bEx (eOp gtF (eCB lenF (aCons (eVar 0) aNil)) (eC (.int 3)))) (bNot (bTru (eCB isF (aCons (eOp ixF (eVar 0) (eC (.int 0))) (aCons (eC (.ty "str")) aNil))))))))
    (sRet (eC (.bl false)))
    sNext)
  (sSeq (sIf (bEx (eOp eqF (eCB lenF (aCons (eVar 0) aNil)) (eC (.int 3))))
    (sRet (eAnd (eOp eqF (eOp ixF (eVar 0) (eC (.int 0))) (eC (.str "some"))) (eAnd (eCall m_is_row (aCons (eOp ixF (eVar 0) (eC (.int 2))) (aCons (eC (.int 1)) (aCons (eC (.int 8)) aNil)))) (eCall m_is_within (aCons (eOp ixF (eVar 0) (eC (.int 1))) (aCons (eC (.int 1)) (aCons (eCB lenF (aCons (eOp ixF (eVar 0) (eC (.int 2))) aNil)) aNil)))))))
    sNext)
  (sSeq (sIf (bEx (eOp eqF (eOp ixF (eVar 0) (eC (.int 0))) (eC (.str "part"))))
    (sRet (eCall m_is_name (aCons (eOp ixF (eVar 0) (eC (.int 1))) aNil)))
    sNext)
  (sSeq (sIf (bAnd (bEx (eOp neF (eOp ixF (eVar 0) (eC (.int 0))) (eC (.str "all")))) (bEx (eOp neF (eOp ixF (eVar 0) (eC (.int 0))) (eC (.str "any")))))
    (sRet (eC (.bl false)))
    sNext)
  (sRet (eAnd (eCall m_is_row (aCons (eOp ixF (eVar 0) (eC (.int 1))) (aCons (eC (.int 0)) (aCons (eC (.int 8)) aNil)))) (eOp neF (eCB lenF (aCons (eOp ixF (eVar 0) (eC (.int 1))) aNil)) (eC (.int 1)))))))))
def m_is_structure_l1 : SS :=
  (sDrop (eBM "list" appF (eVar 3) (aCons (eTup (aCons (eVar 6) (aCons (eOp addF (eVar 5) (eC (.int 1))) aNil))) aNil)))
def m_is_structure_l2 : SS :=
  (sSeq (sAsg (.t ((.n 4) :: ((.n 5) :: []))) (eBM0 "list" popF (eVar 3)))
    (sSeq (sAug 2 addI (eC (.int 1)))
    (sSeq (sIf (bOr (bEx (eOp gtF (eVar 2) (eC (.int 60)))) (bOr (bEx (eOp gtF (eVar 5) (eC (.int 10)))) (bNot (bTru (eCall m_is_outline (aCons (eVar 4) aNil))))))
      (sRet (eC (.bl false)))
      sNext)
    (sIf (bEx (eOp eqF (eOp ixF (eVar 4) (eC (.int 0))) (eC (.str "part"))))
      (sSeq (sPut putF (eC (.bl true)) (eVar 1) (eOp ixF (eVar 4) (eC (.int 1))))
      (sIf (bEx (eOp gtF (eCB lenF (aCons (eVar 1) aNil)) (eC (.int 10))))
        (sRet (eC (.bl false)))
        sNext))
      (sFor (iSeq (eOp ixF (eVar 4) (eUn negF (eC (.int 1))))) (.n 6)
        m_is_structure_l1)))))
/-- is_structure: e 0, names 1, count 2, waiting 3, one 4, level 5, member 6 -/
def m_is_structure : Fn := runB 7
  (sSeq (sSet 1 eDct0)
  (sSeq (sSet 2 (eC (.int 0)))
  (sSeq (sSet 3 (eCell (aCons (eTup (aCons (eVar 0) (aCons (eC (.int 1)) aNil))) aNil)))
  (sSeq (wl (bTru (eVar 3))
    m_is_structure_l2 100000)
  (sRet (eC (.bl true)))))))
/-- _look: e 0 -/
def m_look_2 : Fn := runB 1
  (sIf (bNot (bTru (eCall m_is_structure (aCons (eVar 0) aNil))))
    (sRaise "BadValue" ["at"] (aCons (eC (.int 0)) aNil))
    sNext)
def m_names_in_l1 : SS :=
  (sDrop (eBM "list" appF (eVar 2) (aCons (eVar 4) aNil)))
def m_names_in_l2 : SS :=
  (sSeq (sSet 3 (eBM0 "list" popF (eVar 2)))
    (sIf (bEx (eOp eqF (eOp ixF (eVar 3) (eC (.int 0))) (eC (.str "part"))))
      (sPut putF (eC (.bl true)) (eVar 1) (eOp ixF (eVar 3) (eC (.int 1))))
      (sFor (iSeq (eOp ixF (eVar 3) (eUn negF (eC (.int 1))))) (.n 4)
        m_names_in_l1)))
/-- names_in: e 0, names 1, waiting 2, one 3, member 4 -/
def m_names_in : Fn := runB 5
  (sSeq (sSet 1 eDct0)
  (sSeq (sSet 2 (eCell (aCons (eVar 0) aNil)))
  (sSeq (wl (bTru (eVar 2))
    m_names_in_l2 100000)
  (sRet (eCB tupleF (aCons (eCB sortF (aCons (eVar 1) aNil)) aNil))))))
/-- parts: e 0 -/
def m_parts : Fn := runB 1
  (sSeq (sDrop (eCall m_look_2 (aCons (eVar 0) aNil)))
  (sRet (eCall m_names_in (aCons (eVar 0) aNil))))
def m_holds_c1 (self : Fn) : SE :=
  (eC (.int 1))
def m_holds_t1 (self : Fn) : SB :=
  (bTru (eCall self (aCons (eVar 3) (aCons (eVar 1) aNil))))
/-- holds: e 0, up 1, working 2, member 3 -/
def m_holds : Nat → Fn
  | 0 => fun _ _ => .bad
  | n + 1 => runB 4 (sSeq (sIf (bEx (eOp eqF (eOp ixF (eVar 0) (eC (.int 0))) (eC (.str "part"))))
    (sRet (eOp (inG false) (eOp ixF (eVar 0) (eC (.int 1))) (eVar 1)))
    sNext)
  (sSeq (sSet 2 (eCB sumA (aCons (eLc (iSeq (eOp ixF (eVar 0) (eUn negF (eC (.int 1))))) (.n 3) [3] (m_holds_t1 (m_holds n)) (m_holds_c1 (m_holds n))) aNil)))
  (sSeq (sIf (bEx (eOp eqF (eOp ixF (eVar 0) (eC (.int 0))) (eC (.str "all"))))
    (sRet (eOp eqF (eVar 2) (eCB lenF (aCons (eOp ixF (eVar 0) (eUn negF (eC (.int 1)))) aNil))))
    sNext)
  (sSeq (sIf (bEx (eOp eqF (eOp ixF (eVar 0) (eC (.int 0))) (eC (.str "any"))))
    (sRet (eOp gtF (eVar 2) (eC (.int 0))))
    sNext)
  (sRet (eOp geF (eVar 2) (eOp ixF (eVar 0) (eC (.int 1)))))))))
def m_works_c1 : SE :=
  (eCall m_is_name (aCons (eVar 2) aNil))
/-- works: e 0, up 1, name 2 -/
def m_works : Fn := runB 3
  (sSeq (sDrop (eCall m_look_2 (aCons (eVar 0) aNil)))
  (sSeq (sIf (bOr (bNot (bTru (eCall m_is_row (aCons (eVar 1) (aCons (eC (.int 0)) (aCons (eC (.int 30)) aNil)))))) (bNot (bTru (eCB allF (aCons (eLc (iSeq (eVar 1)) (.n 2) [2] (fun _ h => .ok true h) m_works_c1) aNil)))))
    (sRaise "BadValue" ["at"] (aCons (eC (.int 1)) aNil))
    sNext)
  (sRet (eCall (m_holds 24) (aCons (eVar 0) (aCons (eVar 1) aNil))))))
def m_law_parts_l1 (self : Fn) : SS :=
  (sIf (bEx (eOp (inG true) (eVar 3) (eVar 1)))
        (sDrop (eBM "list" appF (eVar 1) (aCons (eVar 3) aNil)))
        sNext)
def m_law_parts_l2 (self : Fn) : SS :=
  (sFor (iSeq (eCall self (aCons (eVar 2) aNil))) (.n 3)
      (m_law_parts_l1 self))
/-- _law_parts: e 0, made 1, one 2, name 3 -/
def m_law_parts : Nat → Fn
  | 0 => fun _ _ => .bad
  | n + 1 => runB 4 (sSeq (sIf (bEx (eOp eqF (eOp ixF (eVar 0) (eC (.int 0))) (eC (.str "part"))))
    (sRet (eLst (aCons (eOp ixF (eVar 0) (eC (.int 1))) aNil)))
    sNext)
  (sSeq (sSet 1 (eCell aNil))
  (sSeq (sFor (iSeq (eOp ixF (eVar 0) (eOp subF (eCB lenF (aCons (eVar 0) aNil)) (eC (.int 1))))) (.n 2)
    (m_law_parts_l2 (m_law_parts n)))
  (sRet (eCB sortF (aCons (eVar 1) aNil))))))
end Mp
/-! words that differ -/
namespace Mp
open PySem PySem.Spec PyProof.Rows L2
end Mp
/-! StrA: structures as data; names; lists of names without repetition. -/
namespace Mp
open PySem PySem.Spec PyProof.Rows L2
/-! ### while -/
theorem wl_nx {t : SB} {b : SS} {n : Nat} {ds ds' : Sl} {h h1 h' : Hc} (ht : t ds h = .ok true h1) (hb : b ds h1 = .nx ds' h') : wl t b (n + 1) ds h = wl t b n ds' h' := by
  conv => lhs; unfold wl
  rw [ht, sBd_ok, if_pos rfl, hb]
theorem wl_stop {t : SB} {b : SS} {n : Nat} {ds : Sl} {h h1 : Hc} (ht : t ds h = .ok false h1) : wl t b (n + 1) ds h = .nx ds h1 := by
  conv => lhs; unfold wl
  rw [ht, sBd_ok, if_neg (by decide)]
/-! ### comprehensions over mapped lists -/
/-- without a test -/
theorem lcR_mm {α : Type} {chk : Hc → Bool} {p : Pt} {own : List Nat} {m : SE} {ds : Sl} {h : Hc} (g f : α → D) (hc : chk h = true) (xs : List α) (hl : xs.length ≤ 1000000)
    (hi : ∀ x ∈ xs, ∃ ds1, bindP h p (g x) (wipeD ds own) = some ds1 ∧ m ds1 h = .ok (f x) h) : lcR chk p own (fun _ h => .ok true h) m ds (xs.map g) [] h = .ok (xs.map f) h := by
  have := lcR_two (chk := chk) (p := p) (own := own) (m := m) (ds := ds) (h := h) hc (xs.map g) (xs.map f) [] (by simpa using hl) (All2.map fun x hx => hi x hx)
  simpa using this
/-! ### lists without repetition -/
section
variable {α : Type} [DecidableEq α]
def uq : List α → List α
  | [] => []
  | x :: r => if x ∈ r then uq r else x :: uq r
end
/-! ### names -/
structure Nm (w : Str) : Prop where
  lo : 1 ≤ w.cps.toList.length
  hi : w.cps.toList.length ≤ 8
  low : ∀ c ∈ w.cps.toList, 97 ≤ c ∧ c ≤ 122
  nr : w ∉ (["and", "or", "of", "always", "never"] : List Str)
@[simp] theorem eqS_str (a b : Str) : eqS (.str a) (.str b) = (a == b) := rfl
@[simp] theorem scalD_str (a : Str) : scalD (.str a) = true := rfl
end Mp
/-! StrB: structures as data; whether a value is one; the names in it. -/
namespace Mp
open PySem PySem.Spec PyProof.Rows L2
inductive Cn where
  | all | any | some (k : Int)
inductive E where
  | part (w : Str) | node (c : Cn) (es : List E)
mutual
def eD (b : Bool) : E → D
  | .part w => sqs b [.str "part", .str w]
  | .node .all es => sqs b [.str "all", sqs b (eDL b es)]
  | .node .any es => sqs b [.str "any", sqs b (eDL b es)]
  | .node (.some k) es => sqs b [.str "some", .int k, sqs b (eDL b es)]
def eDL (b : Bool) : List E → List D
  | [] => []
  | e :: r => eD b e :: eDL b r
end
mutual
@[simp] theorem flat_eD (b : Bool) : ∀ e, flat (eD b e) = true
  | .part w => by unfold eD; exact flat_sqs b (by simp)
  | .node .all es => by unfold eD; exact flat_sqs b (by simp [flat_sqs b (flat_eDL b es)])
  | .node .any es => by unfold eD; exact flat_sqs b (by simp [flat_sqs b (flat_eDL b es)])
  | .node (.some k) es => by unfold eD; exact flat_sqs b (by simp [flat_sqs b (flat_eDL b es)])
@[simp] theorem flat_eDL (b : Bool) : ∀ es, flatL (eDL b es) = true
  | [] => by simp [eDL]
  | e :: r => by simp [eDL, flat_eD b e, flat_eDL b r]
end
/-- as the program sees it -/
def cnD (b : Bool) (c : Cn) (x : D) : D := match c with
  | .all => sqs b [.str "all", x]
  | .any => sqs b [.str "any", x]
  | .some k => sqs b [.str "some", .int k, x]
mutual
def sz : E → Nat
  | .part _ => 1
  | .node _ es => 1 + szL es
def szL : List E → Nat
  | [] => 0
  | e :: r => sz e + szL r
end
mutual
def dp : E → Nat
  | .part _ => 1
  | .node _ es => 1 + dpL es
def dpL : List E → Nat
  | [] => 0
  | e :: r => max (dp e) (dpL r)
end
def CnOk (c : Cn) (n : Nat) : Prop := match c with
  | .some k => 1 ≤ k ∧ k ≤ n
  | _ => n ≠ 1
mutual
def EOk (ns : List Str) : E → Prop
  | .part w => w ∈ ns
  | .node c es => es.length ≤ 8 ∧ CnOk c es.length ∧ EOkL ns es
def EOkL (ns : List Str) : List E → Prop
  | [] => True
  | e :: r => EOk ns e ∧ EOkL ns r
end
/-- a structure over names -/
structure SOk (ns : List Str) (e : E) : Prop where
  nm : ∀ w ∈ ns, Nm w
  len : ns.length ≤ 10
  ok : EOk ns e
  sz : sz e ≤ 60
  dp : dp e ≤ 10
/-! ### one member's form -/
end Mp
/-! StrC: is_structure. -/
namespace Mp
open PySem PySem.Spec PyProof.Rows L2
theorem popF_end {n : Nat} {xs : List D} {d : D} {h : Hc} (e : h[n]? = some (.lst (xs ++ [d]))) : popF (.ref n) [] h = .ok d (h.set n (.lst xs)) := by
  unfold popF
  simp [e]
theorem appF_ref {n : Nat} {xs : List D} {d : D} {h : Hc} (e : h[n]? = some (.lst xs)) (hl : xs.length < 1000000) : appF (.ref n) [d] h = .ok .non (h.set n (.lst (xs ++ [d]))) := by
  unfold appF
  simp [e, hl]
theorem kindOk_list {n : Nat} {xs : List D} {h : Hc} (e : h[n]? = some (.lst xs)) : kindOk h "list" (.ref n) = true := by
  simp [kindOk, rdlD, lstD, e]
/-- keys of a dict with names -/
def insW (ws : List Str) (w : Str) : List Str := if w ∈ ws then ws else ws ++ [w]
abbrev Stk := List (E × Nat)
def stkD (b : Bool) (S : Stk) : List D := S.map fun z => .tup [eD b z.1, .int (z.2 : Int)]
def totS (S : Stk) : Nat := (S.map fun z => sz z.1).sum
section
variable (b : Bool) (x0 x1 x2 x4 : Option D) (l : Nat) (c0 : C)
end
structure StkOk (ns : List Str) (S : Stk) : Prop where
  ok : ∀ z ∈ S, EOk ns z.1 ∧ z.2 + dp z.1 ≤ 11
section
variable (b : Bool) {ns : List Str} (hN : ∀ w ∈ ns, Nm w) (hn : ns.length ≤ 10) (x0 : Option D)
include hN hn
end
end Mp
namespace Mp
open PySem PySem.Spec PyProof.Rows L2
/-! ### mirrors: Lin -/
def m_shared_factor_l1 : SS :=
  (sSet 1 (eCB gcdF (aCons (eVar 1) (aCons (eVar 2) aNil))))
/-- shared_factor: row 0, common 1, x 2 -/
def m_shared_factor : Fn := runB 3
  (sSeq (sSet 1 (eC (.int 0)))
  (sSeq (sFor (iSeq (eVar 0)) (.n 2)
    m_shared_factor_l1)
  (sRet (eCB maxF (aCons (eVar 1) (aCons (eC (.int 1)) aNil))))))
def m_lowered_c1 : SE :=
  (eOp fdivF (eVar 2) (eVar 1))
/-- lowered: row 0, common 1, x 2 -/
def m_lowered : Fn := runB 3
  (sSeq (sSet 1 (eCall m_shared_factor (aCons (eVar 0) aNil)))
  (sRet (eLc (iSeq (eVar 0)) (.n 2) [2] (fun _ h => .ok true h) m_lowered_c1)))
def m_lead_place_l1 : SS :=
  (sAug 2 addI (eC (.int 1)))
/-- lead_place: rows 0, at 1, place 2 -/
def m_lead_place : Fn := runB 3
  (sSeq (sSet 2 (eVar 1))
  (sSeq (wl (bEx (eOp eqF (eOp ixF (eOp ixF (eVar 0) (eVar 2)) (eVar 1)) (eC (.int 0))))
    m_lead_place_l1 100000)
  (sRet (eVar 2))))
def m_cleared_c1 : SE :=
  (eOp subF (eOp mulF (eVar 4) (eVar 6)) (eOp mulF (eVar 5) (eVar 7)))
/-- cleared: row 0, lead 1, at 2, common 3, ours 4, theirs 5, x 6, y 7 -/
def m_cleared : Fn := runB 8
  (sSeq (sSet 3 (eCB gcdF (aCons (eOp ixF (eVar 0) (eVar 2)) (aCons (eOp ixF (eVar 1) (eVar 2)) aNil))))
  (sSeq (sSet 4 (eOp fdivF (eOp ixF (eVar 1) (eVar 2)) (eVar 3)))
  (sSeq (sSet 5 (eOp fdivF (eOp ixF (eVar 0) (eVar 2)) (eVar 3)))
  (sRet (eCall m_lowered (aCons (eLc (iZip (aCons (eVar 0) (aCons (eVar 1) aNil))) (.t ((.n 6) :: ((.n 7) :: []))) [6, 7] (fun _ h => .ok true h) m_cleared_c1) aNil))))))
def m_solved_c1 : SE :=
  (eCall m_lowered (aCons (eVar 6) aNil))
def m_solved_l1 : SS :=
  (sIf (bAnd (bEx (eOp neF (eVar 5) (eVar 3))) (bEx (eOp neF (eOp ixF (eOp ixF (eVar 1) (eVar 5)) (eVar 3)) (eC (.int 0)))))
        (sPut setF (eCall m_cleared (aCons (eOp ixF (eVar 1) (eVar 5)) (aCons (eOp ixF (eVar 1) (eVar 3)) (aCons (eVar 3) aNil)))) (eVar 1) (eVar 5))
        sNext)
def m_solved_l2 : SS :=
  (sSeq (sSet 4 (eCall m_lead_place (aCons (eVar 1) (aCons (eVar 3) aNil))))
    (sSeq (sSw (aCons (eOp ixF (eVar 1) (eVar 4)) (aCons (eOp ixF (eVar 1) (eVar 3)) aNil)) (eVar 1) (eVar 3) (eVar 1) (eVar 4))
    (sFor (iRg1 (aCons (eVar 2) aNil)) (.n 5)
      m_solved_l1)))
def m_solved_c2 : SE :=
  (eCall m_reduced (aCons (eOp ixF (eOp ixF (eVar 1) (eVar 5)) (eVar 2)) (aCons (eOp ixF (eOp ixF (eVar 1) (eVar 5)) (eVar 5)) aNil)))
/-- solved: rows 0, work 1, many 2, at 3, place 4, k 5, row 6 -/
def m_solved : Fn := runB 7
  (sSeq (sSet 1 (eLcC (iSeq (eVar 0)) (.n 6) [6] (fun _ h => .ok true h) m_solved_c1))
  (sSeq (sSet 2 (eCB lenF (aCons (eVar 1) aNil)))
  (sSeq (sFor (iRg1 (aCons (eVar 2) aNil)) (.n 3)
    m_solved_l2)
  (sRet (eCB tupleF (aCons (eLc (iRg1 (aCons (eVar 2) aNil)) (.n 5) [5] (fun _ h => .ok true h) m_solved_c2) aNil))))))
def m_reached_l1 : SS :=
  (sIf (bAnd (bEx (eOp gtF (eVar 7) (eC (.int 0)))) (bEx (eOp (dinF true) (eVar 6) (eVar 3))))
          (sSeq (sPut putF (eC (.bl true)) (eVar 3) (eVar 6))
          (sDrop (eBM "list" appF (eVar 4) (aCons (eVar 6) aNil))))
          sNext)
def m_reached_l2 : SS :=
  (sSeq (sSet 5 (eBM0 "list" popF (eVar 4)))
    (sIf (bEx (eOp (inG true) (eVar 5) (eVar 2)))
      (sFor (iEnu (aCons (eOp ixF (eVar 0) (eVar 5)) aNil)) (.t ((.n 6) :: ((.n 7) :: [])))
        m_reached_l1)
      sNext))
/-- reached: chain 0, start 1, walls 2, found 3, waiting 4, state 5, other 6, weight 7 -/
def m_reached : Fn := runB 8
  (sSeq (sSet 3 (eDct1 (gVar 1) (gC (.bl true))))
  (sSeq (sSet 4 (eCell (aCons (eVar 1) aNil)))
  (sSeq (wl (bTru (eVar 4))
    m_reached_l2 100000)
  (sRet (eCB sortF (aCons (eVar 3) aNil))))))
def m_law_reach_l1 : SS :=
  (sIf (bAnd (bEx (eOp gtF (eOp ixF (eOp ixF (eVar 0) (eVar 6)) (eVar 7)) (eC (.int 0)))) (bEx (eOp (inG true) (eVar 7) (eVar 3))))
          (sSeq (sDrop (eBM "list" appF (eVar 3) (aCons (eVar 7) aNil)))
          (sDrop (eBM "list" appF (eVar 4) (aCons (eVar 7) aNil))))
          sNext)
def m_law_reach_l2 : SS :=
  (sSeq (sIf (bEx (eOp eqF (eCB lenF (aCons (eVar 4) aNil)) (eC (.int 0))))
      (fun ds h => .bk ds h)
      sNext)
    (sSeq (sSet 6 (eBM0 "list" popF (eVar 4)))
    (sIf (bEx (eOp (inG true) (eVar 6) (eVar 2)))
      (sFor (iRg1 (aCons (eCB lenF (aCons (eVar 0) aNil)) aNil)) (.n 7)
        m_law_reach_l1)
      sNext)))
/-- _law_reach: chain 0, start 1, stops 2, made 3, waiting 4, k 5, one 6, j 7 -/
def m_law_reach : Fn := runB 8
  (sSeq (sSet 3 (eCell (aCons (eVar 1) aNil)))
  (sSeq (sSet 4 (eCell (aCons (eVar 1) aNil)))
  (sSeq (sFor (iRg1 (aCons (eOp addF (eCB lenF (aCons (eVar 0) aNil)) (eC (.int 1))) aNil)) (.n 5)
    m_law_reach_l2)
  (sRet (eVar 3)))))
def m_law_solve_c1 : SE :=
  (eCB listF (aCons (eVar 9) aNil))
def m_law_solve_l1 : SS :=
  (sIf (bEx (eOp neF (eOp ixF (eOp ixF (eOp ixF (eVar 2) (eVar 5)) (eVar 3)) (eC (.int 0))) (eC (.int 0))))
        (sSeq (sSet 4 (eVar 5))
        (fun ds h => .bk ds h))
        sNext)
def m_law_solve_c2 : SE :=
  (eCall m_law_div (aCons (eVar 9) (aCons (eVar 7) aNil)))
def m_law_solve_c3 : SE :=
  (eCall m_law_sub (aCons (eOp ixF (eOp ixF (eVar 2) (eVar 5)) (eVar 10)) (aCons (eCall m_law_mul (aCons (eVar 8) (aCons (eOp ixF (eOp ixF (eVar 2) (eVar 3)) (eVar 10)) aNil))) aNil)))
def m_law_solve_l2 : SS :=
  (sIf (bAnd (bEx (eOp neF (eVar 5) (eVar 3))) (bEx (eOp neF (eOp ixF (eOp ixF (eOp ixF (eVar 2) (eVar 5)) (eVar 3)) (eC (.int 0))) (eC (.int 0)))))
        (sSeq (sSet 8 (eOp ixF (eOp ixF (eVar 2) (eVar 5)) (eVar 3)))
        (sPut setF (eLc (iRg1 (aCons (eOp addF (eVar 1) (eC (.int 1))) aNil)) (.n 10) [10] (fun _ h => .ok true h) m_law_solve_c3) (eVar 2) (eVar 5)))
        sNext)
def m_law_solve_l3 : SS :=
  (sSeq (sSet 4 (eVar 3))
    (sSeq (sFor (iRg2 (aCons (eVar 3) (aCons (eVar 1) aNil))) (.n 5)
      m_law_solve_l1)
    (sSeq (sSet 6 (eOp ixF (eVar 2) (eVar 3)))
    (sSeq (sPut setF (eOp ixF (eVar 2) (eVar 4)) (eVar 2) (eVar 3))
    (sSeq (sPut setF (eVar 6) (eVar 2) (eVar 4))
    (sSeq (sSet 7 (eOp ixF (eOp ixF (eVar 2) (eVar 3)) (eVar 3)))
    (sSeq (sPut setF (eLc (iSeq (eOp ixF (eVar 2) (eVar 3))) (.n 9) [9] (fun _ h => .ok true h) m_law_solve_c2) (eVar 2) (eVar 3))
    (sFor (iRg1 (aCons (eVar 1) aNil)) (.n 5)
      m_law_solve_l2))))))))
def m_law_solve_c4 : SE :=
  (eOp ixF (eVar 9) (eVar 1))
/-- _law_solve: rows 0, many 1, made 2, k 3, at 4, j 5, held 6, top 7, by 8, one 9, i 10 -/
def m_law_solve : Fn := runB 11
  (sSeq (sSet 1 (eCB lenF (aCons (eVar 0) aNil)))
  (sSeq (sSet 2 (eLcC (iSeq (eVar 0)) (.n 9) [9] (fun _ h => .ok true h) m_law_solve_c1))
  (sSeq (sFor (iRg1 (aCons (eVar 1) aNil)) (.n 3)
    m_law_solve_l3)
  (sRet (eLc (iSeq (eVar 2)) (.n 9) [9] (fun _ h => .ok true h) m_law_solve_c4)))))
def m_law_lines_c1 : SE :=
  (eIf (bEx (eOp eqF (eVar 8) (eVar 5))) (eTup (aCons (eC (.int 1)) (aCons (eC (.int 1)) aNil))) (eTup (aCons (eC (.int 0)) (aCons (eC (.int 1)) aNil))))
def m_law_lines_c2 : SE :=
  (eCall m_law_sub (aCons (eOp ixF (eVar 6) (eVar 8)) (aCons (eOp ixF (eVar 7) (eVar 8)) aNil)))
def m_law_lines_l1 : SS :=
  (sSeq (sSet 6 (eLc (iRg1 (aCons (eVar 3) aNil)) (.n 8) [8] (fun _ h => .ok true h) m_law_lines_c1))
    (sIf (bEx (eOp notnF (eOp ixF (eVar 1) (eVar 5)) (eC .non)))
      (sDrop (eBM "list" appF (eVar 4) (aCons (eOp addF (eVar 6) (eLst (aCons (eOp ixF (eVar 1) (eVar 5)) aNil))) aNil)))
      (sSeq (sSet 7 (eCall m_law_shares (aCons (eVar 0) (aCons (eVar 5) aNil))))
      (sDrop (eBM "list" appF (eVar 4) (aCons (eOp addF (eLc (iRg1 (aCons (eVar 3) aNil)) (.n 8) [8] (fun _ h => .ok true h) m_law_lines_c2) (eLst (aCons (eVar 2) aNil))) aNil))))))
/-- _law_lines: chain 0, known 1, base 2, many 3, rows 4, s 5, one 6, shares 7, j 8 -/
def m_law_lines : Fn := runB 9
  (sSeq (sSet 3 (eCB lenF (aCons (eVar 0) aNil)))
  (sSeq (sSet 4 (eCell aNil))
  (sSeq (sFor (iRg1 (aCons (eVar 3) aNil)) (.n 5)
    m_law_lines_l1)
  (sRet (eVar 4)))))
end Mp
/-! SolA: lines of numbers that are cleared column by column. -/
namespace Mp
def sumR (f : Nat → Rat) : Nat → Rat
  | 0 => 0
  | n + 1 => sumR f n + f n
theorem sumR_congr {f g : Nat → Rat} : ∀ {n : Nat}, (∀ i, i < n → f i = g i) → sumR f n = sumR g n
  | 0, _ => rfl
  | n + 1, h => by rw [sumR, sumR, sumR_congr fun i hi => h i (by omega), h n (by omega)]
theorem sumR_add (f g : Nat → Rat) : ∀ n, sumR (fun i => f i + g i) n = sumR f n + sumR g n
  | 0 => by simp only [sumR]; grind
  | n + 1 => by simp only [sumR]; rw [sumR_add f g n]; grind
theorem sumR_mul (a : Rat) (f : Nat → Rat) : ∀ n, sumR (fun i => a * f i) n = a * sumR f n
  | 0 => by simp only [sumR]; grind
  | n + 1 => by simp only [sumR]; rw [sumR_mul a f n]; grind
theorem sumR_zero {f : Nat → Rat} : ∀ {n : Nat}, (∀ i, i < n → f i = 0) → sumR f n = 0
  | 0, _ => rfl
  | n + 1, h => by rw [sumR, sumR_zero fun i hi => h i (by omega), h n (by omega)]; grind
theorem sumR_one {f : Nat → Rat} {k : Nat} : ∀ {n : Nat}, k < n → (∀ i, i < n → i ≠ k → f i = 0) → sumR f n = f k
  | 0, h, _ => by omega
  | n + 1, h, z => by
    rw [sumR]
    by_cases e : k = n
    · subst e
      rw [sumR_zero fun i hi => z i (by omega) (by omega)]; grind
    · rw [sumR_one (k := k) (n := n) (by omega) fun i hi => z i (by omega), z n (by omega) (fun q => e q.symm)]; grind
theorem sumR_two {f : Nat → Rat} {k j : Nat} (hkj : k ≠ j) : ∀ {n : Nat}, k < n → j < n → (∀ i, i < n → i ≠ k → i ≠ j → f i = 0) → sumR f n = f k + f j
  | 0, h, _, _ => by omega
  | n + 1, h, h2, z => by
    rw [sumR]
    by_cases e : k = n
    · subst e
      rw [sumR_one (k := j) (n := k) (by omega) fun i hi hj => z i (by omega) (by omega) hj]; grind
    · by_cases e2 : j = n
      · subst e2
        rw [sumR_one (k := k) (n := j) (by omega) fun i hi hk => z i (by omega) hk (by omega)]
      · rw [sumR_two hkj (n := n) (by omega) (by omega) fun i hi => z i (by omega), z n (by omega) (fun q => e q.symm) (fun q => e2 q.symm)]; grind
abbrev Mx := Nat → Nat → Rat
def dotM (n : Nat) (r : Nat → Rat) (x : Nat → Rat) : Rat := sumR (fun j => r j * x j) n
/-- the line holds (t = 1), or holds with nothing on the right (t = 0) -/
def satL (n : Nat) (t : Rat) (r : Nat → Rat) (x : Nat → Rat) : Prop := dotM n r x = t * r n
def satM (n : Nat) (t : Rat) (m : Mx) (x : Nat → Rat) : Prop := ∀ i, i < n → satL n t (m i) x
def NSing (n : Nat) (m : Mx) : Prop := ∀ x, satM n 0 m x → ∀ j, j < n → x j = 0
theorem dot_comb (n : Nat) {r s u : Nat → Rat} {a b : Rat} (h : ∀ c, c ≤ n → r c = a * s c + b * u c) (x : Nat → Rat) : dotM n r x = a * dotM n s x + b * dotM n u x := by
  unfold dotM
  rw [← sumR_mul, ← sumR_mul, ← sumR_add]
  exact sumR_congr fun i hi => by rw [h i (by omega)]; grind
theorem sat_comb {n : Nat} {t : Rat} {r s u x : Nat → Rat} {a b : Rat} (ha : a ≠ 0) (h : ∀ c, c ≤ n → r c = a * s c + b * u c) (hu : satL n t u x) : satL n t r x ↔ satL n t s x := by
  unfold satL at hu ⊢
  rw [dot_comb n h, h n (Nat.le_refl _), hu]
  constructor
  · intro q
    have : a * (dotM n s x - t * s n) = 0 := by grind
    rcases Rat.mul_eq_zero.mp this with z | z
    · exact absurd z ha
    · grind
  · intro q
    rw [q]; grind
theorem sat_scale {n : Nat} {t : Rat} {r s x : Nat → Rat} {a : Rat} (ha : a ≠ 0) (h : ∀ c, c ≤ n → r c = a * s c) : satL n t r x ↔ satL n t s x := by
  have h' : ∀ c, c ≤ n → r c = a * s c + 0 * (fun _ => (0 : Rat)) c := fun c hc => by rw [h c hc]; grind
  refine sat_comb ha h' ?_
  unfold satL dotM
  rw [sumR_zero fun i _ => by grind]
  grind
def swp (k p i : Nat) : Nat := if i = k then p else if i = p then k else i
/-- one column is cleared -/
structure Stp (n k p : Nat) (m m' : Mx) : Prop where
  kn : k < n
  kp : k ≤ p
  pn : p < n
  piv : m p k ≠ 0
  lead : ∃ a, a ≠ 0 ∧ ∀ c, c ≤ n → m' k c = a * m p c
  rest : ∀ i, i < n → i ≠ k → m' i k = 0 ∧ ∃ a b, a ≠ 0 ∧ ∀ c, c ≤ n → m' i c = a * m (swp k p i) c + b * m p c
theorem swp_lt {n k p i : Nat} (hk : k < n) (hp : p < n) (hi : i < n) : swp k p i < n := by
  unfold swp
  split
  · exact hp
  · split
    · exact hk
    · exact hi
theorem stp_sat {n k p : Nat} {m m' : Mx} (S : Stp n k p m m') (t : Rat) (x : Nat → Rat) : satM n t m' x ↔ satM n t m x := by
  obtain ⟨a, ha, hl⟩ := S.lead
  constructor
  · intro h
    have hp : satL n t (m p) x := (sat_scale ha hl).mp (h k S.kn)
    intro i hi
    by_cases e : i = p
    · subst e; exact hp
    · -- the line that stands at swp
      have hs : swp k p i ≠ k := by
        unfold swp
        split
        · rename_i q
          subst q
          intro q2; exact e q2.symm
        · rename_i q
          exact q
      have hsl := swp_lt S.kn S.pn hi
      obtain ⟨_, a2, b2, ha2, h2⟩ := S.rest (swp k p i) hsl hs
      have hinv : swp k p (swp k p i) = i := by
        unfold swp
        by_cases q : i = k
        · subst q; simp
        · simp [q, e]
      rw [hinv] at h2
      exact (sat_comb ha2 h2 hp).mp (h _ hsl)
  · intro h i hi
    by_cases e : i = k
    · subst e
      exact (sat_scale ha hl).mpr (h p S.pn)
    · obtain ⟨_, a2, b2, ha2, h2⟩ := S.rest i hi e
      exact (sat_comb ha2 h2 (h p S.pn)).mpr (h _ (swp_lt S.kn S.pn hi))
/-- so many columns are cleared -/
structure Clr (n k : Nat) (m0 m : Mx) : Prop where
  sat : ∀ t x, satM n t m x ↔ satM n t m0 x
  off : ∀ c i, c < k → i < n → i ≠ c → m i c = 0
  dia : ∀ c, c < k → m c c ≠ 0
theorem Clr.start (n : Nat) (m : Mx) : Clr n 0 m m := ⟨fun _ _ => Iff.rfl, fun c i h => by omega, fun c h => by omega⟩
theorem Clr.step {n k p : Nat} {m0 m m' : Mx} (I : Clr n k m0 m) (S : Stp n k p m m') : Clr n (k + 1) m0 m' := by
  obtain ⟨a, ha, hl⟩ := S.lead
  have hk := S.kn
  have hkp := S.kp
  have hp := S.pn
  have colp : ∀ c, c < k → m p c = 0 := fun c hc => I.off c p hc hp (by omega)
  refine ⟨fun t x => (stp_sat S t x).trans (I.sat t x), fun c i hc hi hne => ?_, fun c hc => ?_⟩
  · by_cases e : c = k
    · subst e
      exact (S.rest i hi hne).1
    · have hc' : c < k := by omega
      by_cases ei : i = k
      · subst ei
        rw [hl c (by omega), colp c hc']; grind
      · obtain ⟨_, a2, b2, _, h2⟩ := S.rest i hi ei
        rw [h2 c (by omega), colp c hc', I.off c (swp k p i) hc' (swp_lt hk hp hi) (by unfold swp; rw [if_neg ei]; split <;> omega)]
        grind
  · by_cases e : c = k
    · subst e
      rw [hl c (by omega)]
      intro z
      rcases Rat.mul_eq_zero.mp z with z | z
      · exact ha z
      · exact S.piv z
    · have hc' : c < k := by omega
      obtain ⟨_, a2, b2, ha2, h2⟩ := S.rest c (by omega) e
      have es : swp k p c = c := by unfold swp; rw [if_neg e, if_neg (by omega)]
      rw [h2 c (by omega), es, colp c hc']
      intro z
      have : a2 * m c c = 0 := by grind
      rcases Rat.mul_eq_zero.mp this with z | z
      · exact ha2 z
      · exact I.dia c hc' z
/-- there is something to clear with -/
theorem Clr.pivot {n k : Nat} {m0 m : Mx} (I : Clr n k m0 m) (hk : k < n) (N : NSing n m0) : ∃ p, k ≤ p ∧ p < n ∧ m p k ≠ 0 := by
  by_cases h : ∃ p, k ≤ p ∧ p < n ∧ m p k ≠ 0
  · exact h
  · exfalso
    have hz : ∀ p, k ≤ p → p < n → m p k = 0 := fun p h1 h2 => by
      by_cases q : m p k = 0
      · exact q
      · exact absurd ⟨p, h1, h2, q⟩ h
    let y : Nat → Rat := fun j => if j = k then 1 else if j < k then -(m j k) / m j j else 0
    have hy : satM n 0 m y := fun i hi => by
      unfold satL dotM
      have e0 : (0 : Rat) * m i n = 0 := by grind
      rw [e0]
      by_cases c : i < k
      · rw [sumR_two (f := fun j => m i j * y j) (k := i) (j := k) (by omega) hi hk fun j hj h1 h2 => ?_]
        · show m i i * (if i = k then 1 else if i < k then -(m i k) / m i i else 0) + m i k * (if k = k then 1 else _) = 0
          rw [if_neg (by omega), if_pos c, if_pos rfl]
          have := I.dia i c
          grind
        · show m i j * (if j = k then 1 else if j < k then -(m j k) / m j j else 0) = 0
          rw [if_neg h2]
          split
          · rename_i q
            rw [I.off j i q hi (fun z => h1 z.symm)]; grind
          · grind
      · refine sumR_zero fun j hj => ?_
        show m i j * (if j = k then 1 else if j < k then -(m j k) / m j j else 0) = 0
        split
        · rename_i q
          subst q
          rw [hz i (by omega) hi]; grind
        · split
          · rename_i q
            rw [I.off j i q hi (by omega)]; grind
          · grind
    have := N y ((I.sat 0 y).mp hy) k hk
    have e : y k = 1 := if_pos rfl
    rw [e] at this
    exact absurd this (by decide)
/-- the end: each line tells its number -/
theorem Clr.done {n : Nat} {m0 m : Mx} (I : Clr n n m0 m) : satM n 1 m0 (fun i => m i n / m i i) := by
  rw [← I.sat]
  intro i hi
  unfold satL dotM
  rw [sumR_one (k := i) hi fun j hj hne => by rw [I.off j i hj hi (fun z => hne z.symm)]; grind]
  have := I.dia i hi
  grind
theorem sat_uniq {n : Nat} {m : Mx} (N : NSing n m) {x y : Nat → Rat} (hx : satM n 1 m x) (hy : satM n 1 m y) : ∀ j, j < n → x j = y j := by
  intro j hj
  have : satM n 0 m fun i => x i - y i := fun i hi => by
    have h1 := hx i hi
    have h2 := hy i hi
    unfold satL dotM at h1 h2 ⊢
    have e : sumR (fun j => m i j * (x j - y j)) n = sumR (fun j => m i j * x j) n + (-1) * sumR (fun j => m i j * y j) n := by
      rw [← sumR_mul, ← sumR_add]
      exact sumR_congr fun j _ => by grind
    rw [e, h1, h2]; grind
  have := N _ this j hj
  grind
end Mp
/-! SolB: lines of ints are solved by the program. -/
namespace Mp
open PySem PySem.Spec PyProof.Rows L2
def rwI (r : List Int) : D := .lst (r.map D.int)
@[simp] theorem flat_rwI (r : List Int) : flat (rwI r) = true := by unfold rwI; simp
def gF (c : Nat) (r : List Int) : Nat := r.foldl (fun c x => Nat.gcd c x.natAbs) c
theorem gF_dvd : ∀ (r : List Int) (c : Nat), gF c r ∣ c ∧ ∀ x ∈ r, gF c r ∣ x.natAbs
  | [], c => ⟨Nat.dvd_refl _, by simp⟩
  | x :: r, c => by
    obtain ⟨h1, h2⟩ := gF_dvd r (Nat.gcd c x.natAbs)
    refine ⟨Nat.dvd_trans h1 (Nat.gcd_dvd_left _ _), fun y hy => ?_⟩
    rcases List.mem_cons.mp hy with rfl | hy
    · exact Nat.dvd_trans h1 (Nat.gcd_dvd_right _ _)
    · exact h2 y hy
def shf (r : List Int) : Int := if (gF 0 r : Int) < 1 then 1 else gF 0 r
theorem shf_pos (r : List Int) : 1 ≤ shf r := by unfold shf; split <;> omega
theorem shf_dvd {r : List Int} {x : Int} (h : x ∈ r) : shf r ∣ x := by
  unfold shf
  split
  · exact Int.one_dvd x
  · exact Int.ofNat_dvd_left.mpr ((gF_dvd r 0).2 x h)
theorem shf_big (r : List Int) {b : Nat} (hb : 1 ≤ b) (hr : ∀ x ∈ r, x.natAbs < 2 ^ b) (hne : r ≠ []) : (shf r).natAbs < 2 ^ b := by
  unfold shf
  split
  · exact Nat.one_lt_two_pow (by omega)
  · rename_i h
    obtain ⟨x, hx⟩ := List.exists_mem_of_ne_nil r hne
    by_cases z : ∃ x ∈ r, x ≠ 0
    · obtain ⟨x, hx, h0⟩ := z
      have := Nat.le_of_dvd (by omega) ((gF_dvd r 0).2 x hx)
      have := hr x hx
      simp
      omega
    · exfalso
      have all0 : ∀ x ∈ r, x = 0 := fun x hx => by
        by_cases q : x = 0
        · exact q
        · exact absurd ⟨x, hx, q⟩ z
      have : ∀ (l : List Int), (∀ x ∈ l, x = 0) → gF 0 l = 0 := fun l => by
        induction l with
        | nil => intro _; rfl
        | cons y l ih =>
          intro hl
          have hy := hl y (by simp)
          subst hy
          exact ih fun x hx => hl x (by simp [hx])
      rw [this r all0] at h
      omega
def lowI (r : List Int) : List Int := r.map fun x => x.fdiv (shf r)
theorem shared_loop (x0 : Option D) : ∀ (r : List Int) (c : Nat) (x2 : Option D), ∃ y2, fl (fun _ => true) (.n 2) m_shared_factor_l1 (r.map D.int) [x0, some (.int (c : Int)), x2] [] = .nx [x0, some (.int (gF c r : Nat)), y2] []
  | [], c, x2 => ⟨x2, fl_end rfl⟩
  | x :: r, c, x2 => by
    obtain ⟨y2, ih⟩ := shared_loop x0 r (Nat.gcd c x.natAbs) (some (.int x))
    refine ⟨y2, ?_⟩
    rw [List.map_cons]
    refine Eq.trans (fl_n (b := m_shared_factor_l1) ?_) ih
    simp [m_shared_factor_l1]
theorem shared_ok (r : List Int) (h : Hc) : callL m_shared_factor [rwI r] h = .ok (.int (shf r)) h := by
  obtain ⟨y2, e1⟩ := shared_loop (some (rwI r)) r 0 none
  have e0 : ((0 : Nat) : Int) = 0 := rfl
  rw [e0] at e1
  refine call_flat (h' := []) (by simp) ?_ (by simp) h
  have e8 : ∀ h, seqD h (rwI r) = some (r.map D.int) := fun h => rfl
  have e9 : chkQ (rwI r) (r.map D.int) = fun _ => true := by unfold rwI; simp
  unfold m_shared_factor shf
  rw [runB_s]
  generalize r.map D.int = RD at *
  generalize rwI r = RW at *
  simp [e8, e9, e1]
theorem divOk_b {j : Int} {b : Nat} (h0 : j ≠ 0) (hb : b ≤ 8000) (hj : j.natAbs < 2 ^ b) : divOk j = true := by
  unfold divOk
  have h1 : j.natAbs.log2 < b := (Nat.log2_lt (by omega)).mpr hj
  rw [decide_eq_true h0, decide_eq_true (show j.natAbs.log2 < 9000 by omega)]
  rfl
theorem lowered_ok {r : List Int} (hl : r.length ≤ 1000) {b : Nat} (hb1 : 1 ≤ b) (hb : b ≤ 8000) (hr : ∀ x ∈ r, x.natAbs < 2 ^ b) (h : Hc) : callL m_lowered [rwI r] h = .ok (rwI (lowI r)) h := by
  have e1 := fun h => shared_ok r h
  have hp := shf_pos r
  have c1 := lcR_mm (chk := fun _ => true) (p := .n 2) (own := [2]) (m := m_lowered_c1) (ds := [some (rwI r), some (.int (shf r)), none]) (h := []) D.int (fun x => D.int (x.fdiv (shf r))) rfl r (by omega)
    (fun x hx => ⟨_, bindP_n .., by
      have dv : divOk (shf r) = true := by
        have hne : r ≠ [] := fun e => by rw [e] at hx; simp at hx
        exact divOk_b (by omega) hb (shf_big r hb1 hr hne)
      generalize rwI r = RW at *
      simp [m_lowered_c1, iF, dv]⟩)
  have e2 : (r.map fun x => D.int (x.fdiv (shf r))) = (lowI r).map D.int := by unfold lowI; rw [List.map_map]; rfl
  rw [e2] at c1
  have e8 : ∀ h, seqD h (rwI r) = some (r.map D.int) := fun h => rfl
  have e9 : chkQ (rwI r) (r.map D.int) = fun _ => true := by unfold rwI; simp
  have e3 : rwI (lowI r) = .lst ((lowI r).map D.int) := rfl
  refine call_flat (h' := []) (by simp) ?_ (by simp) h
  unfold m_lowered
  rw [runB_s, e3]
  generalize (lowI r).map D.int = LD at *
  generalize r.map D.int = RD at *
  generalize rwI r = RW at *
  simp [e1, e8, e9, c1]
theorem low_mem {r : List Int} {y : Int} (h : y ∈ lowI r) : ∃ x ∈ r, y * shf r = x := by
  unfold lowI at h
  obtain ⟨x, hx, rfl⟩ := List.mem_map.mp h
  refine ⟨x, hx, ?_⟩
  rw [Int.fdiv_eq_ediv_of_dvd (shf_dvd hx), Int.ediv_mul_cancel (shf_dvd hx)]
theorem low_bnd {r : List Int} {b : Nat} (hr : ∀ x ∈ r, x.natAbs < 2 ^ b) : ∀ y ∈ lowI r, y.natAbs < 2 ^ b := fun y hy => by
  obtain ⟨x, hx, e⟩ := low_mem hy
  have h1 := hr x hx
  have hp := shf_pos r
  rw [← e, Int.natAbs_mul] at h1
  have : y.natAbs * 1 ≤ y.natAbs * (shf r).natAbs := Nat.mul_le_mul_left _ (by omega)
  omega
theorem low_len (r : List Int) : (lowI r).length = r.length := by unfold lowI; rw [List.length_map]
theorem low_at (r : List Int) (c : Nat) : (((lowI r).getD c 0 : Int) : Rat) = (1 / ((shf r : Int) : Rat)) * ((r.getD c 0 : Int) : Rat) := by
  have hp := shf_pos r
  have hs : ((shf r : Int) : Rat) ≠ 0 := by
    intro z
    have : shf r = 0 := by exact_mod_cast z
    omega
  by_cases hc : c < r.length
  · have e : (lowI r).getD c 0 * shf r = r.getD c 0 := by
      have h1 : (lowI r).getD c 0 = (r.getD c 0).fdiv (shf r) := by
        unfold lowI
        simp [List.getD, hc]
      have hm : r.getD c 0 ∈ r := by
        simp [List.getD, hc]
      rw [h1, Int.fdiv_eq_ediv_of_dvd (shf_dvd hm), Int.ediv_mul_cancel (shf_dvd hm)]
    rw [← e, Rat.intCast_mul]
    generalize ((shf r : Int) : Rat) = s at *
    grind
  · have h1 : (lowI r).getD c 0 = 0 := by
      rw [List.getD, List.getElem?_eq_none (by rw [low_len]; omega)]; rfl
    have h2 : r.getD c 0 = 0 := by
      rw [List.getD, List.getElem?_eq_none (by omega)]; rfl
    rw [h1, h2]
    have : ((0 : Int) : Rat) = 0 := rfl
    rw [this]
    grind
/-! ### a line is cleared with another -/
def gcA (r l : List Int) (a : Nat) : Int := ((Nat.gcd (r.getD a 0).natAbs (l.getD a 0).natAbs : Nat) : Int)
def rawA (r l : List Int) (a : Nat) : List Int := (r.zip l).map fun z => (l.getD a 0).fdiv (gcA r l a) * z.1 - (r.getD a 0).fdiv (gcA r l a) * z.2
def clI (r l : List Int) (a : Nat) : List Int := lowI (rawA r l a)
theorem gcA_pos {r l : List Int} {a : Nat} (h : l.getD a 0 ≠ 0) : 1 ≤ gcA r l a := by
  unfold gcA
  have : 0 < Nat.gcd (r.getD a 0).natAbs (l.getD a 0).natAbs := Nat.gcd_pos_of_pos_right _ (by omega)
  omega
theorem gcA_dvd (r l : List Int) (a : Nat) : gcA r l a ∣ r.getD a 0 ∧ gcA r l a ∣ l.getD a 0 := ⟨Int.ofNat_dvd_left.mpr (Nat.gcd_dvd_left _ _), Int.ofNat_dvd_left.mpr (Nat.gcd_dvd_right _ _)⟩
theorem ours_le {r l : List Int} {a : Nat} {x : Int} (h : l.getD a 0 ≠ 0) (hd : gcA r l a ∣ x) {b : Nat} (hx : x.natAbs < 2 ^ b) : (x.fdiv (gcA r l a)).natAbs < 2 ^ b := by
  have hp := gcA_pos (r := r) h
  rw [Int.fdiv_eq_ediv_of_dvd hd]
  have e := Int.ediv_mul_cancel hd
  generalize x / gcA r l a = y at *
  rw [← e, Int.natAbs_mul] at hx
  have : y.natAbs * 1 ≤ y.natAbs * (gcA r l a).natAbs := Nat.mul_le_mul_left _ (by omega)
  omega
theorem mem_getD {r : List Int} {c : Nat} (hc : c < r.length) : r.getD c 0 ∈ r := by simp [List.getD, hc]
theorem raw_len {r l : List Int} {a : Nat} (h : r.length = l.length) : (rawA r l a).length = r.length := by
  unfold rawA
  rw [List.length_map, List.length_zip]
  omega
theorem raw_at {r l : List Int} {a : Nat} (h : r.length = l.length) (c : Nat) : (rawA r l a).getD c 0 = (l.getD a 0).fdiv (gcA r l a) * r.getD c 0 - (r.getD a 0).fdiv (gcA r l a) * l.getD c 0 := by
  by_cases hc : c < r.length
  · have hc2 : c < l.length := by omega
    have ez : (r.zip l)[c]? = some (r[c], l[c]) := by rw [List.getElem?_eq_getElem (by rw [List.length_zip]; omega), List.getElem_zip]
    unfold rawA
    simp [List.getD, hc, hc2, ez]
  · have h1 : (rawA r l a).getD c 0 = 0 := by
      rw [List.getD, List.getElem?_eq_none (by rw [raw_len h]; omega)]; rfl
    have h2 : r.getD c 0 = 0 := by
      rw [List.getD, List.getElem?_eq_none (by omega)]; rfl
    have h3 : l.getD c 0 = 0 := by
      rw [List.getD, List.getElem?_eq_none (by omega)]; rfl
    rw [h1, h2, h3]
    omega
theorem raw_bnd {r l : List Int} {a b : Nat} (hlen : r.length = l.length) (ha : a < r.length) (h : l.getD a 0 ≠ 0) (hr : ∀ x ∈ r, x.natAbs < 2 ^ b) (hl : ∀ x ∈ l, x.natAbs < 2 ^ b) : ∀ y ∈ rawA r l a, y.natAbs < 2 ^ (2 * b + 1) := fun y hy => by
  unfold rawA at hy
  obtain ⟨z, hz, rfl⟩ := List.mem_map.mp hy
  have z1 : z.1 ∈ r := (List.of_mem_zip hz).1
  have z2 : z.2 ∈ l := (List.of_mem_zip hz).2
  have o1 := ours_le h (gcA_dvd r l a).2 (hl _ (mem_getD (r := l) (c := a) (by omega)))
  have o2 := ours_le h (gcA_dvd r l a).1 (hr _ (mem_getD (r := r) (c := a) ha))
  generalize (l.getD a 0).fdiv (gcA r l a) = o at *
  generalize (r.getD a 0).fdiv (gcA r l a) = t at *
  have p1 : (o * z.1).natAbs < 2 ^ b * 2 ^ b := by
    rw [Int.natAbs_mul]
    exact Nat.mul_lt_mul'' o1 (hr _ z1)
  have p2 : (t * z.2).natAbs < 2 ^ b * 2 ^ b := by
    rw [Int.natAbs_mul]
    exact Nat.mul_lt_mul'' o2 (hl _ z2)
  have e : 2 ^ (2 * b + 1) = 2 * (2 ^ b * 2 ^ b) := by rw [Nat.pow_succ, Nat.two_mul, Nat.pow_add]; omega
  rw [e]
  omega
theorem mulOk_b {i j : Int} {b : Nat} (hb : b ≤ 8000) (hi : i.natAbs < 2 ^ b) (hj : j.natAbs < 2 ^ b) : mulOk i j = true := by
  have lg : ∀ {x : Int}, x.natAbs < 2 ^ b → x.natAbs.log2 < 8001 := fun {x} hx => by
    by_cases z : x.natAbs = 0
    · rw [z]; decide
    · have := (Nat.log2_lt z).mpr hx
      omega
  have h1 := lg hi
  have h2 := lg hj
  unfold mulOk
  rw [decide_eq_true (show i.natAbs.log2 + j.natAbs.log2 < 1000000 by omega), Bool.or_true]
theorem zip_D : ∀ (r l : List Int), zipD (r.map D.int) (l.map D.int) = (r.zip l).map fun z => D.tup [.int z.1, .int z.2]
  | [], l => by simp [zipD]
  | x :: r, [] => by simp [zipD]
  | x :: r, y :: l => by
    rw [List.map_cons, List.map_cons, zipD, zip_D r l]
    rfl
theorem rwI_ix {r : List Int} {c : Nat} (hc : c < r.length) (h : Hc) : ixF (rwI r) (.int (c : Int)) h = .ok (.int (r.getD c 0)) h := by
  have q := ix_sqs true (r.map D.int) (c : Int) h
  rw [atI_of (by omega) (by simp; omega)] at q
  have e2 : (r.map D.int)[(c : Int).toNat]? = some (.int (r.getD c 0)) := by simp [List.getD, hc]
  rw [e2] at q
  exact q
theorem cleared_ok {r l : List Int} {a b : Nat} (hlen : r.length = l.length) (hl1 : r.length ≤ 1000) (ha : a < r.length) (h0 : l.getD a 0 ≠ 0) (hb1 : 1 ≤ b) (hb : 2 * b + 1 ≤ 8000) (hr : ∀ x ∈ r, x.natAbs < 2 ^ b) (hl : ∀ x ∈ l, x.natAbs < 2 ^ b) (h : Hc) : callL m_cleared [rwI r, rwI l, .int (a : Int)] h = .ok (rwI (clI r l a)) h := by
  have i1 := fun h => rwI_ix (r := r) ha h
  have i2 := fun h => rwI_ix (r := l) (c := a) (by omega) h
  have m1 := hr _ (mem_getD (r := r) (c := a) ha)
  have m2 := hl _ (mem_getD (r := l) (c := a) (by omega))
  have gp := gcA_pos (r := r) h0
  have gb : (gcA r l a).natAbs < 2 ^ b := by
    have : (gcA r l a).natAbs ≤ (l.getD a 0).natAbs := by
      unfold gcA
      rw [Int.natAbs_natCast]
      exact Nat.le_of_dvd (by omega) (Nat.gcd_dvd_right _ _)
    omega
  have dv : divOk (gcA r l a) = true := divOk_b (by omega) (show b ≤ 8000 by omega) gb
  have o1 := ours_le h0 (gcA_dvd r l a).2 m2
  have o2 := ours_le h0 (gcA_dvd r l a).1 m1
  have ez : ∀ h, zpF [rwI r, rwI l] h = .ok ⟨(r.zip l).map fun z => D.tup [.int z.1, .int z.2], fun _ => true⟩ h := fun h => by
    rw [zpF_seq (h := h) (d := rwI r) (e := rwI l) (us := r.map D.int) (ws := l.map D.int) rfl rfl, zip_D]
    have : chkZ (rwI r) (r.map D.int) (rwI l) (l.map D.int) = fun _ => true := by
      unfold chkZ rwI
      simp
    rw [this]
  have c1 := lcR_mm (chk := fun _ => true) (p := .t ((.n 6) :: ((.n 7) :: []))) (own := [6, 7]) (m := m_cleared_c1) (ds := [some (rwI r), some (rwI l), some (.int (a : Int)), some (.int (gcA r l a)), some (.int ((l.getD a 0).fdiv (gcA r l a))), some (.int ((r.getD a 0).fdiv (gcA r l a))), none, none]) (h := [])
    (fun z : Int × Int => D.tup [.int z.1, .int z.2]) (fun z => D.int ((l.getD a 0).fdiv (gcA r l a) * z.1 - (r.getD a 0).fdiv (gcA r l a) * z.2)) rfl (r.zip l) (by rw [List.length_zip]; omega)
    (fun z hz => by
      have z1 : z.1 ∈ r := (List.of_mem_zip hz).1
      have z2 : z.2 ∈ l := (List.of_mem_zip hz).2
      have k1 := mulOk_b (show b ≤ 8000 by omega) o1 (hr _ z1)
      have k2 := mulOk_b (show b ≤ 8000 by omega) o2 (hl _ z2)
      generalize (l.getD a 0).fdiv (gcA r l a) = o at *
      generalize (r.getD a 0).fdiv (gcA r l a) = t at *
      generalize gcA r l a = g at *
      generalize rwI r = R1 at *
      generalize rwI l = R2 at *
      exact ⟨[some R1, some R2, some (.int (a : Int)), some (.int g), some (.int o), some (.int t), some (.int z.1), some (.int z.2)], by simp [wipeD], by simp [m_cleared_c1, k1, k2]⟩)
  have e2 : ((r.zip l).map fun z => D.int ((l.getD a 0).fdiv (gcA r l a) * z.1 - (r.getD a 0).fdiv (gcA r l a) * z.2)) = (rawA r l a).map D.int := by unfold rawA; rw [List.map_map]; rfl
  rw [e2] at c1
  have lo := fun h => lowered_ok (r := rawA r l a) (by rw [raw_len hlen]; omega) (b := 2 * b + 1) (by omega) hb (raw_bnd hlen ha h0 hr hl) h
  have e3 : rwI (rawA r l a) = .lst ((rawA r l a).map D.int) := rfl
  rw [e3] at lo
  refine call_flat (h' := []) (by simp) ?_ (by simp) h
  unfold m_cleared
  rw [runB_s]
  have eg : ((Nat.gcd (r.getD a 0).natAbs (l.getD a 0).natAbs : Nat) : Int) = gcA r l a := rfl
  have ecl : clI r l a = lowI (rawA r l a) := rfl
  rw [ecl]
  generalize rwI (lowI (rawA r l a)) = RES at *
  generalize (rawA r l a).map D.int = RA at *
  generalize ((r.zip l).map fun z => D.tup [.int z.1, .int z.2]) = ZL at *
  generalize hG : gcA r l a = g at *
  generalize rwI r = R1 at *
  generalize rwI l = R2 at *
  generalize r.getD a 0 = ra at *
  generalize l.getD a 0 = la at *
  simp [i1, i2, eg, iF, dv, ez, c1, lo]
theorem cl_at {r l : List Int} {a : Nat} (h : r.length = l.length) (c : Nat) : (((clI r l a).getD c 0 : Int) : Rat) = (1 / ((shf (rawA r l a) : Int) : Rat) * (((l.getD a 0).fdiv (gcA r l a) : Int) : Rat)) * ((r.getD c 0 : Int) : Rat) + (-(1 / ((shf (rawA r l a) : Int) : Rat)) * (((r.getD a 0).fdiv (gcA r l a) : Int) : Rat)) * ((l.getD c 0 : Int) : Rat) := by
  unfold clI
  rw [low_at, raw_at h, Rat.intCast_sub, Rat.intCast_mul, Rat.intCast_mul]
  grind
theorem cl_zero {r l : List Int} {a : Nat} (h : r.length = l.length) (ha : a < r.length) : (clI r l a).getD a 0 = 0 := by
  have e : (rawA r l a).getD a 0 = 0 := by
    rw [raw_at h]
    obtain ⟨d1, d2⟩ := gcA_dvd r l a
    rw [Int.fdiv_eq_ediv_of_dvd d1, Int.fdiv_eq_ediv_of_dvd d2]
    obtain ⟨u, hu⟩ := d1
    obtain ⟨v, hv⟩ := d2
    by_cases g0 : gcA r l a = 0
    · rw [g0] at hu hv
      rw [hu, hv]; simp
    · have e1 : r.getD a 0 / gcA r l a = u := by rw [hu]; exact Int.mul_ediv_cancel_left _ g0
      have e2 : l.getD a 0 / gcA r l a = v := by rw [hv]; exact Int.mul_ediv_cancel_left _ g0
      rw [e1, e2, hu, hv]
      have : v * (gcA r l a * u) = u * (gcA r l a * v) := by
        rw [Int.mul_left_comm, Int.mul_left_comm u, Int.mul_comm v u]
      omega
  unfold clI lowI
  have hl : a < (rawA r l a).length := by rw [raw_len h]; exact ha
  have e2 : (rawA r l a)[a]? = some 0 := by
    rw [List.getElem?_eq_getElem hl]
    congr 1
    simp [List.getD, hl] at e
    exact e
  simp [List.getD, e2]
theorem cl_len {r l : List Int} {a : Nat} (h : r.length = l.length) : (clI r l a).length = r.length := by
  unfold clI
  rw [low_len, raw_len h]
end Mp
/-! SolC: the program solves. -/
namespace Mp
open PySem PySem.Spec PyProof.Rows L2
abbrev Wk := Nat → List Int
def lstN (n : Nat) (W : Wk) : List D := (List.range n).map fun i => rwI (W i)
def updW (W : Wk) (i : Nat) (v : List Int) : Wk := fun j => if j = i then v else W j
theorem lstN_len (n : Nat) (W : Wk) : (lstN n W).length = n := by unfold lstN; simp
theorem flat_lstN (n : Nat) (W : Wk) : flatL (lstN n W) = true := flatL_map _ (fun i => flat_rwI _) _
theorem lstN_at {n : Nat} {W : Wk} {i : Nat} (hi : i < n) : atI (lstN n W) (i : Int) = some (rwI (W i)) := by
  rw [atI_of (by omega) (by rw [lstN_len]; omega)]
  unfold lstN
  simp [hi]
theorem lstN_get (n : Nat) (W : Wk) (j : Nat) : (lstN n W)[j]? = if j < n then some (rwI (W j)) else none := by
  unfold lstN
  by_cases h : j < n
  · simp [h]
  · simp [h]
theorem lstN_set {n : Nat} {W : Wk} {i : Nat} (hi : i < n) (v : List Int) : (lstN n W).set i (rwI v) = lstN n (updW W i v) := by
  apply List.ext_getElem?
  intro j
  rw [List.getElem?_set, lstN_get, lstN_get, lstN_len]
  by_cases e : i = j
  · subst e
    rw [if_pos rfl, if_pos hi, if_pos hi]
    have : updW W i v i = v := if_pos rfl
    rw [this]
  · rw [if_neg e]
    have : updW W i v j = W j := if_neg (fun z => e z.symm)
    rw [this]
theorem upFrom_x (lo : Int) (n : Nat) : upFrom lo (n + 1) = D.int lo :: upFrom (lo + 1) n := by
  unfold upFrom
  rw [List.range_succ_eq_map, List.map_cons, List.map_map]
  congr 1
  · simp
  · refine List.map_congr_left fun i _ => ?_
    simp only [Function.comp]
    congr 1
    push_cast
    omega
def mxW (W : Wk) : Mx := fun i c => (((W i).getD c 0 : Int) : Rat)
/-- n lines of n + 1 numbers below 2^b -/
structure WOkk (n b : Nat) (W : Wk) : Prop where
  len : ∀ i, i < n → (W i).length = n + 1
  bnd : ∀ i, i < n → ∀ x ∈ W i, x.natAbs < 2 ^ b
theorem place_raw {n : Nat} {W : Wk} (hl : ∀ i, i < n → (W i).length = n + 1) {k : Nat} : ∀ (t p fuel : Nat), p + t < n → k < n → (∀ i, p ≤ i → i < p + t → (W i).getD k 0 = 0) → (W (p + t)).getD k 0 ≠ 0 → t < fuel →
    wl (bEx (eOp eqF (eOp ixF (eOp ixF (eVar 0) (eVar 2)) (eVar 1)) (eC (.int 0)))) m_lead_place_l1 fuel [some (.ref 0), some (.int (k : Int)), some (.int (p : Int))] [.lst (lstN n W)] = .nx [some (.ref 0), some (.int (k : Int)), some (.int ((p + t : Nat) : Int))] [.lst (lstN n W)]
  | 0, p, fuel, hp, hk, hz, hne, hf => by
    obtain ⟨m, rfl⟩ : ∃ m, fuel = m + 1 := ⟨fuel - 1, by omega⟩
    have ix := ixF_ref (n := 0) (i := (p : Int)) (xs := lstN n W) (h := [.lst (lstN n W)]) rfl
    rw [lstN_at (by omega)] at ix
    have i2 := fun h => rwI_ix (r := W p) (c := k) (by rw [hl p (by omega)]; omega) h
    have hne' : ¬ (W p).getD k 0 = 0 := hne
    refine wl_stop (h1 := [.lst (lstN n W)]) ?_
    generalize (W p).getD k 0 = v at *
    generalize rwI (W p) = RW at *
    generalize lstN n W = LW at *
    simp [ix, i2, hne']
  | t + 1, p, fuel, hp, hk, hz, hne, hf => by
    obtain ⟨m, rfl⟩ : ∃ m, fuel = m + 1 := ⟨fuel - 1, by omega⟩
    have ih := place_raw hl (k := k) t (p + 1) m (by omega) hk (fun i h1 h2 => hz i (by omega) (by omega)) (by rw [show p + 1 + t = p + (t + 1) by omega]; exact hne) (by omega)
    have ix := ixF_ref (n := 0) (i := (p : Int)) (xs := lstN n W) (h := [.lst (lstN n W)]) rfl
    rw [lstN_at (by omega)] at ix
    have i2 := fun h => rwI_ix (r := W p) (c := k) (by rw [hl p (by omega)]; omega) h
    have hz0 := hz p (Nat.le_refl _) (by omega)
    rw [hz0] at i2
    rw [show p + 1 + t = p + (t + 1) by omega] at ih
    have ep : ((p + 1 : Nat) : Int) = (p : Int) + 1 := by push_cast; rfl
    rw [ep] at ih
    refine (wl_nx (h1 := [.lst (lstN n W)]) ?_ ?_).trans ih
    · generalize rwI (W p) = RW at *
      generalize lstN n W = LW at *
      simp [ix, i2]
    · generalize lstN n W = LW at *
      simp [m_lead_place_l1]
theorem place_ok {n : Nat} (hn : n ≤ 1000) {W : Wk} (hl : ∀ i, i < n → (W i).length = n + 1) {k : Nat} (hk : k < n) (ex : ∃ p, k ≤ p ∧ p < n ∧ (W p).getD k 0 ≠ 0) {q : Nat} {h : Hc} (hq : h[q]? = some (.lst (lstN n W))) :
    ∃ p, k ≤ p ∧ p < n ∧ (W p).getD k 0 ≠ 0 ∧ callL m_lead_place [.ref q, .int (k : Int)] h = .ok (.int (p : Int)) h := by
  obtain ⟨t, h1, h2, h3⟩ : ∃ t, k + t < n ∧ (W (k + t)).getD k 0 ≠ 0 ∧ ∀ i, k ≤ i → i < k + t → (W i).getD k 0 = 0 := by
    have go : ∀ d, (k + d < n ∧ (W (k + d)).getD k 0 ≠ 0) → ∃ t, k + t < n ∧ (W (k + t)).getD k 0 ≠ 0 ∧ ∀ i, k ≤ i → i < k + t → (W i).getD k 0 = 0 := by
      intro d
      induction d using Nat.strongRecOn with
      | ind d ih =>
        rintro ⟨a1, a2⟩
        by_cases z : ∃ i, k ≤ i ∧ i < k + d ∧ (W i).getD k 0 ≠ 0
        · obtain ⟨i, b1, b2, b3⟩ := z
          refine ih (i - k) (by omega) ?_
          rw [show k + (i - k) = i by omega]
          exact ⟨by omega, b3⟩
        · refine ⟨d, a1, a2, fun i b1 b2 => ?_⟩
          by_cases z2 : (W i).getD k 0 = 0
          · exact z2
          · exact absurd ⟨i, b1, b2, z2⟩ z
    obtain ⟨p, a1, a2, a3⟩ := ex
    exact go (p - k) (by rw [show k + (p - k) = p by omega]; exact ⟨a2, a3⟩)
  refine ⟨k + t, by omega, h1, h2, ?_⟩
  have e1 := place_raw hl (k := k) t k 100000 h1 hk h3 h2 (by omega)
  have raw : m_lead_place [.ref 0, .int (k : Int)] [.lst (lstN n W)] = .ok (.int ((k + t : Nat) : Int)) [.lst (lstN n W)] := by
    unfold m_lead_place
    rw [runB_s]
    generalize lstN n W = LW at *
    simp [e1]
  have c := call_ref1 (m := m_lead_place) (as := [.ref q, .int (k : Int)]) (as' := [.ref 0, .int (k : Int)]) (i := q) (c := .lst (lstN n W)) (c' := .lst (lstN n W)) (h := h) (h' := [.lst (lstN n W)]) (d0 := .int ((k + t : Nat) : Int)) (d := .int ((k + t : Nat) : Int)) (by simp [refsOf]) (by simp [renL, renD]) hq (flat_lstN n W) raw rfl (flat_lstN n W) (frzD_flat rfl)
  rw [c]
  congr 1
  apply List.ext_getElem?
  intro i
  rw [List.getElem?_set]
  split
  · rename_i e
    subst e
    split
    · exact hq.symm
    · rename_i hn
      rw [List.getElem?_eq_none (by omega)] at hq
      cases hq
  · rfl
/-- one column is cleared -/
def fW (W : Wk) (k i : Nat) : List Int := if i ≠ k ∧ (W i).getD k 0 ≠ 0 then clI (W i) (W k) k else W i
def parW (W : Wk) (k c : Nat) : Wk := fun i => if i < c then fW W k i else W i
def swW (W : Wk) (k p : Nat) : Wk := fun i => W (swp k p i)
theorem clear_loop {n b : Nat} {W : Wk} (O : WOkk n b W) {k : Nat} (hk : k < n) (hn : n ≤ 900) (hb1 : 1 ≤ b) (hb : 2 * b + 1 ≤ 8000) (hpv : (W k).getD k 0 ≠ 0) {H : Hc} (x0 x4 x6 : Option D) : ∀ (t i : Nat) (x5 : Option D), i + t = n → ∃ y5,
    fl (fun _ => true) (.n 5) m_solved_l1 (upFrom (i : Int) t) [x0, some (.ref H.length), some (.int (n : Int)), some (.int (k : Int)), x4, x5, x6] (H ++ [.lst (lstN n (parW W k i))]) =
      .nx [x0, some (.ref H.length), some (.int (n : Int)), some (.int (k : Int)), x4, y5, x6] (H ++ [.lst (lstN n (parW W k n))])
  | 0, i, x5, hi => by
    have : i = n := by omega
    subst this
    exact ⟨x5, fl_end rfl⟩
  | t + 1, i, x5, hi => by
    have hi' : i < n := by omega
    obtain ⟨y5, ih⟩ := clear_loop O hk hn hb1 hb hpv (H := H) x0 x4 x6 t (i + 1) (some (.int (i : Int))) (by omega)
    refine ⟨y5, ?_⟩
    have ei : ((i + 1 : Nat) : Int) = (i : Int) + 1 := by push_cast; rfl
    rw [ei] at ih
    rw [upFrom_x]
    refine Eq.trans (fl_n (b := m_solved_l1) ?_) ih
    have gq : (H ++ [C.lst (lstN n (parW W k i))])[H.length]? = some (.lst (lstN n (parW W k i))) := by simp
    have ixi := ixF_ref (n := H.length) (i := (i : Int)) (xs := lstN n (parW W k i)) (h := H ++ [C.lst (lstN n (parW W k i))]) gq
    rw [lstN_at hi'] at ixi
    have ixk := ixF_ref (n := H.length) (i := (k : Int)) (xs := lstN n (parW W k i)) (h := H ++ [C.lst (lstN n (parW W k i))]) gq
    rw [lstN_at hk] at ixk
    have ewi : parW W k i i = W i := by unfold parW; rw [if_neg (by omega)]
    have ewk : parW W k i k = W k := by
      unfold parW fW
      split
      · rw [if_neg (fun z => z.1 rfl)]
      · rfl
    rw [ewi] at ixi
    rw [ewk] at ixk
    have j1 := fun h => rwI_ix (r := W i) (c := k) (by rw [O.len i hi']; omega) h
    have ew : parW W k (i + 1) = updW (parW W k i) i (fW W k i) := by
      funext j
      unfold parW updW
      by_cases e : j = i
      · subst e
        rw [if_pos (by omega), if_pos rfl]
      · rw [if_neg e]
        show (if j < i + 1 then fW W k j else W j) = if j < i then fW W k j else W j
        by_cases c : j < i
        · rw [if_pos c, if_pos (by omega)]
        · rw [if_neg c, if_neg (by omega)]
    have eself : lstN n (updW (parW W k i) i (W i)) = lstN n (parW W k i) := by
      congr 1
      funext j
      unfold updW
      split
      · rename_i e; subst e; exact ewi.symm
      · rfl
    have hne : ((i : Int) = (k : Int)) ↔ i = k := by omega
    by_cases q : i ≠ k ∧ (W i).getD k 0 ≠ 0
    · obtain ⟨q1, q2⟩ := q
      have efw : fW W k i = clI (W i) (W k) k := by unfold fW; rw [if_pos ⟨q1, q2⟩]
      have cl := fun h => cleared_ok (r := W i) (l := W k) (a := k) (b := b) (by rw [O.len i hi', O.len k hk]) (by rw [O.len i hi']; omega) (by rw [O.len i hi']; omega) hpv hb1 hb (O.bnd i hi') (O.bnd k hk) h
      have st := setF_ok (n := H.length) (xs := lstN n (parW W k i)) (h := H ++ [C.lst (lstN n (parW W k i))]) (i := (i : Int)) (x := rwI (clI (W i) (W k) k)) gq (by omega) (by rw [lstN_len]; omega)
      rw [Int.toNat_natCast, lstN_set hi', List.set_append_right _ _ (Nat.le_refl _), Nat.sub_self] at st
      have st2 : setF (.ref H.length) (.int (i : Int)) (rwI (clI (W i) (W k) k)) (H ++ [C.lst (lstN n (parW W k i))]) = some (H ++ [C.lst (lstN n (updW (parW W k i) i (clI (W i) (W k) k)))]) := st
      rw [ew, efw]
      have q1' : ¬ ((i : Int) = (k : Int)) := by omega
      generalize (W i).getD k 0 = v at *
      generalize rwI (clI (W i) (W k) k) = CL at *
      generalize rwI (W i) = RI at *
      generalize rwI (W k) = RK at *
      generalize H ++ [C.lst (lstN n (updW (parW W k i) i (clI (W i) (W k) k)))] = H2 at *
      generalize H ++ [C.lst (lstN n (parW W k i))] = H1 at *
      simp [m_solved_l1, q1', q1, ixi, j1, q2, ixk, cl, st2]
    · have efw : fW W k i = W i := by unfold fW; rw [if_neg q]
      rw [ew, efw, eself]
      generalize (W i).getD k 0 = v at *
      generalize rwI (W i) = RI at *
      generalize rwI (W k) = RK at *
      generalize H ++ [C.lst (lstN n (parW W k i))] = H1 at *
      by_cases e : i = k
      · subst e
        simp [m_solved_l1]
      · have e' : ¬ ((i : Int) = (k : Int)) := by omega
        have v0 : v = 0 := by
          by_cases z : v = 0
          · exact z
          · exact absurd ⟨e, z⟩ q
        simp [m_solved_l1, e', e, ixi, j1, v0]
theorem par_stp {n b : Nat} {W : Wk} (O : WOkk n b W) {k p : Nat} (hk : k < n) (hkp : k ≤ p) (hp : p < n) (hpv : (W p).getD k 0 ≠ 0) : Stp n k p (mxW W) (mxW (parW (swW W k p) k n)) := by
  have sk : swp k p k = p := by unfold swp; rw [if_pos rfl]
  have rk : parW (swW W k p) k n k = W p := by
    unfold parW fW swW
    rw [if_pos hk, if_neg (fun z => z.1 rfl), sk]
  have hpv' : ((W p).getD k 0 : Rat) ≠ 0 := by exact_mod_cast hpv
  refine ⟨hk, hkp, hp, hpv', ⟨1, by decide, fun c hc => ?_⟩, fun i hi hne => ?_⟩
  · unfold mxW
    rw [rk]
    grind
  · have hs := swp_lt hk hp hi
    have ri : parW (swW W k p) k n i = if (W (swp k p i)).getD k 0 ≠ 0 then clI (W (swp k p i)) (W p) k else W (swp k p i) := by
      unfold parW fW swW
      rw [if_pos hi, sk]
      by_cases z : (W (swp k p i)).getD k 0 ≠ 0
      · rw [if_pos ⟨hne, z⟩, if_pos z]
      · rw [if_neg (fun y => z y.2), if_neg z]
    have hlen : (W (swp k p i)).length = (W p).length := by rw [O.len _ hs, O.len p hp]
    unfold mxW
    rw [ri]
    by_cases z : (W (swp k p i)).getD k 0 ≠ 0
    · rw [if_pos z]
      refine ⟨by rw [cl_zero hlen (by rw [O.len _ hs]; omega)]; rfl, _, _, ?_, fun c hc => cl_at hlen c⟩
      have s1 := shf_pos (rawA (W (swp k p i)) (W p) k)
      have g1 := gcA_pos (r := W (swp k p i)) hpv
      obtain ⟨_, d2⟩ := gcA_dvd (W (swp k p i)) (W p) k
      intro zz
      rcases Rat.mul_eq_zero.mp zz with y | y
      · have hs0 : ((shf (rawA (W (swp k p i)) (W p) k) : Int) : Rat) ≠ 0 := by
          intro w
          have : shf (rawA (W (swp k p i)) (W p) k) = 0 := by exact_mod_cast w
          omega
        generalize ((shf (rawA (W (swp k p i)) (W p) k) : Int) : Rat) = s at *
        grind
      · have y' : ((W p).getD k 0).fdiv (gcA (W (swp k p i)) (W p) k) = 0 := by exact_mod_cast y
        rw [Int.fdiv_eq_ediv_of_dvd d2] at y'
        have := Int.ediv_mul_cancel d2
        rw [y', Int.zero_mul] at this
        exact hpv this.symm
    · rw [if_neg z]
      have z' : (W (swp k p i)).getD k 0 = 0 := by
        by_cases y : (W (swp k p i)).getD k 0 = 0
        · exact y
        · exact absurd y z
      refine ⟨by rw [z']; rfl, 1, 0, by decide, fun c hc => by grind⟩
theorem par_ok {n b : Nat} {W : Wk} (O : WOkk n b W) {k p : Nat} (hk : k < n) (hp : p < n) (hpv : (W p).getD k 0 ≠ 0) : WOkk n (2 * b + 1) (parW (swW W k p) k n) := by
  have sk : swp k p k = p := by unfold swp; rw [if_pos rfl]
  have up : 2 ^ b ≤ 2 ^ (2 * b + 1) := Nat.pow_le_pow_right (by decide) (by omega)
  refine ⟨fun i hi => ?_, fun i hi x hx => ?_⟩
  · have hs := swp_lt hk hp hi
    unfold parW fW swW
    rw [if_pos hi, sk]
    split
    · rw [cl_len (by rw [O.len _ hs, O.len p hp]), O.len _ hs]
    · exact O.len _ hs
  · have hs := swp_lt hk hp hi
    unfold parW fW swW at hx
    rw [if_pos hi, sk] at hx
    split at hx
    · refine low_bnd (raw_bnd (by rw [O.len _ hs, O.len p hp]) (by rw [O.len _ hs]; omega) hpv (O.bnd _ hs) (O.bnd p hp)) x hx
    · have := O.bnd _ hs x hx
      omega
theorem solve_loop {n : Nat} (hn : n ≤ 900) {m0 : Mx} (N : NSing n m0) {H : Hc} (x0 x6 : Option D) : ∀ (t k b : Nat) (W : Wk) (x3 x4 x5 : Option D), k + t = n → WOkk n b W → 1 ≤ b → (b + 1) * 2 ^ t ≤ 8000 → Clr n k m0 (mxW W) → ∃ (W' : Wk) (y3 y4 y5 : Option D),
    fl (fun _ => true) (.n 3) m_solved_l2 (upFrom (k : Int) t) [x0, some (.ref H.length), some (.int (n : Int)), x3, x4, x5, x6] (H ++ [.lst (lstN n W)]) =
      .nx [x0, some (.ref H.length), some (.int (n : Int)), y3, y4, y5, x6] (H ++ [.lst (lstN n W')]) ∧ (∃ B, B + 1 ≤ (b + 1) * 2 ^ t ∧ WOkk n B W') ∧ Clr n n m0 (mxW W')
  | 0, k, b, W, x3, x4, x5, hk, O, hb1, hb, I => by
    have : k = n := by omega
    subst this
    exact ⟨W, x3, x4, x5, fl_end rfl, ⟨b, by simp, O⟩, I⟩
  | t + 1, k, b, W, x3, x4, x5, hk, O, hb1, hb, I => by
    have hk' : k < n := by omega
    have e22 : (b + 1) * 2 ^ (t + 1) = (2 * b + 1 + 1) * 2 ^ t := by
      rw [Nat.pow_succ, ← Nat.mul_assoc, Nat.mul_right_comm]
      congr 1
      omega
    have hb2 : 2 * b + 1 + 1 ≤ 8000 ∧ (2 * b + 1 + 1) * 2 ^ t ≤ 8000 := by
      have e : (b + 1) * 2 ^ (t + 1) = (2 * b + 1 + 1) * 2 ^ t := by
        rw [Nat.pow_succ, ← Nat.mul_assoc, Nat.mul_right_comm]
        congr 1
        omega
      rw [e] at hb
      have := Nat.le_mul_of_pos_right (2 * b + 1 + 1) (Nat.two_pow_pos t)
      omega
    obtain ⟨p0, q1, q2, q3⟩ := I.pivot hk' N
    have q3' : (W p0).getD k 0 ≠ 0 := by
      intro z
      apply q3
      unfold mxW
      rw [z]; rfl
    have gq : (H ++ [C.lst (lstN n W)])[H.length]? = some (.lst (lstN n W)) := by simp
    obtain ⟨p, p1, p2, p3, e1⟩ := place_ok (show n ≤ 1000 by omega) O.len hk' ⟨p0, q1, q2, q3'⟩ gq
    have ixp := ixF_ref (n := H.length) (i := (p : Int)) (xs := lstN n W) (h := H ++ [C.lst (lstN n W)]) gq
    rw [lstN_at p2] at ixp
    have ixk := ixF_ref (n := H.length) (i := (k : Int)) (xs := lstN n W) (h := H ++ [C.lst (lstN n W)]) gq
    rw [lstN_at hk'] at ixk
    have st1 := setF_ok (n := H.length) (xs := lstN n W) (h := H ++ [C.lst (lstN n W)]) (i := (k : Int)) (x := rwI (W p)) gq (by omega) (by rw [lstN_len]; omega)
    rw [Int.toNat_natCast, lstN_set hk', List.set_append_right _ _ (Nat.le_refl _), Nat.sub_self] at st1
    have st1' : setF (.ref H.length) (.int (k : Int)) (rwI (W p)) (H ++ [C.lst (lstN n W)]) = some (H ++ [C.lst (lstN n (updW W k (W p)))]) := st1
    have gq2 : (H ++ [C.lst (lstN n (updW W k (W p)))])[H.length]? = some (.lst (lstN n (updW W k (W p)))) := by simp
    have st2 := setF_ok (n := H.length) (xs := lstN n (updW W k (W p))) (h := H ++ [C.lst (lstN n (updW W k (W p)))]) (i := (p : Int)) (x := rwI (W k)) gq2 (by omega) (by rw [lstN_len]; omega)
    rw [Int.toNat_natCast, lstN_set p2, List.set_append_right _ _ (Nat.le_refl _), Nat.sub_self] at st2
    have esw : updW (updW W k (W p)) p (W k) = swW W k p := by
      funext i
      unfold updW swW swp
      by_cases a : i = p
      · subst a
        rw [if_pos rfl]
        by_cases c : i = k
        · rw [if_pos c, c]
        · rw [if_neg c, if_pos rfl]
      · rw [if_neg a]
        show (if i = k then W p else W i) = _
        by_cases c : i = k
        · rw [if_pos c, if_pos c]
        · rw [if_neg c, if_neg c, if_neg a]
    rw [esw] at st2
    have st2' : setF (.ref H.length) (.int (p : Int)) (rwI (W k)) (H ++ [C.lst (lstN n (updW W k (W p)))]) = some (H ++ [C.lst (lstN n (swW W k p))]) := st2
    have sk : swp k p k = p := by unfold swp; rw [if_pos rfl]
    have Osw : WOkk n b (swW W k p) := ⟨fun i hi => O.len _ (swp_lt hk' p2 hi), fun i hi => O.bnd _ (swp_lt hk' p2 hi)⟩
    have hpv : (swW W k p k).getD k 0 ≠ 0 := by unfold swW; rw [sk]; exact p3
    obtain ⟨y5, e2⟩ := clear_loop Osw hk' hn hb1 (by omega) hpv (H := H) x0 (some (.int (p : Int))) x6 n 0 x5 (by omega)
    have ep0 : parW (swW W k p) k 0 = swW W k p := by
      funext i
      unfold parW
      rw [if_neg (by omega)]
    rw [ep0] at e2
    obtain ⟨W', y3, y4, z5, ih, r1, r2⟩ := solve_loop hn N (H := H) x0 x6 t (k + 1) (2 * b + 1) (parW (swW W k p) k n) (some (.int (k : Int))) (some (.int (p : Int))) y5 (by omega) (par_ok O hk' p2 p3) (by omega) hb2.2 (I.step (par_stp O hk' p1 p2 p3))
    refine ⟨W', y3, y4, z5, ?_, by rw [e22]; exact r1, r2⟩
    have ei : ((k + 1 : Nat) : Int) = (k : Int) + 1 := by push_cast; rfl
    rw [ei] at ih
    rw [upFrom_x]
    refine Eq.trans (fl_n (b := m_solved_l2) ?_) ih
    have er : ∀ h, rg1F [.int (n : Int)] h = .ok ⟨upFrom 0 n, fun _ => true⟩ h := fun h => by
      rw [rg1F_int, if_pos (rgOk_nat (by omega)), Int.toNat_natCast]
    have e0 : upFrom ((0 : Nat) : Int) n = upFrom 0 n := rfl
    rw [e0] at e2
    generalize H ++ [C.lst (lstN n (parW (swW W k p) k n))] = H4 at *
    generalize H ++ [C.lst (lstN n (swW W k p))] = H3 at *
    generalize H ++ [C.lst (lstN n (updW W k (W p)))] = H2 at *
    generalize H ++ [C.lst (lstN n W)] = H1 at *
    generalize rwI (W p) = RP at *
    generalize rwI (W k) = RK at *
    generalize upFrom 0 n = UF at *
    simp [m_solved_l2, sSw, e1, ixp, ixk, st1', st2', er, e2]
/-- the lines stand in a list or a cell -/
theorem solved_raw {n : Nat} (h1 : 1 ≤ n) (hn : n ≤ 12) {b : Nat} {W : Wk} (O : WOkk n b W) (hb1 : 1 ≤ b) (hb : (b + 1) * 2 ^ n ≤ 8000) (N : NSing n (mxW W)) {U : D} {h : Hc} (hs : seqD h U = some (lstN n W)) :
    ∃ (x : Nat → Rat) (h' : Hc), satM n 1 (mxW W) x ∧ m_solved [U] h = .ok (.tup ((List.range n).map fun i => qD (x i))) h' ∧ (∃ B, B + 1 ≤ (b + 1) * 2 ^ n ∧ ∀ i, i < n → qs B (x i)) ∧ ∃ c, h' = h ++ [c] := by
  let W0 : Wk := fun i => lowI (W i)
  have O0 : WOkk n b W0 := ⟨fun i hi => by show (lowI (W i)).length = _; rw [low_len, O.len i hi], fun i hi => low_bnd (O.bnd i hi)⟩
  have hb8 : b ≤ 8000 := by
    have := Nat.le_mul_of_pos_right (b + 1) (Nat.two_pow_pos n)
    omega
  have row_sat : ∀ t x i, satL n t (mxW W0 i) x ↔ satL n t (mxW W i) x := fun t x i => by
    have hp := shf_pos (W i)
    refine sat_scale (a := 1 / ((shf (W i) : Int) : Rat)) ?_ fun c _ => low_at (W i) c
    intro z
    have hs0 : ((shf (W i) : Int) : Rat) ≠ 0 := by
      intro w
      have : shf (W i) = 0 := by exact_mod_cast w
      omega
    generalize ((shf (W i) : Int) : Rat) = s at *
    grind
  have I : Clr n 0 (mxW W) (mxW W0) := ⟨fun t x => ⟨fun q i hi => (row_sat t x i).mp (q i hi), fun q i hi => (row_sat t x i).mpr (q i hi)⟩, fun c i hc => by omega, fun c hc => by omega⟩
  have hck : chkQ U (lstN n W) h = true := chkQ_of hs
  have c1 := lcR_mm (chk := chkQ U (lstN n W)) (p := .n 6) (own := [6]) (m := m_solved_c1) (ds := [some U, none, none, none, none, none, none]) (h := h) (fun i => rwI (W i)) (fun i => rwI (lowI (W i))) hck (List.range n) (by rw [List.length_range]; omega)
    (fun i hi => ⟨_, bindP_n .., by
      have hi' := List.mem_range.mp hi
      have e := fun h => lowered_ok (r := W i) (by rw [O.len i hi']; omega) hb1 hb8 (O.bnd i hi') h
      generalize rwI (lowI (W i)) = RL at *
      generalize rwI (W i) = RW at *
      simp [m_solved_c1, e]⟩)
  have c1' : lcR (chkQ U (lstN n W)) (.n 6) [6] (fun _ h => .ok true h) m_solved_c1 [some U, none, none, none, none, none, none] (lstN n W) [] h = .ok (lstN n W0) h := c1
  obtain ⟨W', y3, y4, y5, e2, ⟨B, hB, O'⟩, I'⟩ := solve_loop (by omega) N (H := h) (some U) none n 0 b W0 none none none (by omega) O0 hb1 hb I
  have gq : (h ++ [C.lst (lstN n W0)])[h.length]? = some (.lst (lstN n W0)) := by simp
  have hlen := lenF_ref (n := h.length) (h := h ++ [C.lst (lstN n W0)]) (xs := lstN n W0) gq
  rw [lstN_len] at hlen
  have gq2 : (h ++ [C.lst (lstN n W')])[h.length]? = some (.lst (lstN n W')) := by simp
  have c2 := lcR_mm (chk := fun _ => true) (p := .n 5) (own := [5]) (m := m_solved_c2) (ds := [some U, some (.ref h.length), some (.int (n : Int)), y3, y4, y5, none]) (h := h ++ [.lst (lstN n W')]) (fun (i : Nat) => D.int (i : Int)) (fun i => qD (mxW W' i n / mxW W' i i)) rfl (List.range n) (by rw [List.length_range]; omega)
    (fun i hi => ⟨_, bindP_n .., by
      have hi' := List.mem_range.mp hi
      have ix := ixF_ref (n := h.length) (i := (i : Int)) (xs := lstN n W') (h := h ++ [C.lst (lstN n W')]) gq2
      rw [lstN_at hi'] at ix
      have i1 := fun h => rwI_ix (r := W' i) (c := n) (by rw [O'.len i hi']; omega) h
      have i2 := fun h => rwI_ix (r := W' i) (c := i) (by rw [O'.len i hi']; omega) h
      have d0 := I'.dia i hi'
      have d0' : (W' i).getD i 0 ≠ 0 := by
        intro z
        apply d0
        unfold mxW
        rw [z]; rfl
      have hm := O'.bnd i hi' _ (mem_getD (r := W' i) (c := i) (by rw [O'.len i hi']; omega))
      have hm2 : ((W' i).getD i 0).natAbs < 2 ^ 8000 := Nat.lt_of_lt_of_le hm (Nat.pow_le_pow_right (by decide) (show B ≤ 8000 by omega))
      have e := fun h => reduced_ok (n := (W' i).getD n 0) d0' hm2 h
      rw [rdc_q _ d0'] at e
      unfold mxW
      generalize qD ((((W' i).getD n 0 : Int) : Rat) / (((W' i).getD i 0 : Int) : Rat)) = QR at *
      generalize rwI (W' i) = RW at *
      generalize (W' i).getD n 0 = vn at *
      generalize (W' i).getD i 0 = vi at *
      generalize h ++ [C.lst (lstN n W')] = H1 at *
      simp [m_solved_c2, ix, i1, i2, e]⟩)
  refine ⟨fun i => mxW W' i n / mxW W' i i, h ++ [.lst (lstN n W')], I'.done, ?_, ⟨B, hB, fun i hi => ?_⟩, _, rfl⟩
  rotate_left
  · have d0 := I'.dia i hi
    have d0' : (W' i).getD i 0 ≠ 0 := by
      intro z
      apply d0
      unfold mxW
      rw [z]; rfl
    exact qs_div d0' (O'.bnd i hi _ (mem_getD (r := W' i) (c := n) (by rw [O'.len i hi]; omega))) (O'.bnd i hi _ (mem_getD (r := W' i) (c := i) (by rw [O'.len i hi]; omega)))
  have er : ∀ h, rg1F [.int (n : Int)] h = .ok ⟨upFrom 0 n, fun _ => true⟩ h := fun h => by
    rw [rg1F_int, if_pos (rgOk_nat (by omega)), Int.toNat_natCast]
  have e0 : upFrom ((0 : Nat) : Int) n = upFrom 0 n := rfl
  rw [e0] at e2
  have eu : (List.range n).map (fun (i : Nat) => D.int (i : Int)) = upFrom 0 n := by
    unfold upFrom
    simp
  rw [eu] at c2
  unfold m_solved
  rw [runB_s]
  generalize ((List.range n).map fun i => qD (mxW W' i n / mxW W' i i)) = QL at *
  generalize h ++ [C.lst (lstN n W')] = H2 at *
  generalize hW0 : lstN n W0 = LW at *
  generalize lstN n W = LV at *
  generalize upFrom 0 n = UF at *
  simp [hs, c1', hlen, er, e2, c2, tupleF]
theorem flat_qs (n : Nat) (x : Nat → Rat) : flat (.tup ((List.range n).map fun i => qD (x i))) = true := by
  rw [flat_tup]
  exact flatL_map _ (fun i => rfl) _
theorem solved_lst {n : Nat} (h1 : 1 ≤ n) (hn : n ≤ 12) {b : Nat} {W : Wk} (O : WOkk n b W) (hb1 : 1 ≤ b) (hb : (b + 1) * 2 ^ n ≤ 8000) (N : NSing n (mxW W)) : ∃ x, satM n 1 (mxW W) x ∧ ∀ h, callL m_solved [.lst (lstN n W)] h = .ok (.tup ((List.range n).map fun i => qD (x i))) h := by
  obtain ⟨x, h', s, e, _, _⟩ := solved_raw h1 hn O hb1 hb N (U := .lst (lstN n W)) (h := []) rfl
  exact ⟨x, s, fun h => call_flat (by simp [flat_lstN]) e (flat_qs n x) h⟩
theorem solved_refb {n : Nat} (h1 : 1 ≤ n) (hn : n ≤ 12) {b : Nat} {W : Wk} (O : WOkk n b W) (hb1 : 1 ≤ b) (hb : (b + 1) * 2 ^ n ≤ 8000) (N : NSing n (mxW W)) : ∃ x, satM n 1 (mxW W) x ∧ (∃ B, B + 1 ≤ (b + 1) * 2 ^ n ∧ ∀ i, i < n → qs B (x i)) ∧ ∀ (j : Nat) (h : Hc), h[j]? = some (.lst (lstN n W)) → callL m_solved [.ref j] h = .ok (.tup ((List.range n).map fun i => qD (x i))) h := by
  obtain ⟨x, h', s, e, sz, c, eh⟩ := solved_raw h1 hn O hb1 hb N (U := .ref 0) (h := [.lst (lstN n W)]) (by simp [seqD])
  refine ⟨x, s, sz, fun j h hj => ?_⟩
  have cc := call_ref1 (m := m_solved) (as := [.ref j]) (as' := [.ref 0]) (i := j) (c := .lst (lstN n W)) (c' := .lst (lstN n W)) (h := h) (h' := h') (d0 := .tup ((List.range n).map fun i => qD (x i))) (d := .tup ((List.range n).map fun i => qD (x i))) (by simp [refsOf]) (by simp [renL, renD]) hj (flat_lstN n W) e (by rw [eh]; rfl) (flat_lstN n W) (frzD_flat (flat_qs n x))
  rw [cc]
  congr 1
  apply List.ext_getElem?
  intro i
  rw [List.getElem?_set]
  split
  · rename_i e
    subst e
    split
    · exact hj.symm
    · rename_i hn
      rw [List.getElem?_eq_none (by omega)] at hj
      cases hj
  · rfl
end Mp
/-! SolD: the law solves. -/
namespace Mp
open PySem PySem.Spec PyProof.Rows L2
section
variable {p q : Rat} {a b : Nat} (x : qs a p) (y : qs b q)
include x y
theorem law_sub_z (hab : a + b ≤ 8000) (h : Hc) : callL m_law_sub [qD p, qD q] h = .ok (qD (p - q)) h := by
  have pd := qpos p
  have qd := qpos q
  have x2 : sm a (p.den : Int) := by unfold sm; simpa using x.2
  have y2 : sm b (q.den : Int) := by unfold sm; simpa using y.2
  refine call_flat (h' := []) (by simp [qD]) ?_ (by simp [qD]) h
  have m1 := mulOk_sm (sm_le (show a ≤ 8000 by omega) x.1) (sm_le (show b ≤ 8000 by omega) y2)
  have m2 := mulOk_sm (sm_le (show b ≤ 8000 by omega) y.1) (sm_le (show a ≤ 8000 by omega) x2)
  have m3 := mulOk_sm (sm_le (show a ≤ 8000 by omega) x2) (sm_le (show b ≤ 8000 by omega) y2)
  have e := red_ok 22 (a := p.num * q.den - q.num * p.den) (d := p.den * q.den) (dden_ne p q) (sm_le hab (sm_mul x2 y2)) []
  rw [rdc_q _ (dden_ne p q), sub_val] at e
  unfold m_law_sub
  rw [runB_s]
  generalize qD (p - q) = R at *
  unfold qD
  simp at e
  simp [m1, m2, m3, e]
theorem law_mul_z (hab : a + b ≤ 8000) (h : Hc) : callL m_law_mul [qD p, qD q] h = .ok (qD (p * q)) h := by
  have x2 : sm a (p.den : Int) := by unfold sm; simpa using x.2
  have y2 : sm b (q.den : Int) := by unfold sm; simpa using y.2
  refine call_flat (h' := []) (by simp [qD]) ?_ (by simp [qD]) h
  have m1 := mulOk_sm (sm_le (show a ≤ 8000 by omega) x.1) (sm_le (show b ≤ 8000 by omega) y.1)
  have m3 := mulOk_sm (sm_le (show a ≤ 8000 by omega) x2) (sm_le (show b ≤ 8000 by omega) y2)
  have e := red_ok 22 (a := p.num * q.num) (d := p.den * q.den) (dden_ne p q) (sm_le hab (sm_mul x2 y2)) []
  rw [rdc_q _ (dden_ne p q), mul_val] at e
  unfold m_law_mul
  rw [runB_s]
  generalize qD (p * q) = R at *
  unfold qD
  simp at e
  simp [m1, m3, e]
theorem law_div_z (hq : q ≠ 0) (hab : a + b ≤ 8000) (h : Hc) : callL m_law_div [qD p, qD q] h = .ok (qD (p / q)) h := by
  have pd := qpos p
  have x2 : sm a (p.den : Int) := by unfold sm; simpa using x.2
  have y2 : sm b (q.den : Int) := by unfold sm; simpa using y.2
  refine call_flat (h' := []) (by simp [qD]) ?_ (by simp [qD]) h
  have m1 := mulOk_sm (sm_le (show a ≤ 8000 by omega) x.1) (sm_le (show b ≤ 8000 by omega) y2)
  have m3 := mulOk_sm (sm_le (show a ≤ 8000 by omega) x2) (sm_le (show b ≤ 8000 by omega) y.1)
  have d0 : (p.den : Int) * q.num ≠ 0 := Int.mul_ne_zero (by omega) (num_ne hq)
  have e := red_ok 22 (a := p.num * q.den) (d := p.den * q.num) d0 (sm_le hab (sm_mul x2 y.1)) []
  rw [rdc_q _ d0, div_val p q hq] at e
  unfold m_law_div
  rw [runB_s]
  generalize qD (p / q) = R at *
  unfold qD
  simp at e
  simp [m1, m3, e]
end
theorem flat_qLst (xs : List Nat) (f : Nat → Rat) : flatL (xs.map fun c => qD (f c)) = true := flatL_map _ (fun c => flat_qD _) xs
def rowQ (n : Nat) (r : Nat → Rat) : D := .lst ((List.range (n + 1)).map fun c => qD (r c))
@[simp] theorem flat_rowQ (n : Nat) (r : Nat → Rat) : flat (rowQ n r) = true := by
  unfold rowQ
  rw [flat_lst]
  exact flat_qLst _ _
def lstQ (n : Nat) (R : Mx) : List D := (List.range n).map fun i => rowQ n (R i)
def updQ (R : Mx) (i : Nat) (v : Nat → Rat) : Mx := fun j => if j = i then v else R j
theorem lstQ_len (n : Nat) (R : Mx) : (lstQ n R).length = n := by unfold lstQ; simp
theorem flat_lstQ (n : Nat) (R : Mx) : flatL (lstQ n R) = true := flatL_map _ (fun i => flat_rowQ n _) _
theorem lstQ_get (n : Nat) (R : Mx) (j : Nat) : (lstQ n R)[j]? = if j < n then some (rowQ n (R j)) else none := by
  unfold lstQ
  by_cases h : j < n
  · simp [h]
  · simp [h]
theorem lstQ_at {n : Nat} {R : Mx} {i : Nat} (hi : i < n) : atI (lstQ n R) (i : Int) = some (rowQ n (R i)) := by
  rw [atI_of (by omega) (by rw [lstQ_len]; omega), Int.toNat_natCast, lstQ_get, if_pos hi]
theorem lstQ_set {n : Nat} {R : Mx} {i : Nat} (hi : i < n) (v : Nat → Rat) : (lstQ n R).set i (rowQ n v) = lstQ n (updQ R i v) := by
  apply List.ext_getElem?
  intro j
  rw [List.getElem?_set, lstQ_get, lstQ_get, lstQ_len]
  by_cases e : i = j
  · subst e
    rw [if_pos rfl, if_pos hi, if_pos hi]
    have : updQ R i v i = v := if_pos rfl
    rw [this]
  · rw [if_neg e]
    have : updQ R i v j = R j := if_neg (fun z => e z.symm)
    rw [this]
theorem rowQ_ix {n : Nat} {r : Nat → Rat} {c : Nat} (hc : c ≤ n) (h : Hc) : ixF (rowQ n r) (.int (c : Int)) h = .ok (qD (r c)) h := by
  have hc' : c < n + 1 := by omega
  have q := ix_sqs true ((List.range (n + 1)).map fun c => qD (r c)) (c : Int) h
  rw [atI_of (by omega) (by simp; omega)] at q
  have e2 : ((List.range (n + 1)).map fun c => qD (r c))[(c : Int).toNat]? = some (qD (r c)) := by simp [hc']
  rw [e2] at q
  exact q
structure RQ (n b : Nat) (R : Mx) : Prop where
  sz : ∀ i c, i < n → c ≤ n → qs b (R i c)
theorem num_zero {q : Rat} : q.num = 0 ↔ q = 0 := Rat.num_eq_zero
/-- a line is found to clear with -/
theorem find_loop {n : Nat} {R : Mx} {k : Nat} (hk : k < n) (x0 x6 x7 x8 x9 x10 : Option D) {H : Hc} : ∀ (t p : Nat) (m : Nat) (x4 x5 : Option D), p + t < n → (∀ i, p ≤ i → i < p + t → R i k = 0) → R (p + t) k ≠ 0 → t < m → ∃ y5,
    fl (fun _ => true) (.n 5) m_law_solve_l1 (upFrom (p : Int) m) [x0, some (.int (n : Int)), some (.ref H.length), some (.int (k : Int)), x4, x5, x6, x7, x8, x9, x10] (H ++ [.lst (lstQ n R)]) =
      .nx [x0, some (.int (n : Int)), some (.ref H.length), some (.int (k : Int)), some (.int ((p + t : Nat) : Int)), y5, x6, x7, x8, x9, x10] (H ++ [.lst (lstQ n R)])
  | 0, p, m, x4, x5, hp, hz, hne, hm => by
    obtain ⟨m, rfl⟩ : ∃ m', m = m' + 1 := ⟨m - 1, by omega⟩
    have gq : (H ++ [C.lst (lstQ n R)])[H.length]? = some (.lst (lstQ n R)) := by simp
    have ix := ixF_ref (n := H.length) (i := (p : Int)) (xs := lstQ n R) (h := H ++ [C.lst (lstQ n R)]) gq
    rw [lstQ_at (by omega)] at ix
    have i1 := fun h => rowQ_ix (n := n) (r := R p) (c := k) (by omega) h
    have i2 := fun h => qD_ix0 (R p k) h
    have hn0 : ¬ (R p k).num = 0 := fun z => hne (num_zero.mp z)
    refine ⟨some (.int (p : Int)), ?_⟩
    rw [upFrom_x]
    refine fl_bk rfl (bindP_n ..) ?_
    generalize (R p k).num = v at *
    generalize qD (R p k) = Q at *
    generalize rowQ n (R p) = RW at *
    generalize H ++ [C.lst (lstQ n R)] = H1 at *
    simp [m_law_solve_l1, ix, i1, i2, hn0]
  | t + 1, p, m, x4, x5, hp, hz, hne, hm => by
    obtain ⟨m, rfl⟩ : ∃ m', m = m' + 1 := ⟨m - 1, by omega⟩
    obtain ⟨y5, ih⟩ := find_loop hk x0 x6 x7 x8 x9 x10 (H := H) t (p + 1) m x4 (some (.int (p : Int))) (by omega) (fun i h1 h2 => hz i (by omega) (by omega)) (by rw [show p + 1 + t = p + (t + 1) by omega]; exact hne) (by omega)
    have gq : (H ++ [C.lst (lstQ n R)])[H.length]? = some (.lst (lstQ n R)) := by simp
    have ix := ixF_ref (n := H.length) (i := (p : Int)) (xs := lstQ n R) (h := H ++ [C.lst (lstQ n R)]) gq
    rw [lstQ_at (by omega)] at ix
    have i1 := fun h => rowQ_ix (n := n) (r := R p) (c := k) (by omega) h
    have i2 := fun h => qD_ix0 (R p k) h
    have hz0 : (R p k).num = 0 := num_zero.mpr (hz p (Nat.le_refl _) (by omega))
    rw [hz0] at i2
    rw [show p + 1 + t = p + (t + 1) by omega] at ih
    have ep : ((p + 1 : Nat) : Int) = (p : Int) + 1 := by push_cast; rfl
    rw [ep] at ih
    refine ⟨y5, ?_⟩
    rw [upFrom_x]
    refine Eq.trans (fl_n (b := m_law_solve_l1) ?_) ih
    generalize qD (R p k) = Q at *
    generalize rowQ n (R p) = RW at *
    generalize H ++ [C.lst (lstQ n R)] = H1 at *
    simp [m_law_solve_l1, ix, i1, i2]
theorem first_nz {f : Nat → Rat} {k n : Nat} (ex : ∃ p, k ≤ p ∧ p < n ∧ f p ≠ 0) : ∃ t, k + t < n ∧ f (k + t) ≠ 0 ∧ ∀ i, k ≤ i → i < k + t → f i = 0 := by
  have go : ∀ d, (k + d < n ∧ f (k + d) ≠ 0) → ∃ t, k + t < n ∧ f (k + t) ≠ 0 ∧ ∀ i, k ≤ i → i < k + t → f i = 0 := by
    intro d
    induction d using Nat.strongRecOn with
    | ind d ih =>
      rintro ⟨a1, a2⟩
      by_cases z : ∃ i, k ≤ i ∧ i < k + d ∧ f i ≠ 0
      · obtain ⟨i, b1, b2, b3⟩ := z
        refine ih (i - k) (by omega) ?_
        rw [show k + (i - k) = i by omega]
        exact ⟨by omega, b3⟩
      · refine ⟨d, a1, a2, fun i b1 b2 => ?_⟩
        by_cases z2 : f i = 0
        · exact z2
        · exact absurd ⟨i, b1, b2, z2⟩ z
  obtain ⟨p, a1, a2, a3⟩ := ex
  exact go (p - k) (by rw [show k + (p - k) = p by omega]; exact ⟨a2, a3⟩)
/-- the column is cleared in the lines -/
def fQ (R : Mx) (k i : Nat) : Nat → Rat := if i ≠ k ∧ R i k ≠ 0 then fun c => R i c - R i k * R k c else R i
def parQ (R : Mx) (k c : Nat) : Mx := fun i => if i < c then fQ R k i else R i
theorem clearQ_loop {n b l : Nat} {R : Mx} {k : Nat} (hs : ∀ i c, i < n → i ≠ k → c ≤ n → qs b (R i c)) (hlead : ∀ c, c ≤ n → qs l (R k c)) (hk : k < n) (hn : n ≤ 900) (hb : b + (b + l) ≤ 8000) {H : Hc} (x0 x4 x6 x7 x9 x10 : Option D) : ∀ (t i : Nat) (x5 x8 : Option D), i + t = n → ∃ y5 y8,
    fl (fun _ => true) (.n 5) m_law_solve_l2 (upFrom (i : Int) t) [x0, some (.int (n : Int)), some (.ref H.length), some (.int (k : Int)), x4, x5, x6, x7, x8, x9, x10] (H ++ [.lst (lstQ n (parQ R k i))]) =
      .nx [x0, some (.int (n : Int)), some (.ref H.length), some (.int (k : Int)), x4, y5, x6, x7, y8, x9, x10] (H ++ [.lst (lstQ n (parQ R k n))])
  | 0, i, x5, x8, hi => by
    have : i = n := by omega
    subst this
    exact ⟨x5, x8, fl_end rfl⟩
  | t + 1, i, x5, x8, hi => by
    have hi' : i < n := by omega
    have ei : ((i + 1 : Nat) : Int) = (i : Int) + 1 := by push_cast; rfl
    have gq : (H ++ [C.lst (lstQ n (parQ R k i))])[H.length]? = some (.lst (lstQ n (parQ R k i))) := by simp
    have ixi := ixF_ref (n := H.length) (i := (i : Int)) (xs := lstQ n (parQ R k i)) (h := H ++ [C.lst (lstQ n (parQ R k i))]) gq
    rw [lstQ_at hi'] at ixi
    have ixk := ixF_ref (n := H.length) (i := (k : Int)) (xs := lstQ n (parQ R k i)) (h := H ++ [C.lst (lstQ n (parQ R k i))]) gq
    rw [lstQ_at hk] at ixk
    have ewi : parQ R k i i = R i := by unfold parQ; rw [if_neg (by omega)]
    have ewk : parQ R k i k = R k := by
      unfold parQ fQ
      split
      · rw [if_neg (fun z => z.1 rfl)]
      · rfl
    rw [ewi] at ixi
    rw [ewk] at ixk
    have j1 := fun h => rowQ_ix (n := n) (r := R i) (c := k) (by omega) h
    have j2 := fun h => qD_ix0 (R i k) h
    have ew : parQ R k (i + 1) = updQ (parQ R k i) i (fQ R k i) := by
      funext j
      unfold parQ updQ
      by_cases e : j = i
      · subst e
        rw [if_pos (by omega), if_pos rfl]
      · rw [if_neg e]
        show (if j < i + 1 then fQ R k j else R j) = if j < i then fQ R k j else R j
        by_cases c : j < i
        · rw [if_pos c, if_pos (by omega)]
        · rw [if_neg c, if_neg (by omega)]
    have eself : lstQ n (updQ (parQ R k i) i (R i)) = lstQ n (parQ R k i) := by
      congr 1
      funext j
      unfold updQ
      split
      · rename_i e; subst e; exact ewi.symm
      · rfl
    rw [upFrom_x]
    by_cases q : i ≠ k ∧ R i k ≠ 0
    · obtain ⟨q1, q2⟩ := q
      obtain ⟨y5, y8, ih⟩ := clearQ_loop hs hlead hk hn hb (H := H) x0 x4 x6 x7 x9 x10 t (i + 1) (some (.int (i : Int))) (some (qD (R i k))) (by omega)
      rw [ei] at ih
      refine ⟨y5, y8, Eq.trans (fl_n (b := m_law_solve_l2) ?_) ih⟩
      have efw : fQ R k i = fun c => R i c - R i k * R k c := by unfold fQ; rw [if_pos ⟨q1, q2⟩]
      have er : ∀ h, rg1F [.int ((n : Int) + 1)] h = .ok ⟨(List.range (n + 1)).map fun (c : Nat) => D.int (c : Int), fun _ => true⟩ h := fun h => by
        rw [rg1F_int, if_pos (rgOk_of (by omega) (by omega)), show ((n : Int) + 1).toNat = n + 1 by omega]
        unfold upFrom
        simp
      have c1 := lcR_mm (chk := fun _ => true) (p := .n 10) (own := [10]) (m := m_law_solve_c3) (ds := [x0, some (.int (n : Int)), some (.ref H.length), some (.int (k : Int)), x4, some (.int (i : Int)), x6, x7, some (qD (R i k)), x9, x10]) (h := H ++ [C.lst (lstQ n (parQ R k i))]) (fun (c : Nat) => D.int (c : Int)) (fun c => qD (R i c - R i k * R k c)) rfl (List.range (n + 1)) (by rw [List.length_range]; omega)
        (fun c hc => ⟨_, bindP_n .., by
          have hc' : c ≤ n := by have := List.mem_range.mp hc; omega
          have i1 := fun h => rowQ_ix (n := n) (r := R i) hc' h
          have i2 := fun h => rowQ_ix (n := n) (r := R k) hc' h
          have e1 := fun h => law_mul_z (hs i k hi' q1 (by omega)) (hlead c hc') (by omega) h
          have e2 := fun h => law_sub_z (hs i c hi' q1 hc') (qs_mul (hs i k hi' q1 (by omega)) (hlead c hc')) hb h
          generalize qD (R i c - R i k * R k c) = QR at *
          generalize qD (R i k * R k c) = QM at *
          generalize qD (R i c) = QI at *
          generalize qD (R k c) = QK at *
          generalize qD (R i k) = QB at *
          generalize rowQ n (R i) = RI at *
          generalize rowQ n (R k) = RK at *
          generalize H ++ [C.lst (lstQ n (parQ R k i))] = H1 at *
          simp [m_law_solve_c3, ixi, ixk, i1, i2, e1, e2]⟩)
      have erow : rowQ n (fun c => R i c - R i k * R k c) = .lst ((List.range (n + 1)).map fun c => qD (R i c - R i k * R k c)) := rfl
      have st := setF_ok (n := H.length) (xs := lstQ n (parQ R k i)) (h := H ++ [C.lst (lstQ n (parQ R k i))]) (i := (i : Int)) (x := rowQ n (fun c => R i c - R i k * R k c)) gq (by omega) (by rw [lstQ_len]; omega)
      rw [Int.toNat_natCast, lstQ_set hi', List.set_append_right _ _ (Nat.le_refl _), Nat.sub_self] at st
      have st2 : setF (.ref H.length) (.int (i : Int)) (rowQ n (fun c => R i c - R i k * R k c)) (H ++ [C.lst (lstQ n (parQ R k i))]) = some (H ++ [C.lst (lstQ n (updQ (parQ R k i) i (fun c => R i c - R i k * R k c)))]) := st
      rw [erow] at st2
      rw [ew, efw]
      have q1' : ¬ ((i : Int) = (k : Int)) := by omega
      have hn0 : ¬ (R i k).num = 0 := fun z => q2 (num_zero.mp z)
      clear st
      generalize ((List.range (n + 1)).map fun c => qD (R i c - R i k * R k c)) = RL at *
      generalize ((List.range (n + 1)).map fun (c : Nat) => D.int (c : Int)) = IL at *
      generalize (R i k).num = v at *
      generalize qD (R i k) = QB at *
      generalize rowQ n (R i) = RI at *
      generalize rowQ n (R k) = RK at *
      generalize H ++ [C.lst (lstQ n (updQ (parQ R k i) i (fun c => R i c - R i k * R k c)))] = H2 at *
      generalize H ++ [C.lst (lstQ n (parQ R k i))] = H1 at *
      simp [m_law_solve_l2, q1', q1, ixi, j1, j2, hn0, er, c1, st2]
    · obtain ⟨y5, y8, ih⟩ := clearQ_loop hs hlead hk hn hb (H := H) x0 x4 x6 x7 x9 x10 t (i + 1) (some (.int (i : Int))) x8 (by omega)
      rw [ei] at ih
      refine ⟨y5, y8, Eq.trans (fl_n (b := m_law_solve_l2) ?_) ih⟩
      have efw : fQ R k i = R i := by unfold fQ; rw [if_neg q]
      rw [ew, efw, eself]
      have v0 : i ≠ k → (R i k).num = 0 := fun e => by
        by_cases z : R i k = 0
        · exact num_zero.mpr z
        · exact absurd ⟨e, z⟩ q
      generalize (R i k).num = v at *
      generalize qD (R i k) = QB at *
      generalize rowQ n (R i) = RI at *
      generalize rowQ n (R k) = RK at *
      generalize H ++ [C.lst (lstQ n (parQ R k i))] = H1 at *
      by_cases e : i = k
      · subst e
        simp [m_law_solve_l2]
      · have e' : ¬ ((i : Int) = (k : Int)) := by omega
        simp [m_law_solve_l2, e', e, ixi, j1, j2, v0 e]
def swQ (R : Mx) (k p : Nat) : Mx := fun i => R (swp k p i)
/-- the step of the law -/
def nxQ (R : Mx) (k p n : Nat) : Mx := parQ (updQ (swQ R k p) k fun c => R p c / R p k) k n
theorem nxQ_at {n : Nat} {R : Mx} {k p : Nat} (hk : k < n) {i : Nat} (hi : i < n) : nxQ R k p n i = if i = k then (fun c => R p c / R p k) else if R (swp k p i) k ≠ 0 then (fun c => R (swp k p i) c - R (swp k p i) k * (R p c / R p k)) else R (swp k p i) := by
  unfold nxQ parQ
  rw [if_pos hi]
  unfold fQ
  have uk : updQ (swQ R k p) k (fun c => R p c / R p k) k = fun c => R p c / R p k := if_pos rfl
  rw [uk]
  by_cases e : i = k
  · subst e
    rw [if_neg (fun z => z.1 rfl), if_pos rfl, uk]
  · have ui : updQ (swQ R k p) k (fun c => R p c / R p k) i = R (swp k p i) := by
      unfold updQ swQ
      rw [if_neg e]
    rw [ui, if_neg e]
    by_cases z : R (swp k p i) k ≠ 0
    · rw [if_pos ⟨e, z⟩, if_pos z]
    · rw [if_neg (fun y => z y.2), if_neg z]
theorem nxQ_stp {n : Nat} {R : Mx} {k p : Nat} (hk : k < n) (hkp : k ≤ p) (hp : p < n) (hpv : R p k ≠ 0) : Stp n k p R (nxQ R k p n) := by
  refine ⟨hk, hkp, hp, hpv, ⟨1 / R p k, by intro z; grind, fun c hc => ?_⟩, fun i hi hne => ?_⟩
  · rw [nxQ_at hk hk, if_pos rfl]
    grind
  · have hs := swp_lt hk hp hi
    rw [nxQ_at hk hi, if_neg hne]
    by_cases z : R (swp k p i) k ≠ 0
    · rw [if_pos z]
      refine ⟨by grind, 1, -(R (swp k p i) k / R p k), by decide, fun c hc => by grind⟩
    · rw [if_neg z]
      have z' : R (swp k p i) k = 0 := by
        by_cases y : R (swp k p i) k = 0
        · exact y
        · exact absurd y z
      exact ⟨z', 1, 0, by decide, fun c hc => by grind⟩
theorem nxQ_sz {n b : Nat} {R : Mx} (hs : ∀ i c, i < n → c ≤ n → qs b (R i c)) {k p : Nat} (hk : k < n) (hp : p < n) (hpv : R p k ≠ 0) : ∀ i c, i < n → c ≤ n → qs (4 * b + 1) (nxQ R k p n i c) := fun i c hi hc => by
  have hsw := swp_lt hk hp hi
  have l : qs (b + b) (R p c / R p k) := qs_quo (hs p c hp hc) (hs p k hp (by omega)) hpv
  rw [nxQ_at hk hi]
  split
  · exact qs_le (by omega) l
  · split
    · exact qs_le (by omega) (qs_sub (hs _ c hsw hc) (qs_mul (hs _ k hsw (by omega)) l))
    · exact qs_le (by omega) (hs _ c hsw hc)
theorem nxQ_dia {n : Nat} {m0 R : Mx} {k p : Nat} (I : Clr n k m0 R) (hk : k < n) (hkp : k ≤ p) (hp : p < n) (hpv : R p k ≠ 0) (D1 : ∀ c, c < k → R c c = 1) : ∀ c, c < k + 1 → nxQ R k p n c c = 1 := fun c hc => by
  rw [nxQ_at hk (by omega)]
  by_cases e : c = k
  · subst e
    rw [if_pos rfl]
    grind
  · have hc' : c < k := by omega
    have es : swp k p c = c := by unfold swp; rw [if_neg e, if_neg (by omega)]
    have z := I.off c p hc' hp (by omega)
    rw [if_neg e, es]
    split
    · show R c c - R c k * (R p c / R p k) = 1
      rw [z, D1 c hc']
      grind
    · exact D1 c hc'
theorem lsolve_loop {n : Nat} (hn : n ≤ 900) {m0 : Mx} (N : NSing n m0) {H : Hc} (x0 x9 x10 : Option D) : ∀ (t k b : Nat) (R : Mx) (x3 x4 x5 x6 x7 x8 : Option D), k + t = n → (∀ i c, i < n → c ≤ n → qs b (R i c)) → (3 * b + 1) * 4 ^ t ≤ 24004 → Clr n k m0 R → (∀ c, c < k → R c c = 1) → ∃ (R' : Mx) (y3 y4 y5 y6 y7 y8 : Option D),
    fl (fun _ => true) (.n 3) m_law_solve_l3 (upFrom (k : Int) t) [x0, some (.int (n : Int)), some (.ref H.length), x3, x4, x5, x6, x7, x8, x9, x10] (H ++ [.lst (lstQ n R)]) =
      .nx [x0, some (.int (n : Int)), some (.ref H.length), y3, y4, y5, y6, y7, y8, x9, x10] (H ++ [.lst (lstQ n R')]) ∧ Clr n n m0 R' ∧ (∀ c, c < n → R' c c = 1) ∧ ∃ B, 3 * B + 1 ≤ (3 * b + 1) * 4 ^ t ∧ ∀ i c, i < n → c ≤ n → qs B (R' i c)
  | 0, k, b, R, x3, x4, x5, x6, x7, x8, hk, hs, hb, I, D1 => by
    have : k = n := by omega
    subst this
    exact ⟨R, x3, x4, x5, x6, x7, x8, fl_end rfl, I, D1, b, by simp, hs⟩
  | t + 1, k, b, R, x3, x4, x5, x6, x7, x8, hk, hs, hb, I, D1 => by
    have hk' : k < n := by omega
    have e44 : (3 * b + 1) * 4 ^ (t + 1) = (3 * (4 * b + 1) + 1) * 4 ^ t := by
      rw [Nat.pow_succ, ← Nat.mul_assoc, Nat.mul_right_comm]
      congr 1
      omega
    have hb2 : 3 * b + 1 ≤ 6001 ∧ (3 * (4 * b + 1) + 1) * 4 ^ t ≤ 24004 := by
      have e : (3 * b + 1) * 4 ^ (t + 1) = (3 * (4 * b + 1) + 1) * 4 ^ t := by
        rw [Nat.pow_succ, ← Nat.mul_assoc, Nat.mul_right_comm]
        congr 1
        omega
      rw [e] at hb
      have := Nat.le_mul_of_pos_right (3 * (4 * b + 1) + 1) (Nat.pow_pos (a := 4) (n := t) (by decide))
      omega
    obtain ⟨t1, q1, q2, q3⟩ := first_nz (f := fun i => R i k) (I.pivot hk' N)
    obtain ⟨p, hp⟩ : ∃ p, p = k + t1 := ⟨_, rfl⟩
    rw [← hp] at q1 q2
    have hkp : k ≤ p := by omega
    have q2' : R p k ≠ 0 := q2
    obtain ⟨y5, e1⟩ := find_loop (R := R) hk' x0 x6 x7 x8 x9 x10 (H := H) t1 k (n - k) (some (.int (k : Int))) x5 (by omega) (fun i h1 h2 => q3 i h1 h2) (by rw [← hp]; exact q2) (by omega)
    rw [← hp] at e1
    have gq : (H ++ [C.lst (lstQ n R)])[H.length]? = some (.lst (lstQ n R)) := by simp
    have ixp := ixF_ref (n := H.length) (i := (p : Int)) (xs := lstQ n R) (h := H ++ [C.lst (lstQ n R)]) gq
    rw [lstQ_at q1] at ixp
    have ixk := ixF_ref (n := H.length) (i := (k : Int)) (xs := lstQ n R) (h := H ++ [C.lst (lstQ n R)]) gq
    rw [lstQ_at hk'] at ixk
    have st1 := setF_ok (n := H.length) (xs := lstQ n R) (h := H ++ [C.lst (lstQ n R)]) (i := (k : Int)) (x := rowQ n (R p)) gq (by omega) (by rw [lstQ_len]; omega)
    rw [Int.toNat_natCast, lstQ_set hk', List.set_append_right _ _ (Nat.le_refl _), Nat.sub_self] at st1
    have st1' : setF (.ref H.length) (.int (k : Int)) (rowQ n (R p)) (H ++ [C.lst (lstQ n R)]) = some (H ++ [C.lst (lstQ n (updQ R k (R p)))]) := st1
    have gq2 : (H ++ [C.lst (lstQ n (updQ R k (R p)))])[H.length]? = some (.lst (lstQ n (updQ R k (R p)))) := by simp
    have st2 := setF_ok (n := H.length) (xs := lstQ n (updQ R k (R p))) (h := H ++ [C.lst (lstQ n (updQ R k (R p)))]) (i := (p : Int)) (x := rowQ n (R k)) gq2 (by omega) (by rw [lstQ_len]; omega)
    rw [Int.toNat_natCast, lstQ_set q1, List.set_append_right _ _ (Nat.le_refl _), Nat.sub_self] at st2
    have esw : updQ (updQ R k (R p)) p (R k) = swQ R k p := by
      funext i
      unfold updQ swQ swp
      by_cases a : i = p
      · subst a
        rw [if_pos rfl]
        by_cases c : i = k
        · rw [if_pos c, c]
        · rw [if_neg c, if_pos rfl]
      · rw [if_neg a]
        show (if i = k then R p else R i) = _
        by_cases c : i = k
        · rw [if_pos c, if_pos c]
        · rw [if_neg c, if_neg c, if_neg a]
    rw [esw] at st2
    have st2' : setF (.ref H.length) (.int (p : Int)) (rowQ n (R k)) (H ++ [C.lst (lstQ n (updQ R k (R p)))]) = some (H ++ [C.lst (lstQ n (swQ R k p))]) := st2
    have sk : swQ R k p k = R p := by unfold swQ swp; rw [if_pos rfl]
    have gq3 : (H ++ [C.lst (lstQ n (swQ R k p))])[H.length]? = some (.lst (lstQ n (swQ R k p))) := by simp
    have ix3 := ixF_ref (n := H.length) (i := (k : Int)) (xs := lstQ n (swQ R k p)) (h := H ++ [C.lst (lstQ n (swQ R k p))]) gq3
    rw [lstQ_at hk', sk] at ix3
    have i3 := fun h => rowQ_ix (n := n) (r := R p) (c := k) (by omega) h
    have e8 : ∀ h, seqD h (rowQ n (R p)) = some ((List.range (n + 1)).map fun c => qD (R p c)) := fun h => rfl
    have e9 : chkQ (rowQ n (R p)) ((List.range (n + 1)).map fun c => qD (R p c)) = fun _ => true := by unfold rowQ; simp
    have c1 := lcR_mm (chk := fun _ => true) (p := .n 9) (own := [9]) (m := m_law_solve_c2) (ds := [x0, some (.int (n : Int)), some (.ref H.length), some (.int (k : Int)), some (.int (p : Int)), y5, some (rowQ n (R k)), some (qD (R p k)), x8, x9, x10]) (h := H ++ [C.lst (lstQ n (swQ R k p))]) (fun c => qD (R p c)) (fun c => qD (R p c / R p k)) rfl (List.range (n + 1)) (by rw [List.length_range]; omega)
      (fun c hc => ⟨_, bindP_n .., by
        have hc' : c ≤ n := by have := List.mem_range.mp hc; omega
        have e := fun h => law_div_z (hs p c q1 hc') (hs p k q1 (by omega)) q2' (by omega) h
        generalize qD (R p c / R p k) = QR at *
        generalize qD (R p c) = QI at *
        generalize qD (R p k) = QB at *
        generalize H ++ [C.lst (lstQ n (swQ R k p))] = H1 at *
        simp [m_law_solve_c2, e]⟩)
    have erow : rowQ n (fun c => R p c / R p k) = .lst ((List.range (n + 1)).map fun c => qD (R p c / R p k)) := rfl
    have st3 := setF_ok (n := H.length) (xs := lstQ n (swQ R k p)) (h := H ++ [C.lst (lstQ n (swQ R k p))]) (i := (k : Int)) (x := rowQ n (fun c => R p c / R p k)) gq3 (by omega) (by rw [lstQ_len]; omega)
    rw [Int.toNat_natCast, lstQ_set hk', List.set_append_right _ _ (Nat.le_refl _), Nat.sub_self] at st3
    have st3' : setF (.ref H.length) (.int (k : Int)) (rowQ n (fun c => R p c / R p k)) (H ++ [C.lst (lstQ n (swQ R k p))]) = some (H ++ [C.lst (lstQ n (updQ (swQ R k p) k fun c => R p c / R p k))]) := st3
    rw [erow] at st3'
    have szU : ∀ i c, i < n → i ≠ k → c ≤ n → qs b (updQ (swQ R k p) k (fun c => R p c / R p k) i c) := fun i c hi hne hc => by
      unfold updQ swQ
      rw [if_neg hne]
      exact hs _ c (swp_lt hk' q1 hi) hc
    have szK : ∀ c, c ≤ n → qs (b + b) (updQ (swQ R k p) k (fun c => R p c / R p k) k c) := fun c hc => by
      have uk : updQ (swQ R k p) k (fun c => R p c / R p k) k = fun c => R p c / R p k := if_pos rfl
      rw [uk]
      exact qs_quo (hs p c q1 hc) (hs p k q1 (by omega)) q2'
    obtain ⟨z5, z8, e2⟩ := clearQ_loop (n := n) (b := b) (l := b + b) (R := updQ (swQ R k p) k fun c => R p c / R p k) szU szK hk' hn (by omega) (H := H) x0 (some (.int (p : Int))) (some (rowQ n (R k))) (some (qD (R p k))) x9 x10 n 0 y5 x8 (by omega)
    have ep0 : parQ (updQ (swQ R k p) k fun c => R p c / R p k) k 0 = updQ (swQ R k p) k fun c => R p c / R p k := by
      funext i
      unfold parQ
      rw [if_neg (by omega)]
    rw [ep0] at e2
    have epn : parQ (updQ (swQ R k p) k fun c => R p c / R p k) k n = nxQ R k p n := rfl
    rw [epn] at e2
    obtain ⟨R', y3, y4, w5, y6, y7, y8, ih, r1, r2, r3⟩ := lsolve_loop hn N (H := H) x0 x9 x10 t (k + 1) (4 * b + 1) (nxQ R k p n) (some (.int (k : Int))) (some (.int (p : Int))) z5 (some (rowQ n (R k))) (some (qD (R p k))) z8 (by omega) (nxQ_sz hs hk' q1 q2') hb2.2 (I.step (nxQ_stp hk' hkp q1 q2')) (nxQ_dia I hk' hkp q1 q2' D1)
    refine ⟨R', y3, y4, w5, y6, y7, y8, ?_, r1, r2, by rw [e44]; exact r3⟩
    have ei : ((k + 1 : Nat) : Int) = (k : Int) + 1 := by push_cast; rfl
    rw [ei] at ih
    rw [upFrom_x]
    refine Eq.trans (fl_n (b := m_law_solve_l3) ?_) ih
    have er : ∀ h, rg1F [.int (n : Int)] h = .ok ⟨upFrom 0 n, fun _ => true⟩ h := fun h => by
      rw [rg1F_int, if_pos (rgOk_nat (by omega)), Int.toNat_natCast]
    have er2 : ∀ h, rg2F [.int (k : Int), .int (n : Int)] h = .ok ⟨upFrom (k : Int) (n - k), fun _ => true⟩ h := fun h => by
      rw [rg2F_int, if_pos ⟨rgOk_nat (by omega), rgOk_nat (by omega)⟩]
      congr 3
      omega
    have e0 : upFrom ((0 : Nat) : Int) n = upFrom 0 n := rfl
    rw [e0] at e2
    clear st1 st2 st3 gq gq2 gq3 ep0 epn
    generalize H ++ [C.lst (lstQ n (nxQ R k p n))] = H5 at *
    generalize H ++ [C.lst (lstQ n (updQ (swQ R k p) k fun c => R p c / R p k))] = H4 at *
    generalize H ++ [C.lst (lstQ n (swQ R k p))] = H3 at *
    generalize H ++ [C.lst (lstQ n (updQ R k (R p)))] = H2 at *
    generalize H ++ [C.lst (lstQ n R)] = H1 at *
    generalize ((List.range (n + 1)).map fun c => qD (R p c / R p k)) = DL at *
    generalize ((List.range (n + 1)).map fun c => qD (R p c)) = PL at *
    generalize qD (R p k) = QT at *
    generalize rowQ n (R p) = RP at *
    generalize rowQ n (R k) = RK at *
    generalize upFrom 0 n = UF at *
    generalize upFrom (k : Int) (n - k) = UG at *
    simp [m_law_solve_l3, er2, e1, ixk, ixp, st1', st2', ix3, i3, e8, e9, c1, st3', er, e2]
/-- the lines stand in a list or a cell; each is a list -/
theorem lsolve_raw {n : Nat} (hn : n ≤ 12) {b : Nat} {R : Mx} (hs : ∀ i c, i < n → c ≤ n → qs b (R i c)) (hb : (3 * b + 1) * 4 ^ n ≤ 24004) (N : NSing n R) {U : D} {h : Hc} (hU : seqD h U = some (lstQ n R)) (hlen : lenF [U] h = .ok (.int (n : Int)) h) :
    ∃ (x : Nat → Rat) (h' : Hc), satM n 1 R x ∧ (∃ B, 3 * B + 1 ≤ (3 * b + 1) * 4 ^ n ∧ ∀ i, i < n → qs B (x i)) ∧ m_law_solve [U] h = .ok (.lst ((List.range n).map fun i => qD (x i))) h' ∧ ∃ c, h' = h ++ [c] := by
  have hck : chkQ U (lstQ n R) h = true := chkQ_of hU
  have c1 := lcR_mm (chk := chkQ U (lstQ n R)) (p := .n 9) (own := [9]) (m := m_law_solve_c1) (ds := [some U, some (.int (n : Int)), none, none, none, none, none, none, none, none, none]) (h := h) (fun i => rowQ n (R i)) (fun i => rowQ n (R i)) hck (List.range n) (by rw [List.length_range]; omega)
    (fun i hi => ⟨_, bindP_n .., by
      have e : rowQ n (R i) = .lst ((List.range (n + 1)).map fun c => qD (R i c)) := rfl
      rw [e]
      generalize ((List.range (n + 1)).map fun c => qD (R i c)) = RL at *
      simp [m_law_solve_c1]⟩)
  have c1' : lcR (chkQ U (lstQ n R)) (.n 9) [9] (fun _ h => .ok true h) m_law_solve_c1 [some U, some (.int (n : Int)), none, none, none, none, none, none, none, none, none] (lstQ n R) [] h = .ok (lstQ n R) h := c1
  obtain ⟨R', y3, y4, y5, y6, y7, y8, e2, I', D1, B, hB, sz⟩ := lsolve_loop (by omega) N (H := h) (some U) none none n 0 b R none none none none none none (by omega) hs hb (Clr.start n R) (fun c hc => by omega)
  have gq2 : (h ++ [C.lst (lstQ n R')])[h.length]? = some (.lst (lstQ n R')) := by simp
  have hs2 : seqD (h ++ [C.lst (lstQ n R')]) (.ref h.length) = some (lstQ n R') := by simp [seqD]
  have hck2 : chkQ (.ref h.length) (lstQ n R') (h ++ [C.lst (lstQ n R')]) = true := chkQ_of hs2
  have c2 := lcR_mm (chk := chkQ (.ref h.length) (lstQ n R')) (p := .n 9) (own := [9]) (m := m_law_solve_c4) (ds := [some U, some (.int (n : Int)), some (.ref h.length), y3, y4, y5, y6, y7, y8, none, none]) (h := h ++ [.lst (lstQ n R')]) (fun i => rowQ n (R' i)) (fun i => qD (R' i n)) hck2 (List.range n) (by rw [List.length_range]; omega)
    (fun i hi => ⟨_, bindP_n .., by
      have i1 := fun h => rowQ_ix (n := n) (r := R' i) (c := n) (Nat.le_refl _) h
      generalize rowQ n (R' i) = RW at *
      generalize qD (R' i n) = QR at *
      generalize h ++ [C.lst (lstQ n R')] = H1 at *
      simp [m_law_solve_c4, i1]⟩)
  have c2' : lcR (chkQ (.ref h.length) (lstQ n R')) (.n 9) [9] (fun _ h => .ok true h) m_law_solve_c4 [some U, some (.int (n : Int)), some (.ref h.length), y3, y4, y5, y6, y7, y8, none, none] (lstQ n R') [] (h ++ [.lst (lstQ n R')]) = .ok ((List.range n).map fun i => qD (R' i n)) (h ++ [.lst (lstQ n R')]) := c2
  refine ⟨fun i => R' i n, h ++ [.lst (lstQ n R')], ?_, ⟨B, hB, fun i hi => sz i n hi (Nat.le_refl _)⟩, ?_, _, rfl⟩
  · have := I'.done
    intro i hi
    have h2 := this i hi
    have eq : ∀ j, j < n → R' j n / R' j j = R' j n := fun j hj => by rw [D1 j hj]; grind
    unfold satL dotM at h2 ⊢
    rw [← h2]
    exact sumR_congr fun j hj => by
      show R i j * R' j n = R i j * (R' j n / R' j j)
      rw [eq j hj]
  · have er : ∀ h, rg1F [.int (n : Int)] h = .ok ⟨upFrom 0 n, fun _ => true⟩ h := fun h => by
      rw [rg1F_int, if_pos (rgOk_nat (by omega)), Int.toNat_natCast]
    have e0 : upFrom ((0 : Nat) : Int) n = upFrom 0 n := rfl
    rw [e0] at e2
    unfold m_law_solve
    rw [runB_s]
    clear gq2 hck2 hck
    generalize ((List.range n).map fun i => qD (R' i n)) = QL at *
    generalize h ++ [C.lst (lstQ n R')] = H2 at *
    generalize hLR : lstQ n R = LV at *
    generalize lstQ n R' = LW at *
    generalize upFrom 0 n = UF at *
    simp [hlen, hU, c1', er, e2, hs2, c2']
theorem flat_ql (n : Nat) (x : Nat → Rat) : flat (.lst ((List.range n).map fun i => qD (x i))) = true := by
  rw [flat_lst]
  exact flatL_map _ (fun i => flat_qD _) _
theorem lsolve_ref {n : Nat} (hn : n ≤ 12) {b : Nat} {R : Mx} (hs : ∀ i c, i < n → c ≤ n → qs b (R i c)) (hb : (3 * b + 1) * 4 ^ n ≤ 24004) (N : NSing n R) : ∃ x, satM n 1 R x ∧ (∃ B, 3 * B + 1 ≤ (3 * b + 1) * 4 ^ n ∧ ∀ i, i < n → qs B (x i)) ∧ ∀ (j : Nat) (h : Hc), h[j]? = some (.lst (lstQ n R)) → callL m_law_solve [.ref j] h = .ok (.lst ((List.range n).map fun i => qD (x i))) h := by
  obtain ⟨x, h', s, z, e, c, eh⟩ := lsolve_raw hn hs hb N (U := .ref 0) (h := [.lst (lstQ n R)]) (by simp [seqD]) (by
    have q := lenF_ref (n := 0) (h := [.lst (lstQ n R)]) (xs := lstQ n R) rfl
    rw [q, lstQ_len])
  refine ⟨x, s, z, fun j h hj => ?_⟩
  have cc := call_ref1 (m := m_law_solve) (as := [.ref j]) (as' := [.ref 0]) (i := j) (c := .lst (lstQ n R)) (c' := .lst (lstQ n R)) (h := h) (h' := h') (d0 := .lst ((List.range n).map fun i => qD (x i))) (d := .lst ((List.range n).map fun i => qD (x i))) (by simp [refsOf]) (by simp [renL, renD]) hj (flat_lstQ n R) e (by rw [eh]; rfl) (flat_lstQ n R) (frzD_flat (flat_ql n x))
  rw [cc]
  congr 1
  apply List.ext_getElem?
  intro i
  rw [List.getElem?_set]
  split
  · rename_i e
    subst e
    split
    · exact hj.symm
    · rename_i hn
      rw [List.getElem?_eq_none (by omega)] at hj
      cases hj
  · rfl
end Mp
/-! ReaA: which states are reached. -/
namespace Mp
open PySem PySem.Spec PyProof.Rows L2
def wt (M : List (List Int)) (s t : Nat) : Int := (M.getD s []).getD t 0
def iN (F : List Nat) : List Int := F.map fun (k : Nat) => (k : Int)
theorem iN_len (F : List Nat) : (iN F).length = F.length := by unfold iN; rw [List.length_map]
theorem iN_mem {F : List Nat} {k : Nat} : ((k : Int) ∈ iN F) ↔ k ∈ F := by
  unfold iN
  rw [List.mem_map]
  refine ⟨fun z => ?_, fun h => ⟨k, h, rfl⟩⟩
  obtain ⟨j, h, e⟩ := z
  have : j = k := by omega
  exact this ▸ h
theorem iN_app (F G : List Nat) : iN (F ++ G) = iN F ++ iN G := by unfold iN; rw [List.map_append]
/-- what is found anew from u -/
def nw (M : List (List Int)) (F : List Nat) (u j : Nat) : List Nat := (List.range j).filter fun c => decide (0 < wt M u c) && decide (c ∉ F)
theorem nw_succ (M : List (List Int)) (F : List Nat) (u j : Nat) : nw M F u (j + 1) = if 0 < wt M u j ∧ j ∉ F then nw M F u j ++ [j] else nw M F u j := by
  unfold nw
  rw [List.range_succ, List.filter_append]
  by_cases h : 0 < wt M u j ∧ j ∉ F
  · rw [if_pos h]
    simp [h.1, h.2]
  · rw [if_neg h]
    have : (decide (0 < wt M u j) && decide (j ∉ F)) = false := by
      rw [Bool.and_eq_false_iff]
      by_cases a : 0 < wt M u j
      · right
        simpa using fun b => h ⟨a, b⟩
      · left; simpa using a
    rw [List.filter_cons_of_neg (by rw [this]; decide)]
    simp
theorem nw_lt {M : List (List Int)} {F : List Nat} {u j c : Nat} (h : c ∈ nw M F u j) : c < j := List.mem_range.mp (List.mem_filter.mp h).1
theorem nw_mem {M : List (List Int)} {F : List Nat} {u j c : Nat} : c ∈ nw M F u j ↔ c < j ∧ 0 < wt M u c ∧ c ∉ F := by
  unfold nw
  rw [List.mem_filter, List.mem_range, Bool.and_eq_true, decide_eq_true_eq, decide_eq_true_eq]
theorem nw_nd (M : List (List Int)) (F : List Nat) (u j : Nat) : (nw M F u j).Nodup := List.Pairwise.filter _ List.nodup_range
def reaF (M : List (List Int)) (wall : Nat → Bool) : Nat → List Nat → List Nat → List Nat
  | 0, F, _ => F
  | d + 1, F, W => match W.getLast? with
    | none => F
    | some u => if wall u = true then reaF M wall d F W.dropLast else reaF M wall d (F ++ nw M F u M.length) (W.dropLast ++ nw M F u M.length)
/-- the states that are reached from s -/
def reach (M : List (List Int)) (wall : Nat → Bool) (s : Nat) : List Nat := reaF M wall (M.length + 1) [s] [s]
inductive Rc (M : List (List Int)) (wall : Nat → Bool) (s : Nat) : Nat → Prop
  | base : Rc M wall s s
  | step {u v : Nat} : Rc M wall s u → wall u = false → 0 < wt M u v → v < M.length → Rc M wall s v
structure RI (M : List (List Int)) (wall : Nat → Bool) (s : Nat) (F W : List Nat) : Prop where
  nd : F.Nodup
  lt : ∀ f ∈ F, f < M.length
  rc : ∀ f ∈ F, Rc M wall s f
  st : s ∈ F
  wf : ∀ w ∈ W, w ∈ F
  cl : ∀ u ∈ F, u ∉ W → wall u = false → ∀ v, v < M.length → 0 < wt M u v → v ∈ F
theorem nd_len {F : List Nat} {n : Nat} (nd : F.Nodup) (lt : ∀ f ∈ F, f < n) : F.length ≤ n := by
  have go : ∀ (l m : List Nat), l.Nodup → l ⊆ m → l.length ≤ m.length := by
    intro l
    induction l with
    | nil => intro m _ _; exact Nat.zero_le _
    | cons x l ih =>
      intro m nd s
      obtain ⟨n1, n2⟩ := List.nodup_cons.mp nd
      have hx : x ∈ m := s (by simp)
      have := ih (m.erase x) n2 fun y hy => (List.mem_erase_of_ne (a := y) (b := x) (fun e => n1 (by rw [← e]; exact hy))).mpr (s (by simp [hy]))
      rw [List.length_erase_of_mem hx] at this
      have hp := List.length_pos_of_mem hx
      rw [List.length_cons]
      omega
  have := go F (List.range n) nd fun x hx => List.mem_range.mpr (lt x hx)
  rwa [List.length_range] at this
theorem RI.popW {M : List (List Int)} {wall : Nat → Bool} {s : Nat} {F W : List Nat} {u : Nat} (I : RI M wall s F (W ++ [u])) (h : wall u = true) : RI M wall s F W :=
  ⟨I.nd, I.lt, I.rc, I.st, fun w hw => I.wf w (by simp [hw]), fun x hx hxW hw => by
    refine I.cl x hx (fun hm => ?_) hw
    rcases List.mem_append.mp hm with hm | hm
    · exact hxW hm
    · have : x = u := by simpa using hm
      subst this
      rw [h] at hw
      cases hw⟩
theorem RI.popO {M : List (List Int)} {wall : Nat → Bool} {s : Nat} {F W : List Nat} {u : Nat} (I : RI M wall s F (W ++ [u])) (h : wall u = false) : RI M wall s (F ++ nw M F u M.length) (W ++ nw M F u M.length) := by
  have hu := I.wf u (by simp)
  refine ⟨?_, fun f hf => ?_, fun f hf => ?_, by simp [I.st], fun w hw => ?_, fun x hx hxW hw v hv hp => ?_⟩
  · rw [List.nodup_append]
    exact ⟨I.nd, nw_nd .., fun a ha b hb e => (nw_mem.mp hb).2.2 (e ▸ ha)⟩
  · rcases List.mem_append.mp hf with hf | hf
    · exact I.lt f hf
    · exact (nw_mem.mp hf).1
  · rcases List.mem_append.mp hf with hf | hf
    · exact I.rc f hf
    · obtain ⟨a, b, _⟩ := nw_mem.mp hf
      exact .step (I.rc u hu) h b a
  · rcases List.mem_append.mp hw with hw | hw
    · exact List.mem_append_left _ (I.wf w (by simp [hw]))
    · exact List.mem_append_right _ hw
  · rcases List.mem_append.mp hx with hx | hx
    · by_cases e : x = u
      · subst e
        by_cases q : v ∈ F
        · exact List.mem_append_left _ q
        · exact List.mem_append_right _ (nw_mem.mpr ⟨hv, hp, q⟩)
      · refine List.mem_append_left _ (I.cl x hx (fun hm => ?_) hw v hv hp)
        rcases List.mem_append.mp hm with hm | hm
        · exact hxW (by simp [hm])
        · exact e (by simpa using hm)
    · exact absurd (List.mem_append_right _ hx) hxW
theorem reaF_nil (M : List (List Int)) (wall : Nat → Bool) : ∀ (d : Nat) (F : List Nat), reaF M wall d F [] = F
  | 0, F => rfl
  | d + 1, F => rfl
theorem reaF_snoc (M : List (List Int)) (wall : Nat → Bool) (d : Nat) (F W : List Nat) (u : Nat) : reaF M wall (d + 1) F (W ++ [u]) = if wall u = true then reaF M wall d F W else reaF M wall d (F ++ nw M F u M.length) (W ++ nw M F u M.length) := by
  rw [reaF]
  simp
theorem reaF_spec {M : List (List Int)} {wall : Nat → Bool} {s : Nat} : ∀ (d : Nat) (F W : List Nat), RI M wall s F W → W.length + (M.length - F.length) ≤ d → RI M wall s (reaF M wall d F W) []
  | 0, F, W, I, h => by
    have : W = [] := List.length_eq_zero_iff.mp (by omega)
    subst this
    exact I
  | d + 1, F, W, I, h => by
    rcases List.eq_nil_or_concat W with rfl | ⟨W', u, rfl⟩
    · rw [reaF_nil]
      exact I
    · rw [List.concat_eq_append] at I h ⊢
      rw [reaF_snoc]
      rw [List.length_append, List.length_singleton] at h
      cases q : wall u with
      | true =>
        rw [if_pos rfl]
        exact reaF_spec d F W' (I.popW q) (by omega)
      | false =>
        rw [if_neg (by decide)]
        have I2 := I.popO q
        refine reaF_spec d _ _ I2 ?_
        have := nd_len I2.nd I2.lt
        rw [List.length_append] at this ⊢
        rw [List.length_append]
        omega
theorem reach_spec {M : List (List Int)} (wall : Nat → Bool) {s : Nat} (hs : s < M.length) : (reach M wall s).Nodup ∧ (∀ f ∈ reach M wall s, f < M.length) ∧ ∀ t, t ∈ reach M wall s ↔ Rc M wall s t := by
  have I0 : RI M wall s [s] [s] := ⟨by simp, fun f hf => by
    have : f = s := by simpa using hf
    omega, fun f hf => by
    have : f = s := by simpa using hf
    subst this; exact .base, by simp, fun w hw => hw, fun u hu hW => absurd hu hW⟩
  have I := reaF_spec (M.length + 1) [s] [s] I0 (by simp; omega)
  refine ⟨I.nd, I.lt, fun t => ⟨I.rc t, fun h => ?_⟩⟩
  induction h with
  | base => exact I.st
  | step _ hw hp hv ih => exact I.cl _ ih (by simp) hw _ hv hp
/-! ### dicts of ints -/
theorem hasK_i (ws : List Int) (w : Int) : hasK (ws.map Sum.inl) (.inl w) = decide (w ∈ ws) := by
  induction ws with
  | nil => rfl
  | cons x r ih =>
    rw [List.map_cons]
    unfold hasK at ih ⊢
    by_cases h : x = w
    · subst h; simp
    · simp [h] at ih ⊢
      rw [ih]
      simp [show ¬ w = x from fun z => h z.symm]
theorem dinF_i (neg : Bool) {n : Nat} {ks : List Key} {vs : List D} {w : Int} {h : Hc} (e : h[n]? = some (.dct ks vs)) : dinF neg (.int w) (.ref n) h = .ok (.bl (if neg then !hasK ks (.inl w) else hasK ks (.inl w))) h := by
  unfold dinF
  simp [dctD, keyD, e]
theorem putF_i {n : Nat} {ks : List Key} {vs : List D} {w : Int} {x : D} {h : Hc} (e : h[n]? = some (.dct ks vs)) (hk : hasK ks (.inl w) = false) (hl : ks.length < 1000000) : putF (.ref n) (.int w) x h = some (h.set n (.dct (ks ++ [.inl w]) (vs ++ [x]))) := by
  show (match h[n]? with
    | some (.dct ks ds) => if ks.length < lim then some (h.set n (.dct (insD ks ds (.inl w) x).1 (insD ks ds (.inl w) x).2)) else none
    | _ => none) = _
  rw [e]
  simp only
  rw [if_pos (by rw [lim_eq]; exact hl)]
  have : insD ks vs (.inl w) x = (ks ++ [.inl w], vs ++ [x]) := by unfold insD; rw [hk]; rfl
  rw [this]
theorem any_i (ws : List Int) (w : Int) : ((ws.map D.int).any fun y => eqS y (.int w)) = decide (w ∈ ws) := by
  induction ws with
  | nil => simp
  | cons x r ih =>
    rw [List.map_cons, List.any_cons, ih]
    have e1 : eqS (D.int x) (.int w) = decide (x = w) := rfl
    rw [e1]
    by_cases e : x = w
    · subst e; simp
    · have e' : ¬ w = x := fun z => e z.symm
      simp [e, e']
theorem inG_i (neg : Bool) (w : Int) {U : D} {us : List Int} {h : Hc} (e : seqD h U = some (us.map D.int)) : inG neg (.int w) U h = .ok (.bl (if neg then !decide (w ∈ us) else decide (w ∈ us))) h := by
  unfold inG
  split
  · rename_i a b e1
    cases e1
  · simp only [e]
    rw [if_pos ⟨rfl, List.all_eq_true.mpr fun y hy => by
      obtain ⟨x, _, rfl⟩ := List.mem_map.mp hy
      rfl⟩, any_i]
theorem ch_ix (b : Bool) {M : List (List Int)} {s : Nat} (hs : s < M.length) (h : Hc) : ixF (ch b M) (.int (s : Int)) h = .ok (sq b (M.getD s [])) h := by
  unfold ch
  rw [ix_sqs, atI_of (by omega) (by rw [List.length_map]; omega)]
  simp [List.getD, hs]
theorem row_ix (b : Bool) {r : List Int} {t : Nat} (ht : t < r.length) (h : Hc) : ixF (sq b r) (.int (t : Int)) h = .ok (.int (r.getD t 0)) h := by
  have e : sq b r = sqs b (r.map D.int) := by cases b <;> rfl
  rw [e, ix_sqs, atI_of (by omega) (by rw [List.length_map]; omega)]
  simp [List.getD, ht]
theorem Chn.rowlen {M : List (List Int)} (C : Chn M) {s : Nat} (hs : s < M.length) : (M.getD s []).length = M.length := by
  have : M.getD s [] ∈ M := by simp [List.getD, hs]
  exact (C.row _ this).1
theorem enF_ch (b : Bool) (r : List Int) (h : Hc) : enF [sq b r] h = .ok ⟨enumD 0 (r.map D.int), fun _ => true⟩ h := by cases b <;> simp [sq]
theorem enum_r (r : List Int) : enumD 0 (r.map D.int) = (List.range r.length).map fun (k : Nat) => D.tup [.int (k : Int), .int (r.getD k 0)] := by
  apply List.ext_getElem?
  intro i
  rw [enumD_get, List.getElem?_map, List.getElem?_map, Option.map_map]
  by_cases h : i < r.length
  · simp [h, List.getD]
  · simp [h]
/-! ### the program -/
def fdC (F : List Nat) : C := .dct ((iN F).map Sum.inl) ((iN F).map fun _ => .bl true)
def stC (W : List Nat) : C := .lst ((iN W).map D.int)
theorem rch_loop {M : List (List Int)} {u : Nat} (F W : List Nat) (x0 x1 x2 x5 : Option D) (hF : F.length + M.length ≤ 1000) (hW : W.length + M.length ≤ 1000) : ∀ (m j : Nat) (x6 x7 : Option D), j + m = M.length → ∃ y6 y7,
    fl (fun _ => true) (.t ((.n 6) :: ((.n 7) :: []))) m_reached_l1 ((List.range' j m).map fun (k : Nat) => D.tup [.int (k : Int), .int (wt M u k)]) [x0, x1, x2, some (.ref 0), some (.ref 1), x5, x6, x7] [fdC (F ++ nw M F u j), stC (W ++ nw M F u j)] =
      .nx [x0, x1, x2, some (.ref 0), some (.ref 1), x5, y6, y7] [fdC (F ++ nw M F u M.length), stC (W ++ nw M F u M.length)]
  | 0, j, x6, x7, hj => by
    have : j = M.length := by omega
    subst this
    exact ⟨x6, x7, fl_end rfl⟩
  | m + 1, j, x6, x7, hj => by
    obtain ⟨y6, y7, ih⟩ := rch_loop F W x0 x1 x2 x5 hF hW m (j + 1) (some (.int (j : Int))) (some (.int (wt M u j))) (by omega)
    refine ⟨y6, y7, ?_⟩
    rw [List.range'_succ, List.map_cons]
    refine Eq.trans (fl_nx (b := m_reached_l1) rfl (ds1 := [x0, x1, x2, some (.ref 0), some (.ref 1), x5, some (.int (j : Int)), some (.int (wt M u j))]) (by simp) ?_) ih
    have hnl : (nw M F u j).length ≤ j := by
      have := nd_len (nw_nd M F u j) fun f hf => nw_lt hf
      exact this
    have hk : hasK ((iN (F ++ nw M F u j)).map Sum.inl) (.inl (j : Int)) = decide (j ∈ F) := by
      rw [hasK_i]
      congr 1
      rw [iN_mem, List.mem_append]
      refine propext ⟨fun h => ?_, .inl⟩
      rcases h with h | h
      · exact h
      · exact absurd (nw_lt h) (by omega)
    have d1 := dinF_i true (n := 0) (w := (j : Int)) (h := [fdC (F ++ nw M F u j), stC (W ++ nw M F u j)]) (ks := (iN (F ++ nw M F u j)).map Sum.inl) (vs := (iN (F ++ nw M F u j)).map fun _ => .bl true) rfl
    rw [hk] at d1
    have hlF : ((iN (F ++ nw M F u j)).map (Sum.inl : Int → Key)).length < 1000000 := by rw [List.length_map, iN_len, List.length_append]; omega
    have hlW : ((iN (W ++ nw M F u j)).map D.int).length < 1000000 := by rw [List.length_map, iN_len, List.length_append]; omega
    rw [nw_succ]
    generalize wt M u j = w at *
    by_cases c1 : 0 < w
    · by_cases c2 : j ∈ F
      · rw [if_neg (fun z => z.2 c2)]
        rw [decide_eq_true c2] at d1
        generalize fdC (F ++ nw M F u j) = FC at *
        generalize stC (W ++ nw M F u j) = SC at *
        simp [m_reached_l1, c1, d1]
      · rw [if_pos ⟨c1, c2⟩]
        rw [decide_eq_false c2] at d1 hk
        have pt := putF_i (n := 0) (w := (j : Int)) (x := .bl true) (h := [fdC (F ++ nw M F u j), stC (W ++ nw M F u j)]) (ks := (iN (F ++ nw M F u j)).map Sum.inl) (vs := (iN (F ++ nw M F u j)).map fun _ => .bl true) rfl hk hlF
        rw [List.set_cons_zero] at pt
        have eF : fdC (F ++ (nw M F u j ++ [j])) = .dct ((iN (F ++ nw M F u j)).map Sum.inl ++ [.inl (j : Int)]) (((iN (F ++ nw M F u j)).map fun _ => D.bl true) ++ [.bl true]) := by
          unfold fdC
          rw [← List.append_assoc, iN_app]
          simp [iN]
        have eW : stC (W ++ (nw M F u j ++ [j])) = .lst ((iN (W ++ nw M F u j)).map D.int ++ [.int (j : Int)]) := by
          unfold stC
          rw [← List.append_assoc, iN_app]
          simp [iN]
        rw [← eF] at pt
        have kk := kindOk_list (n := 1) (xs := (iN (W ++ nw M F u j)).map D.int) (h := [fdC (F ++ (nw M F u j ++ [j])), stC (W ++ nw M F u j)]) rfl
        have ap := appF_ref (n := 1) (xs := (iN (W ++ nw M F u j)).map D.int) (d := .int (j : Int)) (h := [fdC (F ++ (nw M F u j ++ [j])), stC (W ++ nw M F u j)]) rfl hlW
        rw [List.set_cons_succ, List.set_cons_zero, ← eW] at ap
        generalize fdC (F ++ (nw M F u j ++ [j])) = FD at *
        generalize stC (W ++ (nw M F u j ++ [j])) = SD at *
        generalize fdC (F ++ nw M F u j) = FC at *
        generalize stC (W ++ nw M F u j) = SC at *
        simp [m_reached_l1, c1, d1, pt, kk, ap]
    · rw [if_neg (fun z => c1 z.1)]
      generalize fdC (F ++ nw M F u j) = FC at *
      generalize stC (W ++ nw M F u j) = SC at *
      simp [m_reached_l1, c1]
theorem truW (F W : List Nat) : truD [fdC F, stC W] (.ref 1) = some (!W.isEmpty) := by
  rw [truD_ref (n := 1) (h := [fdC F, stC W]) (xs := (iN W).map D.int) rfl]
  cases W <;> rfl
theorem rch_while (b : Bool) {M : List (List Int)} (Cm : Chn M) {wall : Nat → Bool} {V : D} (hV : ∀ (u : Nat) h, inG true (.int (u : Int)) V h = .ok (.bl (!wall u)) h) {s : Nat} (x1 : Option D) : ∀ (d fuel : Nat) (F W : List Nat) (x5 x6 x7 : Option D), RI M wall s F W → W.length + (M.length - F.length) ≤ d → W.length ≤ F.length → d < fuel →
    ∃ y5 y6 y7, wl (bTru (eVar 4)) m_reached_l2 fuel [some (ch b M), x1, some V, some (.ref 0), some (.ref 1), x5, x6, x7] [fdC F, stC W] = .nx [some (ch b M), x1, some V, some (.ref 0), some (.ref 1), y5, y6, y7] [fdC (reaF M wall d F W), stC []] := by
  intro d
  induction d with
  | zero =>
    intro fuel F W x5 x6 x7 I h hwf hf
    have : W = [] := List.length_eq_zero_iff.mp (by omega)
    subst this
    obtain ⟨m, rfl⟩ : ∃ m, fuel = m + 1 := ⟨fuel - 1, by omega⟩
    refine ⟨x5, x6, x7, wl_stop (h1 := [fdC F, stC []]) ?_⟩
    have := truW F []
    generalize fdC F = FC at *
    generalize stC [] = SC at *
    simp [this]
  | succ d ih =>
    intro fuel F W x5 x6 x7 I h hwf hf
    obtain ⟨m, rfl⟩ : ∃ m, fuel = m + 1 := ⟨fuel - 1, by omega⟩
    rcases List.eq_nil_or_concat W with rfl | ⟨W', u, rfl⟩
    · refine ⟨x5, x6, x7, ?_⟩
      rw [reaF_nil]
      refine wl_stop (h1 := [fdC F, stC []]) ?_
      have := truW F []
      generalize fdC F = FC at *
      generalize stC [] = SC at *
      simp [this]
    · rw [List.concat_eq_append] at I h hwf ⊢
      rw [List.length_append, List.length_singleton] at h hwf
      have hu := I.lt u (I.wf u (by simp))
      have hi5 := Cm.hi
      have hFl := nd_len I.nd I.lt
      have tr := truW F (W' ++ [u])
      have tr' : (W' ++ [u]).isEmpty = false := by simp
      rw [tr'] at tr
      have es : stC (W' ++ [u]) = .lst ((iN W').map D.int ++ [.int (u : Int)]) := by
        unfold stC
        rw [iN_app]
        simp [iN]
      have pp := popF_end (n := 1) (xs := (iN W').map D.int) (d := .int (u : Int)) (h := [fdC F, stC (W' ++ [u])]) (by rw [es]; rfl)
      have ew : [fdC F, stC (W' ++ [u])].set 1 (.lst ((iN W').map D.int)) = [fdC F, stC W'] := rfl
      rw [ew] at pp
      have kk : kindOk [fdC F, stC (W' ++ [u])] "list" (.ref 1) = true := kindOk_list (n := 1) (xs := (iN (W' ++ [u])).map D.int) rfl
      have i1 := hV u
      rw [reaF_snoc]
      cases q : wall u with
      | true =>
        rw [if_pos rfl]
        obtain ⟨y5, y6, y7, e⟩ := ih m F W' (some (.int (u : Int))) x6 x7 (I.popW q) (by omega) (by omega) (by omega)
        refine ⟨y5, y6, y7, (wl_nx (h1 := [fdC F, stC (W' ++ [u])]) ?_ ?_).trans e⟩
        · generalize fdC F = FC at *
          generalize stC (W' ++ [u]) = SC at *
          simp [tr]
        · rw [q] at i1
          generalize fdC F = FC at *
          generalize stC (W' ++ [u]) = SC at *
          generalize stC W' = SW at *
          generalize ch b M = CD at *
          simp [m_reached_l2, kk, pp, i1]
      | false =>
        rw [if_neg (by decide)]
        have I2 := I.popO q
        have hl2 := nd_len I2.nd I2.lt
        rw [List.length_append] at hl2
        obtain ⟨z6, z7, el⟩ := rch_loop (M := M) (u := u) F W' (some (ch b M)) x1 (some V) (some (.int (u : Int))) (by omega) (by omega) M.length 0 x6 x7 (by omega)
        have en0 : nw M F u 0 = [] := rfl
        rw [en0, List.append_nil, List.append_nil, ← List.range_eq_range'] at el
        obtain ⟨y5, y6, y7, e⟩ := ih m (F ++ nw M F u M.length) (W' ++ nw M F u M.length) (some (.int (u : Int))) z6 z7 I2 (by rw [List.length_append, List.length_append]; omega) (by rw [List.length_append, List.length_append]; omega) (by omega)
        refine ⟨y5, y6, y7, (wl_nx (h1 := [fdC F, stC (W' ++ [u])]) ?_ ?_).trans e⟩
        · generalize fdC F = FC at *
          generalize stC (W' ++ [u]) = SC at *
          simp [tr]
        · rw [q] at i1
          have c1 := fun h => ch_ix b (M := M) hu h
          have c2 := fun h => enF_ch b (M.getD u []) h
          rw [enum_r, Cm.rowlen hu] at c2
          have ewt : ((List.range M.length).map fun (k : Nat) => D.tup [.int (k : Int), .int ((M.getD u []).getD k 0)]) = (List.range M.length).map fun (k : Nat) => D.tup [.int (k : Int), .int (wt M u k)] := rfl
          rw [ewt] at c2
          generalize ((List.range M.length).map fun (k : Nat) => D.tup [.int (k : Int), .int (wt M u k)]) = EN at *
          generalize fdC (F ++ nw M F u M.length) = FD at *
          generalize stC (W' ++ nw M F u M.length) = SD at *
          generalize fdC F = FC at *
          generalize stC (W' ++ [u]) = SC at *
          generalize stC W' = SW at *
          generalize sq b (M.getD u []) = RD at *
          generalize ch b M = CD at *
          simp [m_reached_l2, kk, pp, i1, c1, c2, el]
end Mp
/-! ReaB: which states are reached, by the program and by the law. -/
namespace Mp
open PySem PySem.Spec PyProof.Rows L2
def srN (F : List Nat) : List Nat := isort (fun a b => decide (a ≤ b)) F
theorem totN : Tot (fun a b : Nat => decide (a ≤ b)) := ⟨fun a b h1 h2 => by simp at h1 h2; omega, fun a b => by simp; omega, fun a b c h1 h2 => by simp at h1 h2 ⊢; omega⟩
theorem srN_perm (F : List Nat) : (srN F).Perm F := isort_perm _ F
theorem srN_mem {F : List Nat} {k : Nat} : k ∈ srN F ↔ k ∈ F := (srN_perm F).mem_iff
theorem sortI_iN (F : List Nat) : sortI (iN F) = iN (srN F) := by
  refine (isort_uniq tot_I ?_ ?_).symm
  · exact (srN_perm F).map _
  · unfold iN srN
    rw [List.pairwise_map]
    exact List.Pairwise.imp (fun {a b} h => by simp [leI] at h ⊢; omega) (isort_pw totN F)
/-- sorted, without repetition: the states one by one -/
theorem srN_filter {F : List Nat} {n : Nat} (nd : F.Nodup) (lt : ∀ f ∈ F, f < n) : srN F = (List.range n).filter fun k => decide (k ∈ F) := by
  have h1 : (srN F).Perm ((List.range n).filter fun k => decide (k ∈ F)) := (List.perm_ext_iff_of_nodup ((srN_perm F).nodup_iff.mpr nd) (List.Pairwise.filter _ List.nodup_range)).mpr fun k => by
    rw [srN_mem, List.mem_filter, decide_eq_true_eq, List.mem_range]
    exact ⟨fun h => ⟨lt k h, h⟩, fun h => h.2⟩
  have h2 : ((List.range n).filter fun k => decide (k ∈ F)).Pairwise fun a b => decide (a ≤ b) = true := by
    refine List.Pairwise.filter _ ?_
    exact List.Pairwise.imp (fun {a b} h => by simp; omega) List.pairwise_lt_range
  exact pw_uniq totN (isort_pw totN F) h2 h1
theorem reached_ok (b : Bool) {M : List (List Int)} (Cm : Chn M) {wall : Nat → Bool} {V : D} (fV : flat V = true) (hV : ∀ (u : Nat) h, inG true (.int (u : Int)) V h = .ok (.bl (!wall u)) h) {s : Nat} (hs : s < M.length) (h : Hc) : callL m_reached [ch b M, .int (s : Int), V] h = .ok (.lst ((iN (srN (reach M wall s))).map D.int)) h := by
  have I0 : RI M wall s [s] [s] := ⟨by simp, fun f hf => by
    have : f = s := by simpa using hf
    omega, fun f hf => by
    have : f = s := by simpa using hf
    subst this; exact .base, by simp, fun w hw => hw, fun u hu hW => absurd hu hW⟩
  have hi5 := Cm.hi
  obtain ⟨y5, y6, y7, e1⟩ := rch_while b Cm hV (s := s) (some (.int (s : Int))) (M.length + 1) 100000 [s] [s] none none none I0 (by simp; omega) (by simp) (by omega)
  have er : reaF M wall (M.length + 1) [s] [s] = reach M wall s := rfl
  rw [er] at e1
  obtain ⟨nd, lt, mem⟩ := reach_spec wall hs
  have hlen := nd_len nd lt
  have sx : sortX [fdC (reach M wall s), stC []] (.ref 0) = some ((iN (srN (reach M wall s))).map D.int) := by
    obtain ⟨x, r, exr⟩ : ∃ x r, reach M wall s = x :: r := by
      cases q : reach M wall s with
      | nil =>
        have := (mem s).mpr .base
        rw [q] at this
        cases this
      | cons x r => exact ⟨x, r, rfl⟩
    have kI : ∀ l : List Int, keysI (l.map Sum.inl) = some l := fun l => by
      induction l with
      | nil => rfl
      | cons y l ih =>
        show (keysI (l.map Sum.inl)).map (y :: ·) = _
        rw [ih]; rfl
    have kS : keysS ((iN (reach M wall s)).map Sum.inl) = none := by rw [exr]; rfl
    have hl64 : (iN (reach M wall s)).length < 64 := by rw [iN_len]; omega
    unfold sortX
    simp only [rdlD, lstD, dctD, fdC, List.getElem?_cons_zero, kS, kI]
    rw [if_pos hl64, sortI_iN]
  refine call_flat (h' := [fdC (reach M wall s), stC []]) (by simp [fV, flat_ch]) ?_ (by simp) h
  unfold m_reached
  rw [runB_s]
  have e0 : fdC [s] = .dct [.inl (s : Int)] [.bl true] := rfl
  have e0' : stC [s] = .lst [.int (s : Int)] := rfl
  rw [e0, e0'] at e1
  generalize (iN (srN (reach M wall s))).map D.int = RL at *
  generalize fdC (reach M wall s) = FD at *
  generalize stC [] = SD at *
  generalize ch b M = CD at *
  simp [eDct1, gVar, gC, keyD, e1, sortF, sx]
/-! ### the law -/
theorem lrch_loop {M : List (List Int)} (Cm : Chn M) {u : Nat} (hu : u < M.length) (F W : List Nat) (x1 x2 x5 : Option D) (hF : F.length + M.length ≤ 1000) (hW : W.length + M.length ≤ 1000) : ∀ (m j : Nat) (x7 : Option D), j + m = M.length → ∃ y7,
    fl (fun _ => true) (.n 7) m_law_reach_l1 ((List.range' j m).map fun (k : Nat) => D.int (k : Int)) [some (ch false M), x1, x2, some (.ref 0), some (.ref 1), x5, some (.int (u : Int)), x7] [stC (F ++ nw M F u j), stC (W ++ nw M F u j)] =
      .nx [some (ch false M), x1, x2, some (.ref 0), some (.ref 1), x5, some (.int (u : Int)), y7] [stC (F ++ nw M F u M.length), stC (W ++ nw M F u M.length)]
  | 0, j, x7, hj => by
    have : j = M.length := by omega
    subst this
    exact ⟨x7, fl_end rfl⟩
  | m + 1, j, x7, hj => by
    have hj' : j < M.length := by omega
    obtain ⟨y7, ih⟩ := lrch_loop Cm hu F W x1 x2 x5 hF hW m (j + 1) (some (.int (j : Int))) (by omega)
    refine ⟨y7, ?_⟩
    rw [List.range'_succ, List.map_cons]
    refine Eq.trans (fl_n (b := m_law_reach_l1) ?_) ih
    have hnl : (nw M F u j).length ≤ j := nd_len (nw_nd M F u j) fun f hf => nw_lt hf
    have hmem : ((j : Int) ∈ iN (F ++ nw M F u j)) ↔ j ∈ F := by
      rw [iN_mem, List.mem_append]
      refine ⟨fun h => ?_, .inl⟩
      rcases h with h | h
      · exact h
      · exact absurd (nw_lt h) (by omega)
    have c1 := fun h => ch_ix false (M := M) hu h
    have c2 := fun h => row_ix false (r := M.getD u []) (t := j) (by rw [Cm.rowlen hu]; exact hj') h
    have ewt : (M.getD u []).getD j 0 = wt M u j := rfl
    rw [ewt] at c2
    have d1 : inG true (.int (j : Int)) (.ref 0) [stC (F ++ nw M F u j), stC (W ++ nw M F u j)] = .ok (.bl (!decide (j ∈ F))) [stC (F ++ nw M F u j), stC (W ++ nw M F u j)] := by
      rw [inG_i true (j : Int) (us := iN (F ++ nw M F u j)) (by simp [seqD, stC])]
      simp only [hmem, if_true]
    have hlF : ((iN (F ++ nw M F u j)).map D.int).length < 1000000 := by rw [List.length_map, iN_len, List.length_append]; omega
    have hlW : ((iN (W ++ nw M F u j)).map D.int).length < 1000000 := by rw [List.length_map, iN_len, List.length_append]; omega
    rw [nw_succ]
    generalize sq false (M.getD u []) = RD at *
    generalize wt M u j = w at *
    by_cases c1' : 0 < w
    · by_cases c2' : j ∈ F
      · rw [if_neg (fun z => z.2 c2')]
        rw [decide_eq_true c2'] at d1
        generalize stC (F ++ nw M F u j) = FC at *
        generalize stC (W ++ nw M F u j) = SC at *
        generalize ch false M = CD at *
        simp [m_law_reach_l1, c1, c2, c1', d1]
      · rw [if_pos ⟨c1', c2'⟩]
        rw [decide_eq_false c2'] at d1
        have eS : ∀ G : List Nat, stC (G ++ (nw M F u j ++ [j])) = .lst ((iN (G ++ nw M F u j)).map D.int ++ [.int (j : Int)]) := fun G => by
          unfold stC
          rw [← List.append_assoc, iN_app]
          simp [iN]
        have k0 := kindOk_list (n := 0) (xs := (iN (F ++ nw M F u j)).map D.int) (h := [stC (F ++ nw M F u j), stC (W ++ nw M F u j)]) rfl
        have a0 := appF_ref (n := 0) (xs := (iN (F ++ nw M F u j)).map D.int) (d := .int (j : Int)) (h := [stC (F ++ nw M F u j), stC (W ++ nw M F u j)]) rfl hlF
        rw [List.set_cons_zero, ← eS] at a0
        have kk := kindOk_list (n := 1) (xs := (iN (W ++ nw M F u j)).map D.int) (h := [stC (F ++ (nw M F u j ++ [j])), stC (W ++ nw M F u j)]) rfl
        have ap := appF_ref (n := 1) (xs := (iN (W ++ nw M F u j)).map D.int) (d := .int (j : Int)) (h := [stC (F ++ (nw M F u j ++ [j])), stC (W ++ nw M F u j)]) rfl hlW
        rw [List.set_cons_succ, List.set_cons_zero, ← eS] at ap
        clear eS
        generalize stC (F ++ (nw M F u j ++ [j])) = FD at *
        generalize stC (W ++ (nw M F u j ++ [j])) = SD at *
        generalize stC (F ++ nw M F u j) = FC at *
        generalize stC (W ++ nw M F u j) = SC at *
        generalize ch false M = CD at *
        simp [m_law_reach_l1, c1, c2, c1', d1, k0, a0, kk, ap]
    · rw [if_neg (fun z => c1' z.1)]
      generalize stC (F ++ nw M F u j) = FC at *
      generalize stC (W ++ nw M F u j) = SC at *
      generalize ch false M = CD at *
      simp [m_law_reach_l1, c1, c2, c1']
theorem lenW (F W : List Nat) : lenF [.ref 1] [stC F, stC W] = .ok (.int (W.length : Int)) [stC F, stC W] := by
  rw [lenF_ref (n := 1) (h := [stC F, stC W]) (xs := (iN W).map D.int) rfl, List.length_map, iN_len]
theorem lrch_for {M : List (List Int)} (Cm : Chn M) {wall : Nat → Bool} {V : D} (hV : ∀ (u : Nat) h, inG true (.int (u : Int)) V h = .ok (.bl (!wall u)) h) {s : Nat} (x1 : Option D) : ∀ (items : List D) (F W : List Nat) (x5 x6 x7 : Option D), RI M wall s F W → W.length + (M.length - F.length) + 1 ≤ items.length → W.length ≤ F.length →
    ∃ y5 y6 y7, fl (fun _ => true) (.n 5) m_law_reach_l2 items [some (ch false M), x1, some V, some (.ref 0), some (.ref 1), x5, x6, x7] [stC F, stC W] = .nx [some (ch false M), x1, some V, some (.ref 0), some (.ref 1), y5, y6, y7] [stC (reaF M wall items.length F W), stC []]
  | [], F, W, x5, x6, x7, I, h, hwf => by simp at h
  | it :: items, F, W, x5, x6, x7, I, h, hwf => by
    rw [List.length_cons] at h ⊢
    rcases List.eq_nil_or_concat W with rfl | ⟨W', u, rfl⟩
    · refine ⟨some it, x6, x7, ?_⟩
      rw [reaF_nil]
      refine fl_bk rfl (bindP_n ..) ?_
      have lw := lenW F []
      generalize stC F = FC at *
      generalize stC [] = SC at *
      generalize ch false M = CD at *
      simp [m_law_reach_l2, lw]
    · rw [List.concat_eq_append] at I h hwf ⊢
      rw [List.length_append, List.length_singleton] at h hwf
      have hu := I.lt u (I.wf u (by simp))
      have hi5 := Cm.hi
      have hFl := nd_len I.nd I.lt
      have lw := lenW F (W' ++ [u])
      have lw0 : ¬ (((W' ++ [u]).length : Nat) : Int) = 0 := by simp; omega
      have es : stC (W' ++ [u]) = .lst ((iN W').map D.int ++ [.int (u : Int)]) := by
        unfold stC
        rw [iN_app]
        simp [iN]
      have pp := popF_end (n := 1) (xs := (iN W').map D.int) (d := .int (u : Int)) (h := [stC F, stC (W' ++ [u])]) (by rw [es]; rfl)
      have ew : [stC F, stC (W' ++ [u])].set 1 (.lst ((iN W').map D.int)) = [stC F, stC W'] := rfl
      rw [ew] at pp
      have kk : kindOk [stC F, stC (W' ++ [u])] "list" (.ref 1) = true := kindOk_list (n := 1) (xs := (iN (W' ++ [u])).map D.int) rfl
      have i1 := hV u
      rw [reaF_snoc]
      cases q : wall u with
      | true =>
        rw [if_pos rfl]
        obtain ⟨y5, y6, y7, e⟩ := lrch_for Cm hV x1 items F W' (some it) (some (.int (u : Int))) x7 (I.popW q) (by omega) (by omega)
        refine ⟨y5, y6, y7, (fl_n (b := m_law_reach_l2) ?_).trans e⟩
        rw [q] at i1
        generalize (((W' ++ [u]).length : Nat) : Int) = LW at *
        generalize stC F = FC at *
        generalize stC (W' ++ [u]) = SC at *
        generalize stC W' = SW at *
        generalize ch false M = CD at *
        simp [m_law_reach_l2, lw, lw0, kk, pp, i1]
      | false =>
        rw [if_neg (by decide)]
        have I2 := I.popO q
        have hl2 := nd_len I2.nd I2.lt
        rw [List.length_append] at hl2
        obtain ⟨z7, el⟩ := lrch_loop Cm hu F W' x1 (some V) (some it) (by omega) (by omega) M.length 0 x7 (by omega)
        have en0 : nw M F u 0 = [] := rfl
        rw [en0, List.append_nil, List.append_nil, ← List.range_eq_range'] at el
        obtain ⟨y5, y6, y7, e⟩ := lrch_for Cm hV x1 items (F ++ nw M F u M.length) (W' ++ nw M F u M.length) (some it) (some (.int (u : Int))) z7 I2 (by rw [List.length_append, List.length_append]; omega) (by rw [List.length_append, List.length_append]; omega)
        refine ⟨y5, y6, y7, (fl_n (b := m_law_reach_l2) ?_).trans e⟩
        rw [q] at i1
        have hX : ∀ h, lenF [ch false M] h = .ok (.int (M.length : Int)) h := fun h => by unfold ch; rw [len_sqs, List.length_map]
        have er : ∀ h, rg1F [.int (M.length : Int)] h = .ok ⟨(List.range M.length).map fun (k : Nat) => D.int (k : Int), fun _ => true⟩ h := fun h => by
          rw [rg1F_int, if_pos (rgOk_nat (by omega)), Int.toNat_natCast]
          unfold upFrom
          simp
        generalize ((List.range M.length).map fun (k : Nat) => D.int (k : Int)) = RG at *
        generalize (((W' ++ [u]).length : Nat) : Int) = LW at *
        generalize stC (F ++ nw M F u M.length) = FD at *
        generalize stC (W' ++ nw M F u M.length) = SD at *
        generalize stC F = FC at *
        generalize stC (W' ++ [u]) = SC at *
        generalize stC W' = SW at *
        generalize ch false M = CD at *
        simp [m_law_reach_l2, lw, lw0, kk, pp, i1, hX, er, el]
theorem law_reach_ok {M : List (List Int)} (Cm : Chn M) {wall : Nat → Bool} {V : D} (fV : flat V = true) (hV : ∀ (u : Nat) h, inG true (.int (u : Int)) V h = .ok (.bl (!wall u)) h) {s : Nat} (hs : s < M.length) (h : Hc) : callL m_law_reach [ch false M, .int (s : Int), V] h = .ok (.lst ((iN (reach M wall s)).map D.int)) h := by
  have I0 : RI M wall s [s] [s] := ⟨by simp, fun f hf => by
    have : f = s := by simpa using hf
    omega, fun f hf => by
    have : f = s := by simpa using hf
    subst this; exact .base, by simp, fun w hw => hw, fun u hu hW => absurd hu hW⟩
  have hi5 := Cm.hi
  obtain ⟨y5, y6, y7, e1⟩ := lrch_for Cm hV (s := s) (some (.int (s : Int))) (upFrom 0 (M.length + 1)) [s] [s] none none none I0 (by unfold upFrom; simp; omega) (by simp)
  have eul : (upFrom 0 (M.length + 1)).length = M.length + 1 := by unfold upFrom; simp
  rw [eul] at e1
  have er : reaF M wall (M.length + 1) [s] [s] = reach M wall s := rfl
  rw [er] at e1
  have ff : flatL ((iN (reach M wall s)).map D.int) = true := by simp
  refine call_pure (h' := [stC (reach M wall s), stC []]) (d0 := .ref 0) (by simp [fV, flat_ch]) ?_ (frz_cell (rs := []) (n := 6) (by simp) rfl ff) h
  unfold m_law_reach
  rw [runB_s]
  have hX : ∀ h, lenF [ch false M] h = .ok (.int (M.length : Int)) h := fun h => by unfold ch; rw [len_sqs, List.length_map]
  have er2 : ∀ h, rg1F [.int ((M.length : Int) + 1)] h = .ok ⟨upFrom 0 (M.length + 1), fun _ => true⟩ h := fun h => by
    rw [rg1F_int, if_pos (rgOk_of (by omega) (by omega))]
    rfl
  have e0' : stC [s] = .lst [.int (s : Int)] := rfl
  rw [e0'] at e1
  generalize upFrom 0 (M.length + 1) = UF at *
  generalize stC (reach M wall s) = FD at *
  generalize stC [] = SD at *
  generalize ch false M = CD at *
  simp [hX, er2, e1]
end Mp
/-! SysA: the lines of a chain with known states. -/
namespace Mp
open PySem PySem.Spec PyProof.Rows L2
def sm1 (M : List (List Int)) (s : Nat) : Int := (M.getD s []).sum
def shQ (M : List (List Int)) (s j : Nat) : Rat := ((wt M s j : Int) : Rat) / ((sm1 M s : Int) : Rat)
def dl (j s : Nat) : Rat := if j = s then 1 else 0
def sysR (M : List (List Int)) (kn : Nat → Option Rat) (base : Rat) : Mx := fun s => match kn s with
  | some q => fun j => if j = M.length then q else dl j s
  | none => fun j => if j = M.length then base else dl j s - shQ M s j
theorem Chn.at1 {M : List (List Int)} (C : Chn M) {s : Nat} (hs : s < M.length) : 0 < sm1 M s ∧ sm1 M s ≤ 45 ∧ ∀ j, 0 ≤ wt M s j ∧ wt M s j ≤ 9 := by
  have hm : M.getD s [] ∈ M := by simp [List.getD, hs]
  obtain ⟨h1, h2, h3⟩ := C.row _ hm
  have h4 := (sum_le9 _ h3).2
  have h5 := C.hi
  refine ⟨h2, by unfold sm1; omega, fun j => ?_⟩
  unfold wt
  by_cases hj : j < (M.getD s []).length
  · have : (M.getD s []).getD j 0 ∈ M.getD s [] := by
      generalize M.getD s [] = r at *
      simp [List.getD, hj]
    exact h3 _ this
  · rw [List.getD, List.getElem?_eq_none (by omega)]
    simp
theorem sum_sumR : ∀ (r : List Int), ((r.sum : Int) : Rat) = sumR (fun j => ((r.getD j 0 : Int) : Rat)) r.length := by
  intro r
  have key : ∀ (r : List Int) (n : Nat), r.length = n → ((r.sum : Int) : Rat) = sumR (fun j => ((r.getD j 0 : Int) : Rat)) n := by
    intro r n
    induction n generalizing r with
    | zero =>
      intro h
      have : r = [] := List.length_eq_zero_iff.mp h
      subst this
      rfl
    | succ n ih =>
      intro h
      rcases List.eq_nil_or_concat r with rfl | ⟨r', x, rfl⟩
      · simp at h
      · rw [List.concat_eq_append] at h ⊢
        rw [List.length_append, List.length_singleton] at h
        have hr : r'.length = n := by omega
        rw [List.sum_append, Rat.intCast_add, ih r' hr, sumR]
        have e1 : sumR (fun j => (((r' ++ [x]).getD j 0 : Int) : Rat)) n = sumR (fun j => ((r'.getD j 0 : Int) : Rat)) n := sumR_congr fun i hi => by
          have : (r' ++ [x]).getD i 0 = r'.getD i 0 := by
            simp only [List.getD]
            rw [List.getElem?_append_left (by omega)]
          rw [this]
        have e2 : (r' ++ [x]).getD n 0 = x := by
          simp only [List.getD]
          rw [List.getElem?_append_right (by omega), hr, Nat.sub_self]
          rfl
        rw [e1, e2]
        simp
  exact key r _ rfl
theorem Chn.sumR1 {M : List (List Int)} (C : Chn M) {s : Nat} (hs : s < M.length) : ((sm1 M s : Int) : Rat) = sumR (fun j => ((wt M s j : Int) : Rat)) M.length := by
  unfold sm1
  rw [sum_sumR, C.rowlen hs]
  rfl
theorem sm1_ne {M : List (List Int)} (C : Chn M) {s : Nat} (hs : s < M.length) : ((sm1 M s : Int) : Rat) ≠ 0 := by
  have := (C.at1 hs).1
  intro z
  have : sm1 M s = 0 := by exact_mod_cast z
  omega
theorem sumR_sub (f g : Nat → Rat) (n : Nat) : sumR (fun i => f i - g i) n = sumR f n - sumR g n := by
  have : sumR (fun i => f i - g i) n = sumR (fun i => f i + (-1) * g i) n := sumR_congr fun i _ => by grind
  rw [this, sumR_add, sumR_mul]
  grind
theorem sumR_dl (x : Nat → Rat) {n s : Nat} (hs : s < n) : sumR (fun j => dl j s * x j) n = x s := by
  rw [sumR_one (k := s) hs fun i _ hne => by unfold dl; rw [if_neg hne]; grind]
  unfold dl
  rw [if_pos rfl]
  grind
/-! ### the greatest is found at a known state -/
theorem sumR_nn {f : Nat → Rat} : ∀ {n : Nat}, (∀ i, i < n → 0 ≤ f i) → 0 ≤ sumR f n
  | 0, _ => by simp only [sumR]; exact Rat.le_refl
  | n + 1, h => by
    have h1 := sumR_nn (f := f) (n := n) fun i hi => h i (by omega)
    have h2 := h n (by omega)
    rw [sumR]
    grind
theorem sumR_nz {f : Nat → Rat} : ∀ {n : Nat}, (∀ i, i < n → 0 ≤ f i) → sumR f n = 0 → ∀ i, i < n → f i = 0
  | 0, _, _, i, hi => by omega
  | n + 1, h, e, i, hi => by
    have h1 := sumR_nn (f := f) (n := n) fun i hi => h i (by omega)
    have h2 := h n (by omega)
    rw [sumR] at e
    by_cases q : i = n
    · subst q
      grind
    · exact sumR_nz (f := f) (n := n) (fun i hi => h i (by omega)) (by grind) i (by omega)
theorem max_ex (f : Nat → Rat) : ∀ {n : Nat}, 1 ≤ n → ∃ i, i < n ∧ ∀ j, j < n → f j ≤ f i
  | 0, h => by omega
  | n + 1, _ => by
    by_cases h0 : n = 0
    · subst h0
      exact ⟨0, by omega, fun j hj => by have : j = 0 := by omega
                                         subst this; exact Rat.le_refl⟩
    · obtain ⟨i, hi, hm⟩ := max_ex f (n := n) (by omega)
      by_cases c : f i ≤ f n
      · refine ⟨n, by omega, fun j hj => ?_⟩
        by_cases q : j = n
        · subst q; exact Rat.le_refl
        · have := hm j (by omega)
          grind
      · refine ⟨i, by omega, fun j hj => ?_⟩
        by_cases q : j = n
        · subst q; grind
        · exact hm j (by omega)
/-- a mean that is not below its greatest item is made of it alone -/
theorem mean_all {M : List (List Int)} (C : Chn M) {s : Nat} (hs : s < M.length) {x : Nat → Rat} {X : Rat} (hX : ∀ j, j < M.length → x j ≤ X) (h : ((sm1 M s : Int) : Rat) * X ≤ sumR (fun j => ((wt M s j : Int) : Rat) * x j) M.length) : ∀ j, j < M.length → 0 < wt M s j → x j = X := by
  have w0 : ∀ j, (0 : Rat) ≤ ((wt M s j : Int) : Rat) := fun j => by exact_mod_cast ((C.at1 hs).2.2 j).1
  have e : sumR (fun j => ((wt M s j : Int) : Rat) * (X - x j)) M.length = ((sm1 M s : Int) : Rat) * X - sumR (fun j => ((wt M s j : Int) : Rat) * x j) M.length := by
    rw [C.sumR1 hs]
    have : X * sumR (fun j => ((wt M s j : Int) : Rat)) M.length = sumR (fun j => X * ((wt M s j : Int) : Rat)) M.length := (sumR_mul X _ _).symm
    rw [Rat.mul_comm _ X, this, ← sumR_sub]
    exact sumR_congr fun j _ => by grind
  have nn : ∀ j, j < M.length → 0 ≤ ((wt M s j : Int) : Rat) * (X - x j) := fun j hj => Rat.mul_nonneg (w0 j) (by have := hX j hj; grind)
  have hz : sumR (fun j => ((wt M s j : Int) : Rat) * (X - x j)) M.length = 0 := by
    have := sumR_nn nn
    grind
  intro j hj hp
  have := sumR_nz nn hz j hj
  rcases Rat.mul_eq_zero.mp this with z | z
  · have : wt M s j = 0 := by exact_mod_cast z
    omega
  · grind
/-- from s some known state can be reached -/
def Goes (M : List (List Int)) (kn : Nat → Option Rat) : Prop := ∀ s, s < M.length → kn s = none → ∃ t, Rc M (fun _ => false) s t ∧ kn t ≠ none
theorem Rc.lt {M : List (List Int)} {wall : Nat → Bool} {s t : Nat} (h : Rc M wall s t) (hs : s < M.length) : t < M.length := by
  cases h with
  | base => exact hs
  | step _ _ _ hv => exact hv
/-- what is nowhere above its mean is greatest at a known state -/
theorem top_known {M : List (List Int)} (C : Chn M) {kn : Nat → Option Rat} (G : Goes M kn) {x : Nat → Rat} (hx : ∀ s, s < M.length → kn s = none → ((sm1 M s : Int) : Rat) * x s ≤ sumR (fun j => ((wt M s j : Int) : Rat) * x j) M.length) : ∃ t, t < M.length ∧ kn t ≠ none ∧ ∀ j, j < M.length → x j ≤ x t := by
  obtain ⟨s, hs, hm⟩ := max_ex x C.lo
  by_cases hk : kn s = none
  · obtain ⟨t, hr, ht⟩ := G s hs hk
    have key : ∀ u, Rc M (fun _ => false) s u → (x u = x s) ∨ ∃ t, t < M.length ∧ kn t ≠ none ∧ x t = x s := by
      intro u hu
      induction hu with
      | base => exact .inl rfl
      | @step u v hr' _ hp hv ih =>
        rcases ih with ih | ih
        · have hul := hr'.lt hs
          by_cases hku : kn u = none
          · left
            have := hx u hul hku
            rw [ih] at this
            exact mean_all C hul hm this v hv hp
          · exact .inr ⟨u, hul, hku, ih⟩
        · exact .inr ih
    rcases key t hr with h | ⟨t', h1, h2, h3⟩
    · exact ⟨t, hr.lt hs, ht, fun j hj => by rw [h]; exact hm j hj⟩
    · exact ⟨t', h1, h2, fun j hj => by rw [h3]; exact hm j hj⟩
  · exact ⟨s, hs, hk, hm⟩
end Mp
/-! SysB: the law's lines; the program's lines of the open states alone. -/
namespace Mp
open PySem PySem.Spec PyProof.Rows L2
def oqD : Option Rat → D
  | some q => qD q
  | none => .non
def knD1 (kn : Nat → Option Rat) (n : Nat) : List D := (List.range n).map fun s => oqD (kn s)
end Mp
/-! SysC: the open states alone. -/
namespace Mp
open PySem PySem.Spec PyProof.Rows L2
theorem split_sum {n : Nat} (g : Nat → Rat) : ∀ {A : List Nat}, A.Nodup → (∀ a ∈ A, a < n) → sumR g n = sumR (fun c => g (A.getD c 0)) A.length + sumR (fun j => if j ∈ A then 0 else g j) n := by
  intro A
  generalize hm : A.length = m
  induction m generalizing A with
  | zero =>
    intro _ _
    have : A = [] := List.length_eq_zero_iff.mp hm
    subst this
    have : sumR (fun j => if j ∈ ([] : List Nat) then 0 else g j) n = sumR g n := sumR_congr fun j _ => by simp
    rw [this]
    simp only [sumR]
    grind
  | succ m ih =>
    intro nd lt
    rcases List.eq_nil_or_concat A with rfl | ⟨A', a, rfl⟩
    · simp at hm
    · rw [List.concat_eq_append] at hm nd lt ⊢
      rw [List.length_append, List.length_singleton] at hm
      have hm' : A'.length = m := by omega
      rw [List.nodup_append] at nd
      obtain ⟨n1, _, n3⟩ := nd
      have ha : a ∉ A' := fun h => n3 a h a (by simp) rfl
      have han := lt a (by simp)
      rw [ih hm' n1 fun x hx => lt x (by simp [hx]), sumR]
      have e1 : sumR (fun c => g ((A' ++ [a]).getD c 0)) m = sumR (fun c => g (A'.getD c 0)) m := sumR_congr fun c hc => by
        have : (A' ++ [a]).getD c 0 = A'.getD c 0 := by
          simp only [List.getD]
          rw [List.getElem?_append_left (by omega)]
        rw [this]
      have e2 : (A' ++ [a]).getD m 0 = a := by
        simp only [List.getD]
        rw [List.getElem?_append_right (by omega), hm', Nat.sub_self]
        rfl
      have e3 : sumR (fun j => if j ∈ A' then 0 else g j) n = g a + sumR (fun j => if j ∈ A' ++ [a] then 0 else g j) n := by
        have : sumR (fun j => (if j ∈ A' then 0 else g j) - (if j ∈ A' ++ [a] then 0 else g j)) n = g a := by
          rw [sumR_one (k := a) han fun i _ hne => by
            have : (i ∈ A' ++ [a]) ↔ i ∈ A' := by
              rw [List.mem_append]
              refine ⟨fun h => ?_, .inl⟩
              rcases h with h | h
              · exact h
              · exact absurd (by simpa using h) hne
            simp only [this]
            split <;> grind]
          rw [if_neg ha, if_pos (by simp)]
          grind
        rw [sumR_sub] at this
        grind
      rw [e1, e2, e3]
      grind
/-- the program's line of the open state at place i -/
def rowA (M : List (List Int)) (A : List Nat) (i : Nat) (rhs : Int) : List Int := ((List.range A.length).map fun c => (if c = i then sm1 M (A.getD i 0) else 0) - wt M (A.getD i 0) (A.getD c 0)) ++ [rhs]
def wA (M : List (List Int)) (A : List Nat) (rhs : Nat → Int) : Wk := fun i => rowA M A i (rhs (A.getD i 0))
/-- the numbers of the open states, and the known ones -/
def extX (A : List Nat) (kn : Nat → Option Rat) (t : Rat) (y : Nat → Rat) : Nat → Rat := fun s => match kn s with
  | none => y (A.idxOf s)
  | some q => t * q
end Mp
/-! EqFit: == of values with themselves. -/
namespace Mp
open PySem PySem.Spec PyProof.Rows L2
def eqFit : Nat → D → Bool
  | _, .int _ => true
  | _, .bl _ => true
  | _, .non => true
  | _, .str z => PyData.strOk z
  | n + 1, .tup xs => xs.all (eqFit n)
  | n + 1, .lst xs => xs.all (eqFit n)
  | n + 1, .scr xs => xs.all (eqFit n)
  | _, _ => false
theorem eqFit_L {n : Nat} (ih : ∀ d, eqFit n d = true → ∃ p, toPy d = some p ∧ p.canLay0 = true ∧ p.depth ≤ n) : ∀ xs : List D, xs.all (eqFit n) = true → ∃ ps, toPyL xs = some ps ∧ PyData.canLayAll0 ps = true ∧ PyData.depthAll ps ≤ n
  | [], _ => ⟨[], rfl, rfl, Nat.zero_le _⟩
  | x :: r, h => by
    rw [List.all_cons, Bool.and_eq_true] at h
    obtain ⟨p, h1, h2, h3⟩ := ih x h.1
    obtain ⟨ps, g1, g2, g3⟩ := eqFit_L ih r h.2
    refine ⟨p :: ps, ?_, ?_, ?_⟩
    · unfold toPyL; rw [h1, g1]
    · simp [PyData.canLayAll0, h2, g2]
    · simp only [PyData.depthAll]; omega
theorem eqFit_py : ∀ (n : Nat) (d : D), eqFit n d = true → ∃ p, toPy d = some p ∧ p.canLay0 = true ∧ p.depth ≤ n
  | n, .int i, _ => ⟨.int i, by simp [toPy], by simp [PyData.canLay0], by simp [PyData.depth]⟩
  | n, .bl i, _ => ⟨.bool i, by simp [toPy], by simp [PyData.canLay0], by simp [PyData.depth]⟩
  | n, .non, _ => ⟨.none, by simp [toPy], by simp [PyData.canLay0], by simp [PyData.depth]⟩
  | n, .str z, h => ⟨.str z, by simp [toPy], by
      have : PyData.strOk z = true := by cases n <;> simpa [eqFit] using h
      simp [PyData.canLay0, this], by simp [PyData.depth]⟩
  | 0, .tup xs, h => by simp [eqFit] at h
  | 0, .lst xs, h => by simp [eqFit] at h
  | 0, .scr xs, h => by simp [eqFit] at h
  | n + 1, .tup xs, h => by
    unfold eqFit at h
    obtain ⟨ps, h1, h2, h3⟩ := eqFit_L (eqFit_py n) xs h
    exact ⟨.tuple ps, by simp [toPy, h1], by simp [PyData.canLay0, h2], by simp [PyData.depth]; omega⟩
  | n + 1, .lst xs, h => by
    unfold eqFit at h
    obtain ⟨ps, h1, h2, h3⟩ := eqFit_L (eqFit_py n) xs h
    exact ⟨.list ps, by simp [toPy, h1], by simp [PyData.canLay0, h2], by simp [PyData.depth]; omega⟩
  | n + 1, .scr xs, h => by
    unfold eqFit at h
    obtain ⟨ps, h1, h2, h3⟩ := eqFit_L (eqFit_py n) xs h
    exact ⟨.list ps, by simp [toPy, h1], by simp [PyData.canLay0, h2], by simp [PyData.depth]; omega⟩
  | n, .dct k v, h => by cases n <;> simp [eqFit] at h
  | n, .ref i, h => by cases n <;> simp [eqFit] at h
  | n, .ty i, h => by cases n <;> simp [eqFit] at h
theorem eqG_self (neg : Bool) {n : Nat} {d : D} (f : eqFit n d = true) (hn : n ≤ 64) (h : Hc) : eqG neg d d h = .ok (.bl (!neg)) h := by
  obtain ⟨p, h1, h2, h3⟩ := eqFit_py n d f
  have sh : SeqAt.shaped p = true := by unfold SeqAt.shaped; simp [h2]; omega
  have ev := SeqAt.eqv_refl p h2
  have fin : ∀ (e : toPyR h d = some p), (match toPyR h d, toPyR h d with
    | some a, some b => if SeqAt.shaped a = true ∧ SeqAt.shaped b = true then R.ok (D.bl (if neg = true then !PyData.eqv a b else PyData.eqv a b)) h else .bad
    | _, _ => .bad) = .ok (.bl (!neg)) h := fun e => by
    rw [e]
    simp only
    rw [if_pos ⟨sh, sh⟩, ev]
    cases neg <;> rfl
  cases d with
  | tup xs => exact fin (show toPyR h (.tup xs) = some p from h1)
  | lst xs => exact fin (show toPyR h (.lst xs) = some p from h1)
  | scr xs => exact fin (show toPyR h (.scr xs) = some p from h1)
  | int i => cases neg <;> simp [eqG]
  | bl i => cases neg <;> simp [eqG]
  | str i => cases neg <;> simp [eqG]
  | non => cases neg <;> rfl
  | dct k v => simp [toPy] at h1
  | ref i => simp [toPy] at h1
  | ty i => simp [toPy] at h1
end Mp
/-! EqInt: == of lists of numbers and of fractions. -/
namespace Mp
open PySem PySem.Spec PyProof.Rows L2
theorem toPyL_ints : ∀ a : List Int, toPyL (a.map D.int) = some (a.map PyData.int)
  | [] => rfl
  | x :: r => by
    rw [List.map_cons, List.map_cons]
    unfold toPyL
    rw [toPyL_ints r]
    simp [toPy]
theorem eqv_ints : ∀ a b : List Int, PyData.eqvAll (a.map PyData.int) (b.map PyData.int) = decide (a = b)
  | [], [] => by simp [PyData.eqvAll]
  | [], _ :: _ => by simp [PyData.eqvAll]
  | _ :: _, [] => by simp [PyData.eqvAll]
  | x :: r, y :: t => by
    rw [List.map_cons, List.map_cons, PyData.eqvAll, eqv_ints r t]
    by_cases h : x = y
    · by_cases g : r = t
      · simp [PyData.eqv, h, g]
      · simp [PyData.eqv, h, g]
    · simp [PyData.eqv, h]
theorem lay_ints : ∀ a : List Int, PyData.canLayAll0 (a.map PyData.int) = true ∧ PyData.depthAll (a.map PyData.int) = 0
  | [] => by simp [PyData.canLayAll0, PyData.depthAll]
  | x :: r => by
    obtain ⟨h1, h2⟩ := lay_ints r
    simp [PyData.canLayAll0, PyData.canLay0, PyData.depthAll, PyData.depth, h1, h2]
theorem eqG_ints (neg : Bool) (a b : List Int) (h : Hc) : eqG neg (.lst (a.map D.int)) (.lst (b.map D.int)) h = .ok (.bl (if neg then !decide (a = b) else decide (a = b))) h := by
  have sh : ∀ a : List Int, SeqAt.shaped (.list (a.map PyData.int)) = true := fun a => by
    obtain ⟨h1, h2⟩ := lay_ints a
    unfold SeqAt.shaped
    simp [PyData.canLay0, PyData.depth, h1, h2]
  have e : ∀ a : List Int, toPyR h (.lst (a.map D.int)) = some (.list (a.map PyData.int)) := fun a => by
    show toPy (.lst (a.map D.int)) = _
    unfold toPy
    rw [toPyL_ints]
    rfl
  show (match toPyR h (.lst (a.map D.int)), toPyR h (.lst (b.map D.int)) with
    | some a, some b => if SeqAt.shaped a = true ∧ SeqAt.shaped b = true then R.ok (D.bl (if neg = true then !PyData.eqv a b else PyData.eqv a b)) h else .bad
    | _, _ => .bad) = _
  rw [e a, e b]
  simp only
  rw [if_pos ⟨sh a, sh b⟩]
  have : PyData.eqv (.list (a.map PyData.int)) (.list (b.map PyData.int)) = decide (a = b) := by
    rw [PyData.eqv, eqv_ints]
  rw [this]
theorem eqG_tups (neg : Bool) (a b : List Int) (h : Hc) : eqG neg (.tup (a.map D.int)) (.tup (b.map D.int)) h = .ok (.bl (if neg then !decide (a = b) else decide (a = b))) h := by
  have sh : ∀ a : List Int, SeqAt.shaped (.tuple (a.map PyData.int)) = true := fun a => by
    obtain ⟨h1, h2⟩ := lay_ints a
    unfold SeqAt.shaped
    simp [PyData.canLay0, PyData.depth, h1, h2]
  have e : ∀ a : List Int, toPyR h (.tup (a.map D.int)) = some (.tuple (a.map PyData.int)) := fun a => by
    show toPy (.tup (a.map D.int)) = _
    unfold toPy
    rw [toPyL_ints]
    rfl
  show (match toPyR h (.tup (a.map D.int)), toPyR h (.tup (b.map D.int)) with
    | some a, some b => if SeqAt.shaped a = true ∧ SeqAt.shaped b = true then R.ok (D.bl (if neg = true then !PyData.eqv a b else PyData.eqv a b)) h else .bad
    | _, _ => .bad) = _
  rw [e a, e b]
  simp only
  rw [if_pos ⟨sh a, sh b⟩]
  have : PyData.eqv (.tuple (a.map PyData.int)) (.tuple (b.map PyData.int)) = decide (a = b) := by
    rw [PyData.eqv, eqv_ints]
  rw [this]
theorem eqG_q (neg : Bool) (p q : Rat) (h : Hc) : eqG neg (qD p) (qD q) h = .ok (.bl (if neg then !decide (p = q) else decide (p = q))) h := by
  have e := eqG_tups neg [p.num, (p.den : Int)] [q.num, (q.den : Int)] h
  have : ([p.num, (p.den : Int)] = [q.num, (q.den : Int)]) ↔ p = q := by
    constructor
    · intro z
      injection z with z1 z2
      injection z2 with z2
      exact Rat.ext z1 (by omega)
    · intro z
      rw [z]
  simp only [this] at e
  exact e
end Mp
namespace Mp
open PySem PySem.Spec PyProof.Rows L2
/-! ### the mirrors -/
def m_closed_parts_c1 : SE :=
  (eCall m_reached (aCons (eVar 0) (aCons (eVar 3) (aCons (eTup aNil) aNil))))
def m_closed_parts_c2 : SE :=
  (eOp (inZ false) (eVar 3) (eOp ixF (eVar 1) (eVar 5)))
def m_closed_parts_l1 : SS :=
  (sIf (bAnd (bEx (eOp (inZ true) (eVar 4) (eVar 2))) (bTru (eCB allF (aCons (eLc (iSeq (eVar 4)) (.n 5) [5] (fun _ h => .ok true h) m_closed_parts_c2) aNil))))
      (sDrop (eBM "list" appF (eVar 2) (aCons (eVar 4) aNil)))
      sNext)
/-- closed_parts: chain 0, reach 1, found 2, state 3, ours 4, other 5 -/
def m_closed_parts : Fn := runB 6
  (sSeq (sSet 1 (eLc (iRg1 (aCons (eCB lenF (aCons (eVar 0) aNil)) aNil)) (.n 3) [3] (fun _ h => .ok true h) m_closed_parts_c1))
  (sSeq (sSet 2 (eCell aNil))
  (sSeq (sFor (iEnu (aCons (eVar 1) aNil)) (.t ((.n 3) :: ((.n 4) :: [])))
    m_closed_parts_l1)
  (sRet (eVar 2)))))
def m_balance_c1 : SE :=
  (eCB sumA (aCons (eOp ixF (eVar 0) (eVar 4)) aNil))
def m_balance_c2 : SE :=
  (eOp ixF (eOp ixF (eVar 0) (eVar 8)) (eVar 4))
def m_balance_l1 : SS :=
  (sSeq (sSet 6 (eLcC (iSeq (eVar 1)) (.n 8) [8] (fun _ h => .ok true h) m_balance_c2))
    (sSeq (sAugS ixlF subF setF (eVar 6) (eCB lenF (aCons (eVar 3) aNil)) (eVar 5))
    (sDrop (eBM "list" appF (eVar 3) (aCons (eOp addF (eVar 6) (eLst (aCons (eC (.int 0)) aNil))) aNil)))))
def m_balance_c3 : SE :=
  (eCall m_reduced (aCons (eOp mulF (eVar 5) (eVar 9)) (aCons (eVar 10) aNil)))
/-- balance: chain 0, part 1, wholes 2, rows 3, state 4, whole 5, row 6, found 7, other 8, top 9, bottom 10 -/
def m_balance : Fn := runB 11
  (sSeq (sSet 2 (eLc (iSeq (eVar 1)) (.n 4) [4] (fun _ h => .ok true h) m_balance_c1))
  (sSeq (sSet 3 (eCell aNil))
  (sSeq (sFor (iZip (aCons (eSl slF (eVar 1) none (some (eUn negF (eC (.int 1))))) (aCons (eVar 2) aNil))) (.t ((.n 4) :: ((.n 5) :: [])))
    m_balance_l1)
  (sSeq (sSet 7 (eCall m_solved (aCons (eOp addF (eVar 3) (eLst (aCons (eOp addF (eVar 2) (eLst (aCons (eC (.int 1)) aNil))) aNil))) aNil)))
  (sRet (eCB tupleF (aCons (eLc (iZip (aCons (eVar 2) (aCons (eVar 7) aNil))) (.t ((.n 5) :: ((.t ((.n 9) :: ((.n 10) :: []))) :: []))) [5, 9, 10] (fun _ h => .ok true h) m_balance_c3) aNil)))))))
def m_long_run_l1 : SS :=
  (sPut setF (eVar 4) (eVar 2) (eVar 3))
/-- long_run: chain 0, parts 1, found 2, state 3, share 4 -/
def m_long_run : Fn := runB 5
  (sSeq (sIf (bNot (bTru (eCall m_is_chain (aCons (eVar 0) aNil))))
    (sRaise "BadValue" ["at"] (aCons (eC (.int 0)) aNil))
    sNext)
  (sSeq (sSet 1 (eCall m_closed_parts (aCons (eVar 0) aNil)))
  (sSeq (sIf (bEx (eOp gtF (eCB lenF (aCons (eVar 1) aNil)) (eC (.int 1))))
    (sRaise "NoChance" ["word"] (aCons (eC (.str "parts")) aNil))
    sNext)
  (sSeq (sSet 2 (eOp mulC (eLst (aCons (eTup (aCons (eC (.int 0)) (aCons (eC (.int 1)) aNil))) aNil)) (eCB lenF (aCons (eVar 0) aNil))))
  (sSeq (sFor (iZip (aCons (eOp ixF (eVar 1) (eC (.int 0))) (aCons (eCall m_balance (aCons (eVar 0) (aCons (eOp ixF (eVar 1) (eC (.int 0))) aNil))) aNil))) (.t ((.n 3) :: ((.n 4) :: [])))
    m_long_run_l1)
  (sRet (eCB tupleF (aCons (eVar 2) aNil))))))))
def m_law_closed_parts_c1 : SE :=
  (eVar 4)
def m_law_closed_parts_t1 : SB :=
  (bEx (eOp neF (eCB sortF (aCons (eCall m_law_reach (aCons (eVar 0) (aCons (eVar 4) (aCons (eLst aNil) aNil)))) aNil)) (eVar 3)))
def m_law_closed_parts_l1 : SS :=
  (sSeq (sSet 3 (eCB sortF (aCons (eCall m_law_reach (aCons (eVar 0) (aCons (eVar 2) (aCons (eLst aNil) aNil)))) aNil)))
    (sIf (bAnd (bEx (eOp eqF (eCB lenF (aCons (eLc (iSeq (eVar 3)) (.n 4) [4] m_law_closed_parts_t1 m_law_closed_parts_c1) aNil)) (eC (.int 0)))) (bEx (eOp (inZ true) (eVar 3) (eVar 1))))
      (sDrop (eBM "list" appF (eVar 1) (aCons (eVar 3) aNil)))
      sNext))
/-- _law_closed_parts: chain 0, made 1, s 2, one 3, t 4 -/
def m_law_closed_parts : Fn := runB 5
  (sSeq (sSet 1 (eCell aNil))
  (sSeq (sFor (iRg1 (aCons (eCB lenF (aCons (eVar 0) aNil)) aNil)) (.n 2)
    m_law_closed_parts_l1)
  (sRet (eVar 1))))
def m_law_long_run_l1 : SS :=
  (sSeq (sSet 6 (eOp ixF (eCall m_law_shares (aCons (eVar 0) (aCons (eVar 5) aNil))) (eVar 3)))
      (sDrop (eBM "list" appF (eVar 4) (aCons (eIf (bEx (eOp eqF (eVar 5) (eVar 3))) (eCall m_law_sub (aCons (eVar 6) (aCons (eTup (aCons (eC (.int 1)) (aCons (eC (.int 1)) aNil))) aNil))) (eVar 6)) aNil))))
def m_law_long_run_l2 : SS :=
  (sSeq (sSet 4 (eCell aNil))
    (sSeq (sFor (iRg1 (aCons (eVar 1) aNil)) (.n 5)
      m_law_long_run_l1)
    (sDrop (eBM "list" appF (eVar 2) (aCons (eOp addF (eVar 4) (eLst (aCons (eTup (aCons (eC (.int 0)) (aCons (eC (.int 1)) aNil))) aNil))) aNil)))))
def m_law_long_run_c1 : SE :=
  (eTup (aCons (eC (.int 1)) (aCons (eC (.int 1)) aNil)))
/-- _law_long_run: chain 0, many 1, rows 2, j 3, one 4, s 5, share 6, home 7 -/
def m_law_long_run : Fn := runB 8
  (sSeq (sSet 1 (eCB lenF (aCons (eVar 0) aNil)))
  (sSeq (sSet 2 (eCell aNil))
  (sSeq (sFor (iRg1 (aCons (eVar 1) aNil)) (.n 3)
    m_law_long_run_l2)
  (sSeq (sSet 7 (eOp ixF (eOp ixF (eCall m_law_closed_parts (aCons (eVar 0) aNil)) (eC (.int 0))) (eC (.int 0))))
  (sSeq (sPut setF (eOp addF (eLc (iRg1 (aCons (eVar 1) aNil)) (.n 5) [5] (fun _ h => .ok true h) m_law_long_run_c1) (eLst (aCons (eTup (aCons (eC (.int 1)) (aCons (eC (.int 1)) aNil))) aNil))) (eVar 2) (eVar 7))
  (sRet (eCB tupleF (aCons (eCall m_law_solve (aCons (eVar 2) aNil)) aNil))))))))
def m_law_p1 : SS :=
  (sSet 1 (eCall m_law_numbers (aCons (eVar 0) aNil)))
def m_law_p2 : SS :=
  (sSet 2 (eCell (aCons (eC (.int 0)) aNil)))
def m_law_p3 : SS :=
  (sSet 3 (eCall m_law_chain (aCons (eVar 1) (aCons (eVar 2) (aCons (eC (.int 5)) aNil)))))
def m_law_p4 : SS :=
  (sSet 4 (eTold (eCall m_long_run (aCons (eCall m_law_handed (aCons (eVar 1) (aCons (eVar 2) (aCons (eVar 3) aNil)))) aNil))))
def m_law_p5 : SS :=
  (sIf (bEx (eOp gtF (eCB lenF (aCons (eCall m_law_closed_parts (aCons (eVar 3) aNil)) aNil)) (eC (.int 1))))
    (sRet (eOp eqF (eVar 4) (eTup (aCons (eC (.str "NoChance")) (aCons (eC (.str "parts")) aNil)))))
    sNext)
def m_law_p6 : SS :=
  (sIf (bOr (bEx (eOp neF (eOp ixF (eVar 4) (eC (.int 0))) (eC (.str "value")))) (bNot (bTru (eCall (m_law_so 24) (aCons (eOp ixF (eVar 4) (eC (.int 1))) (aCons (eCall m_law_long_run (aCons (eVar 3) aNil)) aNil))))))
    (sRet (eC (.bl false)))
    sNext)
def m_law_p7 : SS :=
  (sSet 5 (eTup (aCons (eC (.int 0)) (aCons (eC (.int 1)) aNil))))
def m_law_l1 : SS :=
  (sSet 7 (eCall m_law_add (aCons (eVar 7) (aCons (eCall m_law_mul (aCons (eOp ixF (eOp ixF (eVar 4) (eC (.int 1))) (eVar 8)) (aCons (eOp ixF (eCall m_law_shares (aCons (eVar 3) (aCons (eVar 8) aNil))) (eVar 6)) aNil))) aNil))))
def m_law_l2 : SS :=
  (sSeq (sSet 7 (eTup (aCons (eC (.int 0)) (aCons (eC (.int 1)) aNil))))
    (sSeq (sFor (iRg1 (aCons (eCB lenF (aCons (eVar 3) aNil)) aNil)) (.n 8)
      m_law_l1)
    (sSeq (sIf (bOr (bEx (eOp neF (eVar 7) (eOp ixF (eOp ixF (eVar 4) (eC (.int 1))) (eVar 6)))) (bEx (eOp ltF (eOp ixF (eOp ixF (eOp ixF (eVar 4) (eC (.int 1))) (eVar 6)) (eC (.int 0))) (eC (.int 0)))))
      (sRet (eC (.bl false)))
      sNext)
    (sSet 5 (eCall m_law_add (aCons (eVar 5) (aCons (eOp ixF (eOp ixF (eVar 4) (eC (.int 1))) (eVar 6)) aNil)))))))
def m_law_p8 : SS :=
  (sFor (iRg1 (aCons (eCB lenF (aCons (eVar 3) aNil)) aNil)) (.n 6)
    m_law_l2)
def m_law_p9 : SS :=
  (sRet (eOp eqF (eVar 5) (eTup (aCons (eC (.int 1)) (aCons (eC (.int 1)) aNil)))))
/-- law: script 0, row 1, spot 2, chain 3, told 4, total 5, j 6, held 7, s 8 -/
def m_law : Fn := runB 9
  (sSeq m_law_p1
  (sSeq m_law_p2
  (sSeq m_law_p3
  (sSeq m_law_p4
  (sSeq m_law_p5
  (sSeq m_law_p6
  (sSeq m_law_p7
  (sSeq m_law_p8
  m_law_p9))))))))
end Mp
/-! K41A: the parts of a chain, and the days in each state. -/
namespace Mp
open PySem PySem.Spec PyProof.Rows L2
abbrev wf0 : Nat → Bool := fun _ => false
def rs (M : List (List Int)) (s : Nat) : List Nat := srN (reach M wf0 s)
theorem Rc.tr {M : List (List Int)} {s t u : Nat} (h : Rc M wf0 s t) (g : Rc M wf0 t u) : Rc M wf0 s u := by
  induction g with
  | base => exact h
  | step _ hw hp hv ih => exact .step ih hw hp hv
section
variable {M : List (List Int)}
theorem rs_mem {s t : Nat} (hs : s < M.length) : t ∈ rs M s ↔ Rc M wf0 s t := by
  unfold rs
  rw [srN_mem]
  exact (reach_spec wf0 hs).2.2 t
theorem rsl {s t : Nat} (hs : s < M.length) (h : t ∈ rs M s) : t < M.length := ((rs_mem hs).mp h).lt hs
theorem rs_self {s : Nat} (hs : s < M.length) : s ∈ rs M s := (rs_mem hs).mpr .base
theorem rs_tr {s t u : Nat} (hs : s < M.length) (h : t ∈ rs M s) (g : u ∈ rs M t) : u ∈ rs M s :=
  (rs_mem hs).mpr (((rs_mem hs).mp h).tr ((rs_mem (rsl hs h)).mp g))
theorem rs_filter {s : Nat} (hs : s < M.length) : rs M s = (List.range M.length).filter fun k => decide (k ∈ reach M wf0 s) := by
  obtain ⟨nd, lt, _⟩ := reach_spec (M := M) wf0 hs
  exact srN_filter nd lt
theorem rs_nd {s : Nat} (hs : s < M.length) : (rs M s).Nodup := by
  rw [rs_filter hs]
  exact List.Pairwise.filter _ List.nodup_range
theorem rs_eq {s t : Nat} (hs : s < M.length) (ht : t < M.length) (h : ∀ u, u ∈ rs M s ↔ u ∈ rs M t) : rs M s = rs M t := by
  have e : ∀ {s : Nat}, s < M.length → rs M s = (List.range M.length).filter fun k => decide (k ∈ rs M s) := fun {s} hs => by
    conv => lhs; rw [rs_filter hs]
    refine List.filter_congr fun k _ => ?_
    have : k ∈ reach M wf0 s ↔ k ∈ rs M s := by unfold rs; rw [srN_mem]
    simp [this]
  rw [e hs, e ht]
  refine List.filter_congr fun k _ => ?_
  have := h k
  simp [this]
/-- from each state that s reaches one comes back to s -/
def clB (M : List (List Int)) (s : Nat) : Bool := (rs M s).all fun t => decide (s ∈ rs M t)
theorem cl_same {s t : Nat} (hs : s < M.length) (h : clB M s = true) (ht : t ∈ rs M s) : rs M t = rs M s := by
  unfold clB at h
  rw [List.all_eq_true] at h
  have b := h t ht
  rw [decide_eq_true_eq] at b
  have hl := rsl hs ht
  exact rs_eq hl hs fun u => ⟨fun g => rs_tr hs ht g, fun g => rs_tr hl b g⟩
theorem cl_iff {s : Nat} (hs : s < M.length) : clB M s = true ↔ ∀ t ∈ rs M s, rs M t = rs M s := by
  constructor
  · exact fun h t ht => cl_same hs h ht
  · intro h
    unfold clB
    rw [List.all_eq_true]
    intro t ht
    rw [decide_eq_true_eq, h t ht]
    exact rs_self hs
theorem filt_lt {α : Type} {p q : α → Bool} : ∀ {l : List α}, (∀ a ∈ l, p a = true → q a = true) → (∃ a ∈ l, q a = true ∧ p a = false) → (l.filter p).length < (l.filter q).length
  | [], _, h => by obtain ⟨a, h, _⟩ := h; simp at h
  | x :: r, hi, ex => by
    have le : (r.filter p).length ≤ (r.filter q).length := by
      rw [← List.countP_eq_length_filter, ← List.countP_eq_length_filter]
      exact List.countP_mono_left fun a ha => hi a (by simp [ha])
    rw [List.filter_cons, List.filter_cons]
    obtain ⟨a, ha, hq, hp⟩ := ex
    rcases List.mem_cons.mp ha with rfl | ha
    · rw [hq, hp]
      simp
      omega
    · have lt := filt_lt (p := p) (q := q) (l := r) (fun b hb => hi b (by simp [hb])) ⟨a, ha, hq, hp⟩
      have hx := hi x (by simp)
      by_cases c : p x = true
      · rw [c, hx c]
        simp
        omega
      · have : p x = false := by simpa using c
        rw [this]
        simp only [Bool.false_eq_true, if_false]
        split
        · simp; omega
        · omega
theorem cl_ex : ∀ (m s : Nat), s < M.length → (rs M s).length ≤ m → ∃ t, t ∈ rs M s ∧ clB M t = true
  | 0, s, hs, h => by
    have := rs_self hs
    have : rs M s = [] := List.length_eq_zero_iff.mp (by omega)
    rename_i z
    rw [this] at z
    simp at z
  | m + 1, s, hs, h => by
    by_cases c : clB M s = true
    · exact ⟨s, rs_self hs, c⟩
    · have : ∃ t ∈ rs M s, s ∉ rs M t := by
        by_cases z : ∃ t ∈ rs M s, s ∉ rs M t
        · exact z
        · exfalso
          apply c
          unfold clB
          rw [List.all_eq_true]
          intro t ht
          rw [decide_eq_true_eq]
          by_cases y : s ∈ rs M t
          · exact y
          · exact absurd ⟨t, ht, y⟩ z
      obtain ⟨t, ht, hn⟩ := this
      have hl := rsl hs ht
      have lt : (rs M t).length < (rs M s).length := by
        rw [rs_filter hl, rs_filter hs]
        have im : ∀ {s k : Nat}, k ∈ reach M wf0 s ↔ k ∈ rs M s := fun {s k} => by unfold rs; rw [srN_mem]
        refine filt_lt (fun a _ h => ?_) ⟨s, List.mem_range.mpr hs, ?_, ?_⟩
        · rw [decide_eq_true_eq, im] at h ⊢
          exact rs_tr hs ht h
        · rw [decide_eq_true_eq, im]
          exact rs_self hs
        · rw [decide_eq_false_iff_not, im]
          exact hn
      obtain ⟨u, hu, hc⟩ := cl_ex m t hl (by omega)
      exact ⟨u, rs_tr hs ht hu, hc⟩
/-- the parts, in the order in which they are met -/
def cpF (M : List (List Int)) : Nat → List (List Nat)
  | 0 => []
  | s + 1 => if rs M s ∉ cpF M s ∧ clB M s = true then cpF M s ++ [rs M s] else cpF M s
theorem cpF_mem : ∀ (m : Nat), m ≤ M.length → ∀ p ∈ cpF M m, ∃ s, s < m ∧ clB M s = true ∧ p = rs M s
  | 0, _, p, h => by simp [cpF] at h
  | m + 1, hm, p, h => by
    have ih := cpF_mem m (by omega)
    unfold cpF at h
    split at h
    · rename_i c
      rcases List.mem_append.mp h with h | h
      · obtain ⟨s, a, b, e⟩ := ih p h
        exact ⟨s, by omega, b, e⟩
      · exact ⟨m, by omega, c.2, by simpa using h⟩
    · obtain ⟨s, a, b, e⟩ := ih p h
      exact ⟨s, by omega, b, e⟩
theorem cpF_has : ∀ (m : Nat), ∀ s, s < m → clB M s = true → rs M s ∈ cpF M m
  | 0, s, hs, _ => by omega
  | m + 1, s, hs, hc => by
    unfold cpF
    by_cases e : s = m
    · subst e
      split
      · simp
      · rename_i c
        by_cases z : rs M s ∈ cpF M s
        · exact z
        · exact absurd ⟨z, hc⟩ c
    · have ih := cpF_has m s (by omega) hc
      split
      · exact List.mem_append_left _ ih
      · exact ih
theorem cpF_len : ∀ m, (cpF M m).length ≤ m
  | 0 => by simp [cpF]
  | m + 1 => by
    have ih := cpF_len m
    unfold cpF
    split
    · rw [List.length_append, List.length_singleton]; omega
    · omega
theorem cp_ne (lo : 1 ≤ M.length) : cpF M M.length ≠ [] := by
  obtain ⟨t, ht, hc⟩ := cl_ex (M := M) _ 0 lo (Nat.le_refl _)
  have := cpF_has M.length t (rsl lo ht) hc
  intro z
  rw [z] at this
  simp at this
/-- one part alone: every state leads to it -/
theorem one_part {p : List Nat} (h : cpF M M.length = [p]) : ∃ s, s < M.length ∧ clB M s = true ∧ p = rs M s ∧ ∀ u, u < M.length → ∀ o ∈ p, Rc M wf0 u o := by
  obtain ⟨s, hs, hc, e⟩ := cpF_mem (M := M) _ (Nat.le_refl _) p (by rw [h]; simp)
  refine ⟨s, hs, hc, e, fun u hu o ho => ?_⟩
  obtain ⟨t, ht, htc⟩ := cl_ex (M := M) _ u hu (Nat.le_refl _)
  have hl := rsl hu ht
  have m := cpF_has M.length t hl htc
  rw [h] at m
  have et : rs M t = p := by simpa using m
  refine ((rs_mem hu).mp ht).tr ((rs_mem hl).mp ?_)
  rw [et]
  exact ho
/-- nothing leaves a part -/
theorem cl_stay {s : Nat} (hs : s < M.length) {a j : Nat} (ha : a ∈ rs M s) (hj : j < M.length) (hn : j ∉ rs M s) (C : Chn M) : wt M a j = 0 := by
  have hl := rsl hs ha
  have w0 := ((C.at1 hl).2.2 j).1
  by_cases z : 0 < wt M a j
  · exfalso
    apply hn
    exact rs_tr hs ha ((rs_mem hl).mpr (.step .base rfl z hj))
  · omega
end
/-! ### the lines of the days -/
section
variable {M : List (List Int)} (C : Chn M)
include C
def gM (M : List (List Int)) (o : Nat) (b : Nat → Rat) : Mx := fun s c => if c = M.length then b s else if c = o then 1 else dl c s - shQ M s c
def ho (o : Nat) (x : Nat → Rat) (j : Nat) : Rat := if j = o then 0 else x j
theorem gM_sat {o : Nat} (hoL : o < M.length) {b : Nat → Rat} {s : Nat} (hs : s < M.length) (x : Nat → Rat) (h : satL M.length 0 (gM M o b s) x) : ((sm1 M s : Int) : Rat) * (x o + ho o x s) = sumR (fun j => ((wt M s j : Int) : Rat) * ho o x j) M.length := by
  have h0 := sm1_ne C hs
  unfold satL dotM at h
  have e : sumR (fun j => gM M o b s j * x j) M.length = x o + ho o x s - 1 / ((sm1 M s : Int) : Rat) * sumR (fun j => ((wt M s j : Int) : Rat) * ho o x j) M.length := by
    have e1 : sumR (fun j => if j = o then x o else 0) M.length = x o := by
      rw [sumR_one (k := o) hoL fun i _ hne => by rw [if_neg hne]]
      simp
    rw [← sumR_dl (ho o x) hs, ← sumR_mul]
    have e2 : x o + sumR (fun j => dl j s * ho o x j) M.length = sumR (fun j => (if j = o then x o else 0) + dl j s * ho o x j) M.length := by rw [sumR_add, e1]
    rw [e2, ← sumR_sub]
    exact sumR_congr fun j hj => by
      unfold gM shQ ho
      rw [if_neg (by omega)]
      by_cases z : j = o
      · rw [if_pos z, if_pos z, if_pos z, z]
        grind
      · rw [if_neg z, if_neg z, if_neg z]
        grind
  rw [e] at h
  generalize ((sm1 M s : Int) : Rat) = S at *
  generalize sumR (fun j => ((wt M s j : Int) : Rat) * ho o x j) M.length = Z at *
  generalize x o + ho o x s = Y at *
  have : Y = 1 / S * Z := by grind
  rw [this]
  grind
theorem mean_le' {s : Nat} (hs : s < M.length) {x : Nat → Rat} {X : Rat} (hX : ∀ j, j < M.length → x j ≤ X) : sumR (fun j => ((wt M s j : Int) : Rat) * x j) M.length ≤ ((sm1 M s : Int) : Rat) * X := by
  have w0 : ∀ j, (0 : Rat) ≤ ((wt M s j : Int) : Rat) := fun j => by exact_mod_cast ((C.at1 hs).2.2 j).1
  have e : sumR (fun j => ((wt M s j : Int) : Rat) * (X - x j)) M.length = ((sm1 M s : Int) : Rat) * X - sumR (fun j => ((wt M s j : Int) : Rat) * x j) M.length := by
    rw [C.sumR1 hs]
    have : X * sumR (fun j => ((wt M s j : Int) : Rat)) M.length = sumR (fun j => X * ((wt M s j : Int) : Rat)) M.length := (sumR_mul X _ _).symm
    rw [Rat.mul_comm _ X, this, ← sumR_sub]
    exact sumR_congr fun j _ => by grind
  have nn : ∀ j, j < M.length → 0 ≤ ((wt M s j : Int) : Rat) * (X - x j) := fun j hj => Rat.mul_nonneg (w0 j) (by have := hX j hj; grind)
  have := sumR_nn nn
  grind
theorem gM_top {h : Nat → Rat} {g : Rat} (e : ∀ s, s < M.length → ((sm1 M s : Int) : Rat) * (g + h s) = sumR (fun j => ((wt M s j : Int) : Rat) * h j) M.length) : g ≤ 0 := by
  obtain ⟨s, hs, hm⟩ := max_ex h C.lo
  have a1 := mean_le' C hs hm
  rw [← e s hs] at a1
  have p : (0 : Rat) < ((sm1 M s : Int) : Rat) := by exact_mod_cast (C.at1 hs).1
  have a2 : ((sm1 M s : Int) : Rat) * g ≤ 0 := by
    have : ((sm1 M s : Int) : Rat) * (g + h s) = ((sm1 M s : Int) : Rat) * g + ((sm1 M s : Int) : Rat) * h s := by grind
    grind
  by_cases c : g ≤ 0
  · exact c
  · exfalso
    have := Rat.mul_pos p (Rat.not_le.mp c)
    grind
theorem gM_ns {o : Nat} (hoL : o < M.length) (hr : ∀ u, u < M.length → Rc M wf0 u o) (b : Nat → Rat) : NSing M.length (gM M o b) := by
  intro x hx
  have e : ∀ s, s < M.length → ((sm1 M s : Int) : Rat) * (x o + ho o x s) = sumR (fun j => ((wt M s j : Int) : Rat) * ho o x j) M.length := fun s hs => gM_sat C hoL hs x (hx s hs)
  have e' : ∀ s, s < M.length → ((sm1 M s : Int) : Rat) * (-(x o) + -(ho o x s)) = sumR (fun j => ((wt M s j : Int) : Rat) * -(ho o x j)) M.length := fun s hs => by
    have e1 : sumR (fun j => ((wt M s j : Int) : Rat) * -(ho o x j)) M.length = (-1) * sumR (fun j => ((wt M s j : Int) : Rat) * ho o x j) M.length := by
      rw [← sumR_mul]
      exact sumR_congr fun j _ => by grind
    rw [e1, ← e s hs]
    grind
  have a := gM_top C e
  have b' := gM_top C (h := fun j => -(ho o x j)) e'
  have z : x o = 0 := by grind
  let kn : Nat → Option Rat := fun s => if s = o then some 0 else none
  have hko : kn o ≠ none := by show (if o = o then some (0 : Rat) else none) ≠ none; simp
  have G : Goes M kn := fun s hs _ => ⟨o, hr s hs, hko⟩
  have known : ∀ t, kn t ≠ none → t = o := fun t h => by
    by_cases q : t = o
    · exact q
    · exfalso
      apply h
      show (if t = o then some (0 : Rat) else none) = none
      rw [if_neg q]
  obtain ⟨t, h1, h2, h3⟩ := top_known C G (x := ho o x) fun s hs _ => by
    have := e s hs
    rw [z] at this
    rw [← this]
    have : (0 : Rat) + ho o x s = ho o x s := by grind
    rw [this]
    exact Rat.le_refl
  obtain ⟨t', g1, g2, g3⟩ := top_known C G (x := fun j => -(ho o x j)) fun s hs _ => by
    have := e' s hs
    rw [z] at this
    rw [← this]
    have : -(0 : Rat) + -(ho o x s) = -(ho o x s) := by grind
    rw [this]
    exact Rat.le_refl
  rw [known t h2] at h3
  rw [known t' g2] at g3
  have h0 : ho o x o = 0 := by unfold ho; rw [if_pos rfl]
  intro j hj
  by_cases q : j = o
  · rw [q]; exact z
  · have c1 := h3 j hj
    have c2 : -(ho o x j) ≤ -(ho o x o) := g3 j hj
    rw [h0] at c1 c2
    unfold ho at c1 c2
    rw [if_neg q] at c1 c2
    grind
omit C in
theorem ns_ex' {n : Nat} {m : Mx} (N : NSing n m) : ∃ x, satM n 1 m x := by
  have key : ∀ t k R, k + t = n → Clr n k m R → ∃ R', Clr n n m R' := by
    intro t
    induction t with
    | zero =>
      intro k R hk I
      have : k = n := by omega
      subst this
      exact ⟨R, I⟩
    | succ t ih =>
      intro k R hk I
      have hk' : k < n := by omega
      obtain ⟨p, h1, h2, h3⟩ := I.pivot hk' N
      exact ih (k + 1) _ (by omega) (I.step (nxQ_stp hk' h1 h2 h3))
  obtain ⟨R', I⟩ := key n 0 m (by omega) (Clr.start n m)
  exact ⟨_, I.done⟩
omit C in
theorem sum_swap (f : Nat → Nat → Rat) (n : Nat) : ∀ m, sumR (fun i => sumR (fun j => f i j) n) m = sumR (fun j => sumR (fun i => f i j) m) n
  | 0 => by
    show (0 : Rat) = _
    exact (sumR_zero fun i hi => rfl).symm
  | m + 1 => by
    rw [sumR, sum_swap f n m, ← sumR_add]
    exact sumR_congr fun j _ => rfl
def dM (M : List (List Int)) (o : Nat) : Mx := fun j s => if j = o then 1 else if s = M.length then 0 else shQ M s j - dl s j
def flow (M : List (List Int)) (y : Nat → Rat) (j : Nat) : Rat := sumR (fun s => y s * shQ M s j) M.length
omit C in
theorem dM_row {o : Nat} {t : Rat} {y : Nat → Rat} {j : Nat} (hj : j < M.length) : satL M.length t (dM M o j) y ↔ if j = o then sumR y M.length = t else flow M y j = y j := by
  unfold satL dotM
  by_cases q : j = o
  · rw [if_pos q]
    have e1 : dM M o j M.length = 1 := by unfold dM; rw [if_pos q]
    have e2 : sumR (fun s => dM M o j s * y s) M.length = sumR y M.length := sumR_congr fun s hs => by
      unfold dM
      rw [if_pos q]
      grind
    rw [e1, e2]
    constructor
    · intro h; rw [h]; grind
    · intro h; rw [h]; grind
  · rw [if_neg q]
    have e1 : dM M o j M.length = 0 := by unfold dM; rw [if_neg q, if_pos rfl]
    have e2 : sumR (fun s => dM M o j s * y s) M.length = flow M y j - y j := by
      unfold flow
      rw [← sumR_dl y hj, ← sumR_sub]
      refine sumR_congr fun s hs => ?_
      unfold dM
      rw [if_neg q, if_neg (by omega)]
      have : dl s j * y s = (if s = j then y s else 0) := by unfold dl; split <;> grind
      grind
    rw [e1, e2]
    constructor
    · intro h; grind
    · intro h; grind
theorem flow_sum (y : Nat → Rat) : sumR (flow M y) M.length = sumR y M.length := by
  have : sumR (flow M y) M.length = sumR (fun s => sumR (fun j => y s * shQ M s j) M.length) M.length := (sum_swap (fun s j => y s * shQ M s j) M.length M.length).symm
  rw [this]
  refine sumR_congr fun s hs => ?_
  rw [sumR_mul]
  have e : sumR (fun j => shQ M s j) M.length = 1 := by
    have h0 := sm1_ne C hs
    have : sumR (fun j => shQ M s j) M.length = 1 / ((sm1 M s : Int) : Rat) * sumR (fun j => ((wt M s j : Int) : Rat)) M.length := by
      rw [← sumR_mul]
      exact sumR_congr fun j _ => by unfold shQ; grind
    rw [this, ← C.sumR1 hs]
    grind
  rw [e]
  grind
theorem flow_last {y : Nat → Rat} {o : Nat} (hoL : o < M.length) (h : ∀ j, j < M.length → j ≠ o → flow M y j = y j) : flow M y o = y o := by
  have s := flow_sum C y
  have e : sumR (fun j => flow M y j - y j) M.length = flow M y o - y o := sumR_one hoL fun i hi hne => by rw [h i hi hne]; grind
  rw [sumR_sub, s] at e
  grind
theorem dM_sat {o : Nat} (hoL : o < M.length) {t : Rat} {y : Nat → Rat} : satM M.length t (dM M o) y ↔ sumR y M.length = t ∧ ∀ j, j < M.length → flow M y j = y j := by
  constructor
  · intro h
    have h1 : ∀ j, j < M.length → j ≠ o → flow M y j = y j := fun j hj hne => by
      have := (dM_row hj).mp (h j hj)
      rw [if_neg hne] at this
      exact this
    refine ⟨?_, fun j hj => ?_⟩
    · have := (dM_row hoL).mp (h o hoL)
      rw [if_pos rfl] at this
      exact this
    · by_cases q : j = o
      · rw [q]; exact flow_last C hoL h1
      · exact h1 j hj q
  · rintro ⟨h1, h2⟩ j hj
    refine (dM_row hj).mpr ?_
    split
    · exact h1
    · exact h2 j hj
theorem dM_ns {o : Nat} (hoL : o < M.length) (hr : ∀ u, u < M.length → Rc M wf0 u o) : NSing M.length (dM M o) := by
  intro y hy j hj
  obtain ⟨y1, y2⟩ := (dM_sat C hoL).mp hy
  obtain ⟨x, hx⟩ := ns_ex' (gM_ns C hoL hr (fun s => dl s j))
  -- the sum over all lines, each y s times
  have e1 : sumR (fun s => y s * dl s j) M.length = y j := by
    rw [← sumR_dl y hj]
    exact sumR_congr fun s _ => by grind
  have e2 : ∀ s, s < M.length → sumR (fun c => gM M o (fun s => dl s j) s c * x c) M.length = dl s j := fun s hs => by
    have h := hx s hs
    unfold satL dotM at h
    have : gM M o (fun s => dl s j) s M.length = dl s j := by unfold gM; rw [if_pos rfl]
    rw [this] at h
    rw [h]
    grind
  have e3 : y j = sumR (fun c => x c * sumR (fun s => y s * gM M o (fun s => dl s j) s c) M.length) M.length := by
    have a1 : y j = sumR (fun s => y s * sumR (fun c => gM M o (fun s => dl s j) s c * x c) M.length) M.length := by
      rw [← e1]
      exact sumR_congr fun s hs => by rw [e2 s hs]
    have a2 : sumR (fun s => y s * sumR (fun c => gM M o (fun s => dl s j) s c * x c) M.length) M.length = sumR (fun s => sumR (fun c => y s * (gM M o (fun s => dl s j) s c * x c)) M.length) M.length := sumR_congr fun s _ => (sumR_mul _ _ _).symm
    rw [a1, a2, sum_swap]
    refine sumR_congr fun c _ => ?_
    rw [← sumR_mul]
    exact sumR_congr fun s _ => by grind
  rw [e3]
  refine sumR_zero fun c hc => ?_
  have : sumR (fun s => y s * gM M o (fun s => dl s j) s c) M.length = 0 := by
    by_cases q : c = o
    · have : sumR (fun s => y s * gM M o (fun s => dl s j) s c) M.length = sumR y M.length := sumR_congr fun s _ => by
        unfold gM
        rw [if_neg (by omega), if_pos q]
        grind
      rw [this, y1]
    · have e : sumR (fun s => y s * gM M o (fun s => dl s j) s c) M.length = y c - flow M y c := by
        unfold flow
        rw [← sumR_dl y hc, ← sumR_sub]
        refine sumR_congr fun s _ => ?_
        unfold gM
        rw [if_neg (by omega), if_neg q]
        have : dl c s = dl s c := by
          unfold dl
          by_cases z : c = s
          · rw [if_pos z, if_pos z.symm]
          · rw [if_neg z, if_neg (fun w => z w.symm)]
        rw [this]
        grind
      rw [e, y2 c hc]
      grind
  rw [this]
  grind
def absR (q : Rat) : Rat := if q < 0 then -q else q
omit C in
theorem absR_nn (q : Rat) : 0 ≤ absR q := by unfold absR; split <;> grind
omit C in
theorem absR_le (q : Rat) : q ≤ absR q ∧ -q ≤ absR q := by unfold absR; split <;> constructor <;> grind
omit C in
theorem absR_mul (q : Rat) {w : Rat} (h : 0 ≤ w) : absR q * w = absR (q * w) := by
  unfold absR
  by_cases c : q < 0
  · rw [if_pos c]
    by_cases z : q * w < 0
    · rw [if_pos z]; grind
    · rw [if_neg z]
      have : 0 ≤ -q * w := Rat.mul_nonneg (by grind) h
      grind
  · rw [if_neg c]
    have : 0 ≤ q * w := Rat.mul_nonneg (by grind) h
    rw [if_neg (by grind)]
omit C in
theorem abs_sum (f : Nat → Rat) : ∀ n, absR (sumR f n) ≤ sumR (fun i => absR (f i)) n
  | 0 => by
    show absR 0 ≤ 0
    unfold absR
    simp
  | n + 1 => by
    have ih := abs_sum f n
    rw [sumR, sumR]
    have a := absR_le (sumR f n)
    have b := absR_le (f n)
    unfold absR at ⊢
    by_cases c : sumR f n + f n < 0
    · rw [if_pos c]
      unfold absR at *
      grind
    · rw [if_neg c]
      unfold absR at *
      grind
/-- the fractions of the days are not below 0 -/
theorem days_nn {o : Nat} (hoL : o < M.length) (hr : ∀ u, u < M.length → Rc M wf0 u o) {y : Nat → Rat} (hy : satM M.length 1 (dM M o) y) : ∀ j, j < M.length → 0 ≤ y j := by
  obtain ⟨y1, y2⟩ := (dM_sat C hoL).mp hy
  have sh0 : ∀ s j, s < M.length → 0 ≤ shQ M s j := fun s j hs => by
    obtain ⟨p1, p2, p3⟩ := C.at1 hs
    unfold shQ
    rw [Rat.div_def]
    exact Rat.mul_nonneg (by exact_mod_cast (p3 j).1) (Rat.le_of_lt (Rat.inv_pos.mpr (by exact_mod_cast p1)))
  let a : Nat → Rat := fun s => absR (y s)
  have le : ∀ j, j < M.length → a j ≤ flow M a j := fun j hj => by
    have h := abs_sum (fun s => y s * shQ M s j) M.length
    have e : sumR (fun s => absR (y s * shQ M s j)) M.length = flow M a j := by
      unfold flow
      exact sumR_congr fun s hs => (absR_mul (y s) (sh0 s j hs)).symm
    have e2 : sumR (fun s => y s * shQ M s j) M.length = y j := y2 j hj
    rw [e, e2] at h
    exact h
  have fl : ∀ j, j < M.length → flow M a j = a j := fun j hj => by
    have nn : ∀ i, i < M.length → 0 ≤ flow M a i - a i := fun i hi => by have := le i hi; grind
    have z : sumR (fun i => flow M a i - a i) M.length = 0 := by
      rw [sumR_sub, flow_sum C a]
      grind
    have := sumR_nz nn z j hj
    grind
  let T : Rat := sumR a M.length
  have hT : 1 ≤ T := by
    have : sumR y M.length ≤ sumR a M.length := by
      have nn : ∀ i, i < M.length → 0 ≤ a i - y i := fun i _ => by have := (absR_le (y i)).1; show 0 ≤ absR (y i) - y i; grind
      have := sumR_nn nn
      rw [sumR_sub] at this
      grind
    rw [y1] at this
    exact this
  have z0 : satM M.length 0 (dM M o) (fun s => a s - T * y s) := (dM_sat C hoL).mpr ⟨by
    rw [sumR_sub, sumR_mul, y1]
    show T - T * 1 = 0
    grind, fun j hj => by
    have e : flow M (fun s => a s - T * y s) j = flow M a j - T * flow M y j := by
      unfold flow
      rw [← sumR_mul, ← sumR_sub]
      exact sumR_congr fun s _ => by grind
    rw [e, fl j hj, y2 j hj]⟩
  intro j hj
  have e := dM_ns C hoL hr _ z0 j hj
  have e' : absR (y j) = T * y j := by
    have e2 : absR (y j) - T * y j = 0 := e
    grind
  by_cases c : y j < 0
  · exfalso
    have p := Rat.mul_pos (show (0 : Rat) < T by grind) (show 0 < -(y j) by grind)
    have := absR_nn (y j)
    rw [e'] at this
    grind
  · exact Rat.not_lt.mp c
end
/-! ### the program's lines of a part -/
def balR (M : List (List Int)) (A : List Nat) (i : Nat) : List Int := ((List.range A.length).map fun c => wt M (A.getD c 0) (A.getD i 0) - (if c = i then sm1 M (A.getD i 0) else 0)) ++ [0]
def balW (M : List (List Int)) (A : List Nat) : Wk := fun i => if i + 1 = A.length then ((List.range A.length).map fun c => sm1 M (A.getD c 0)) ++ [1] else balR M A i
def extZ (M : List (List Int)) (A : List Nat) (z : Nat → Rat) (s : Nat) : Rat := if s ∈ A then ((sm1 M s : Int) : Rat) * z (A.idxOf s) else 0
theorem getD_range (f : Nat → Int) (v : Int) {k c : Nat} (hc : c ≤ k) : (((List.range k).map f) ++ [v]).getD c 0 = if c = k then v else f c := by
  simp only [List.getD]
  split
  · rename_i e
    subst e
    rw [List.getElem?_append_right (by simp), List.length_map, List.length_range, Nat.sub_self]
    rfl
  · rw [List.getElem?_append_left (by simp; omega), List.getElem?_map, List.getElem?_range (by omega)]
    rfl
section
variable {M : List (List Int)} (C : Chn M) {A : List Nat} (nd : A.Nodup) (lt : ∀ a ∈ A, a < M.length) (ne : 1 ≤ A.length) (st : ∀ a ∈ A, ∀ j, j < M.length → j ∉ A → wt M a j = 0)
include C nd lt ne st
omit ne st C in
theorem ext_at {z : Nat → Rat} {c : Nat} (hc : c < A.length) : extZ M A z (A.getD c 0) = ((sm1 M (A.getD c 0) : Int) : Rat) * z c := by
  have hm : A.getD c 0 ∈ A := by simp [List.getD, hc]
  have e : A.getD c 0 = A[c] := by simp [List.getD, hc]
  unfold extZ
  rw [if_pos hm]
  congr 2
  rw [e, nd.idxOf_getElem c hc]
omit ne st C in
theorem ext_sum (z g : Nat → Rat) : sumR (fun s => extZ M A z s * g s) M.length = sumR (fun c => ((sm1 M (A.getD c 0) : Int) : Rat) * z c * g (A.getD c 0)) A.length := by
  rw [split_sum _ nd lt]
  have e1 : sumR (fun j => if j ∈ A then 0 else extZ M A z j * g j) M.length = 0 := sumR_zero fun j _ => by
    split
    · rfl
    · rename_i h
      unfold extZ
      rw [if_neg h]
      grind
  rw [e1, show sumR (fun c => extZ M A z (A.getD c 0) * g (A.getD c 0)) A.length = sumR (fun c => ((sm1 M (A.getD c 0) : Int) : Rat) * z c * g (A.getD c 0)) A.length from sumR_congr fun c hc => by rw [ext_at nd lt hc]]
  grind
theorem ext_sat {o : Nat} (hoL : o < M.length) {t : Rat} {z : Nat → Rat} (hz : satM A.length t (mxW (balW M A)) z) : satM M.length t (dM M o) (extZ M A z) := by
  have hs : sumR (extZ M A z) M.length = t := by
    have h := hz (A.length - 1) (by omega)
    unfold satL dotM at h
    have ew : ∀ c, c ≤ A.length → mxW (balW M A) (A.length - 1) c = if c = A.length then 1 else ((sm1 M (A.getD c 0) : Int) : Rat) := fun c hc => by
      unfold mxW balW
      rw [if_pos (by omega), getD_range _ _ hc]
      split <;> rfl
    rw [ew A.length (Nat.le_refl _), if_pos rfl] at h
    have e1 : sumR (fun c => mxW (balW M A) (A.length - 1) c * z c) A.length = sumR (fun c => ((sm1 M (A.getD c 0) : Int) : Rat) * z c) A.length := sumR_congr fun c hc => by rw [ew c (by omega), if_neg (by omega)]
    rw [e1] at h
    have e2 := ext_sum nd lt z (fun _ => 1)
    have e3 : sumR (fun s => extZ M A z s * 1) M.length = sumR (extZ M A z) M.length := sumR_congr fun s _ => by grind
    have e4 : sumR (fun c => ((sm1 M (A.getD c 0) : Int) : Rat) * z c * 1) A.length = sumR (fun c => ((sm1 M (A.getD c 0) : Int) : Rat) * z c) A.length := sumR_congr fun s _ => by grind
    rw [← e3, e2, e4, h]
    grind
  have fl : ∀ j, flow M (extZ M A z) j = sumR (fun c => ((wt M (A.getD c 0) j : Int) : Rat) * z c) A.length := fun j => by
    unfold flow
    rw [ext_sum nd lt z (fun s => shQ M s j)]
    refine sumR_congr fun c hc => ?_
    have hm : A.getD c 0 ∈ A := by simp [List.getD, hc]
    have h0 := sm1_ne C (lt _ hm)
    unfold shQ
    generalize ((sm1 M (A.getD c 0) : Int) : Rat) = S at *
    grind
  have fo : ∀ j, j < M.length → j ∉ A → flow M (extZ M A z) j = extZ M A z j := fun j hj hn => by
    rw [fl j]
    unfold extZ
    rw [if_neg hn]
    refine sumR_zero fun c hc => ?_
    have hm : A.getD c 0 ∈ A := by simp [List.getD, hc]
    rw [st _ hm j hj hn]
    have : ((0 : Int) : Rat) = 0 := rfl
    rw [this]
    grind
  have fi : ∀ i, i + 1 < A.length → flow M (extZ M A z) (A.getD i 0) = extZ M A z (A.getD i 0) := fun i hi => by
    have h := hz i (by omega)
    unfold satL dotM at h
    have ew : ∀ c, c ≤ A.length → mxW (balW M A) i c = if c = A.length then 0 else ((wt M (A.getD c 0) (A.getD i 0) : Int) : Rat) - (if c = i then ((sm1 M (A.getD i 0) : Int) : Rat) else 0) := fun c hc => by
      unfold mxW balW balR
      rw [if_neg (by omega), getD_range _ _ hc]
      split
      · rfl
      · rw [Rat.intCast_sub]
        split <;> rfl
    rw [ew A.length (Nat.le_refl _), if_pos rfl] at h
    have e1 : sumR (fun c => mxW (balW M A) i c * z c) A.length = sumR (fun c => ((wt M (A.getD c 0) (A.getD i 0) : Int) : Rat) * z c) A.length - ((sm1 M (A.getD i 0) : Int) : Rat) * z i := by
      have : ((sm1 M (A.getD i 0) : Int) : Rat) * z i = sumR (fun c => (if c = i then ((sm1 M (A.getD i 0) : Int) : Rat) else 0) * z c) A.length := by
        rw [sumR_one (k := i) (by omega) fun c _ hne => by rw [if_neg hne]; grind, if_pos rfl]
      rw [this, ← sumR_sub]
      exact sumR_congr fun c hc => by
        rw [ew c (by omega), if_neg (by omega)]
        grind
    rw [e1] at h
    rw [fl, ext_at nd lt (by omega)]
    grind
  have hlast : A.getD (A.length - 1) 0 ∈ A := by
    have : A.length - 1 < A.length := by omega
    simp [List.getD, this]
  have all : ∀ j, j < M.length → j ≠ A.getD (A.length - 1) 0 → flow M (extZ M A z) j = extZ M A z j := fun j hj hne => by
    by_cases hA : j ∈ A
    · have hi : A.idxOf j < A.length := List.idxOf_lt_length_iff.mpr hA
      have hget : A.getD (A.idxOf j) 0 = j := by
        simp only [List.getD]
        rw [List.getElem?_eq_getElem hi, List.getElem_idxOf hi]
        rfl
      have := fi (A.idxOf j) (by
        by_cases q : A.idxOf j = A.length - 1
        · exfalso
          rw [q] at hget
          exact hne hget.symm
        · omega)
      rw [hget] at this
      exact this
    · exact fo j hj hA
  refine (dM_sat C hoL).mpr ⟨hs, fun j hj => ?_⟩
  by_cases q : j = A.getD (A.length - 1) 0
  · rw [q]
    exact flow_last C (lt _ hlast) all
  · exact all j hj q
theorem bal_ns {o : Nat} (hoL : o < M.length) (hr : ∀ u, u < M.length → Rc M wf0 u o) : NSing A.length (mxW (balW M A)) := by
  intro z hz c hc
  have hm : A.getD c 0 ∈ A := by simp [List.getD, hc]
  have h := dM_ns C hoL hr _ (ext_sat C nd lt ne st hoL hz) _ (lt _ hm)
  rw [ext_at nd lt hc] at h
  rcases Rat.mul_eq_zero.mp h with q | q
  · exact absurd q (sm1_ne C (lt _ hm))
  · exact q
omit nd st in
theorem bal_ok : WOkk A.length 6 (balW M A) := by
  refine ⟨fun i hi => ?_, fun i hi x hx => ?_⟩
  · unfold balW
    split
    · simp
    · unfold balR; simp
  · unfold balW at hx
    split at hx
    · rcases List.mem_append.mp hx with hx | hx
      · obtain ⟨c, hc, rfl⟩ := List.mem_map.mp hx
        have hc' := List.mem_range.mp hc
        have hm : A.getD c 0 ∈ A := by simp [List.getD, hc']
        obtain ⟨p1, p2, _⟩ := C.at1 (lt _ hm)
        omega
      · have : x = 1 := by simpa using hx
        subst this
        decide
    · unfold balR at hx
      rcases List.mem_append.mp hx with hx | hx
      · obtain ⟨c, hc, rfl⟩ := List.mem_map.mp hx
        have hc' := List.mem_range.mp hc
        have hm : A.getD c 0 ∈ A := by simp [List.getD, hc']
        have hmi : A.getD i 0 ∈ A := by simp [List.getD, hi]
        obtain ⟨_, _, p3⟩ := C.at1 (lt _ hm)
        obtain ⟨p1, p2, _⟩ := C.at1 (lt _ hmi)
        obtain ⟨w0, w9⟩ := p3 (A.getD i 0)
        split <;> omega
      · have : x = 0 := by simpa using hx
        subst this
        decide
end
end Mp
/-! K41B: the parts, by the program and by the law. -/
namespace Mp
open PySem PySem.Spec PyProof.Rows L2
theorem sortX_i41 (r : List Int) (h : Hc) : sortX h (.lst (r.map D.int)) = some ((sortI r).map D.int) := by
  unfold sortX
  cases r with
  | nil => rfl
  | cons x r =>
    have : strsD ((x :: r).map D.int) = none := rfl
    simp only [rdlD, lstD, this, intsD_map]
abbrev ilD (p : List Nat) : D := .lst ((iN p).map D.int)
theorem iN_inj' {a b : List Nat} : iN a = iN b ↔ a = b := by
  constructor
  · intro h
    unfold iN at h
    have := congrArg (List.map Int.toNat) h
    rw [List.map_map, List.map_map] at this
    have e : ∀ l : List Nat, l.map (Int.toNat ∘ fun (k : Nat) => (k : Int)) = l := fun l => by
      have : (Int.toNat ∘ fun (k : Nat) => (k : Int)) = id := by funext k; simp
      rw [this, List.map_id]
    rw [e, e] at this
    exact this
  · intro h; rw [h]
/-- a list in a list of lists -/
theorem inZ_il (neg : Bool) (a : List Nat) (P : List (List Nat)) {i : Nat} {h : Hc} (hi : h[i]? = some (.lst (P.map ilD))) : inZ neg (ilD a) (.ref i) h = .ok (.bl (if neg then !decide (a ∈ P) else decide (a ∈ P))) h := by
  have sh : ∀ a : List Int, PyData.canLay0 (.list (a.map PyData.int)) = true ∧ PyData.depth (.list (a.map PyData.int)) ≤ 1 := fun a => by
    obtain ⟨h1, h2⟩ := lay_ints a
    simp [PyData.canLay0, PyData.depth, h1, h2]
  have sh1 : SeqAt.shaped (.list ((iN a).map PyData.int)) = true := by
    obtain ⟨h1, h2⟩ := sh (iN a)
    unfold SeqAt.shaped
    simp [h1]
    omega
  have eP : toPyL (P.map ilD) = some (P.map fun p => PyData.list ((iN p).map PyData.int)) := by
    induction P with
    | nil => rfl
    | cons p P ih =>
      have ih' := ih
      clear ih
      rw [List.map_cons, List.map_cons]
      unfold toPyL
      have e1 : toPy (ilD p) = some (.list ((iN p).map PyData.int)) := by
        show toPy (.lst ((iN p).map D.int)) = _
        unfold toPy
        rw [toPyL_ints]
        rfl
      rw [e1]
      have : toPyL (P.map ilD) = some (P.map fun p => PyData.list ((iN p).map PyData.int)) := by
        clear ih' hi e1
        induction P with
        | nil => rfl
        | cons p P ih =>
          rw [List.map_cons, List.map_cons]
          unfold toPyL
          have e1 : toPy (ilD p) = some (.list ((iN p).map PyData.int)) := by
            show toPy (.lst ((iN p).map D.int)) = _
            unfold toPy
            rw [toPyL_ints]
            rfl
          rw [e1, ih]
      rw [this]
  have shP : SeqAt.shaped (.list (P.map fun p => PyData.list ((iN p).map PyData.int))) = true := by
    have g : PyData.canLayAll0 (P.map fun p => PyData.list ((iN p).map PyData.int)) = true ∧ PyData.depthAll (P.map fun p => PyData.list ((iN p).map PyData.int)) ≤ 1 := by
      clear hi eP
      induction P with
      | nil => simp [PyData.canLayAll0, PyData.depthAll]
      | cons p P ih =>
        obtain ⟨h1, h2⟩ := sh (iN p)
        rw [List.map_cons]
        refine ⟨by simp only [PyData.canLayAll0, h1, ih.1]; rfl, ?_⟩
        simp only [PyData.depthAll]
        omega
    unfold SeqAt.shaped
    simp [PyData.canLay0, PyData.depth, g.1]
    omega
  have e1 : toPyR h (ilD a) = some (.list ((iN a).map PyData.int)) := by
    show toPy (.lst ((iN a).map D.int)) = _
    unfold toPy
    rw [toPyL_ints]
    rfl
  have e2 : toPyR h (.ref i) = some (.list (P.map fun p => PyData.list ((iN p).map PyData.int))) := by
    unfold toPyR
    simp only [hi]
    rw [eP]
    rfl
  have an : ((P.map fun p => PyData.list ((iN p).map PyData.int)).any fun z => PyData.eqv z (.list ((iN a).map PyData.int))) = decide (a ∈ P) := by
    rw [List.any_map]
    have : ((fun z => PyData.eqv z (.list ((iN a).map PyData.int))) ∘ fun p => PyData.list ((iN p).map PyData.int)) = fun p => decide (p = a) := by
      funext p
      show PyData.eqv (.list ((iN p).map PyData.int)) (.list ((iN a).map PyData.int)) = _
      rw [PyData.eqv, eqv_ints]
      simp only [iN_inj']
    rw [this]
    rw [Bool.eq_iff_iff, List.any_eq_true, decide_eq_true_eq]
    constructor
    · rintro ⟨p, hp, e⟩
      rw [decide_eq_true_eq] at e
      rw [← e]
      exact hp
    · intro hp
      exact ⟨a, hp, by simp⟩
  have sc : ¬ (scalD (ilD a) = true) := by simp [ilD, scalD]
  unfold inZ
  rw [if_neg sc, e1, e2]
  simp only
  rw [if_pos ⟨sh1, shP⟩, an]
theorem flat_ilD (p : List Nat) : flat (ilD p) = true := flat_sq true (iN p)
section
variable {M : List (List Int)} (Cm : Chn M)
include Cm
theorem wall0 (u : Nat) (h : Hc) : inG true (.int (u : Int)) (.tup []) h = .ok (.bl (!wf0 u)) h := by
  have := inG_i true (u : Int) (U := .tup []) (us := []) (h := h) rfl
  simpa using this
theorem wall0l (u : Nat) (h : Hc) : inG true (.int (u : Int)) (.lst []) h = .ok (.bl (!wf0 u)) h := by
  have := inG_i true (u : Int) (U := .lst []) (us := []) (h := h) rfl
  simpa using this
theorem rg41 (h : Hc) : rg1F [.int (M.length : Int)] h = .ok ⟨(List.range' 0 M.length).map fun (k : Nat) => D.int (k : Int), fun _ => true⟩ h := by
  have hi := Cm.hi
  rw [rg1F_int, if_pos (rgOk_nat (by omega)), Int.toNat_natCast, ← List.range_eq_range']
  unfold upFrom
  simp
theorem len41 (b : Bool) (h : Hc) : lenF [ch b M] h = .ok (.int (M.length : Int)) h := by unfold ch; rw [len_sqs, List.length_map]
theorem ix_reach {s : Nat} (hs : s < M.length) (h : Hc) : ixF (.lst ((List.range' 0 M.length).map fun s => ilD (rs M s))) (.int (s : Int)) h = .ok (ilD (rs M s)) h := by
  have q := ix_sqs true ((List.range' 0 M.length).map fun s => ilD (rs M s)) (s : Int) h
  rw [atI_nat' (by simpa using hs), List.getElem?_map, List.getElem?_range' hs] at q
  have : 0 + 1 * s = s := by omega
  rw [this] at q
  exact q
theorem cp_loop (b : Bool) : ∀ (m s : Nat) (x3 x4 x5 : Option D), s + m = M.length → ∃ y3 y4, fl (fun _ => true) (.t ((.n 3) :: ((.n 4) :: []))) m_closed_parts_l1 ((List.range' s m).map fun (k : Nat) => D.tup [.int (k : Int), ilD (rs M k)]) [some (ch b M), some (.lst ((List.range' 0 M.length).map fun s => ilD (rs M s))), some (.ref 0), x3, x4, x5] [.lst ((cpF M s).map ilD)] =
    .nx [some (ch b M), some (.lst ((List.range' 0 M.length).map fun s => ilD (rs M s))), some (.ref 0), y3, y4, x5] [.lst ((cpF M M.length).map ilD)]
  | 0, s, x3, x4, x5, hs => by
    have : s = M.length := by omega
    subst this
    exact ⟨x3, x4, fl_end rfl⟩
  | m + 1, s, x3, x4, x5, hs => by
    have hs' : s < M.length := by omega
    have hi := Cm.hi
    obtain ⟨y3, y4, ih⟩ := cp_loop b m (s + 1) (some (.int (s : Int))) (some (ilD (rs M s))) x5 (by omega)
    refine ⟨y3, y4, ?_⟩
    rw [List.range'_succ, List.map_cons]
    refine Eq.trans (fl_nx (ds1 := [some (ch b M), some (.lst ((List.range' 0 M.length).map fun s => ilD (rs M s))), some (.ref 0), some (.int (s : Int)), some (ilD (rs M s)), x5]) rfl (by simp) ?_) ih
    have e1 := inZ_il true (rs M s) (cpF M s) (i := 0) (h := [.lst ((cpF M s).map ilD)]) rfl
    have hrl : (rs M s).length ≤ 1000 := by
      rw [rs_filter hs']
      have := List.length_filter_le (fun k => decide (k ∈ reach M wf0 s)) (List.range M.length)
      rw [List.length_range] at this
      omega
    have c2 := lcR_mm (chk := fun _ => true) (p := .n 5) (own := [5]) (m := m_closed_parts_c2) (ds := [some (ch b M), some (.lst ((List.range' 0 M.length).map fun s => ilD (rs M s))), some (.ref 0), some (.int (s : Int)), some (ilD (rs M s)), x5]) (h := [.lst ((cpF M s).map ilD)]) (fun (t : Nat) => D.int (t : Int)) (fun t => D.bl (decide (s ∈ rs M t))) rfl (rs M s) (by omega) (fun t ht => ⟨_, bindP_n .., by
      have i1 := fun h => ix_reach Cm (rsl hs' ht) h
      have i2 : ∀ h, inZ false (.int (s : Int)) (ilD (rs M t)) h = .ok (.bl (decide (s ∈ rs M t))) h := fun h => by
        unfold inZ
        rw [if_pos (show scalD (.int (s : Int)) = true from rfl)]
        have := inG_i false (s : Int) (U := ilD (rs M t)) (us := iN (rs M t)) (h := h) rfl
        simp only [iN_mem] at this
        exact this
      generalize (List.range' 0 M.length).map (fun s => ilD (rs M s)) = RR at *
      generalize ilD (rs M t) = RT at *
      generalize ilD (rs M s) = RS at *
      generalize decide (s ∈ rs M t) = bb at *
      simp [m_closed_parts_c2, i1, i2]⟩)
    have al : ∀ h, allF [.lst ((rs M s).map fun t => D.bl (decide (s ∈ rs M t)))] h = .ok (.bl (clB M s)) h := fun h => by
      have e : ((rs M s).map fun t => D.bl (decide (s ∈ rs M t))) = ((rs M s).map fun t => decide (s ∈ rs M t)).map D.bl := by rw [List.map_map]; rfl
      rw [e, allF_lst]
      unfold clB
      congr 2
      rw [List.all_map]
      rfl
    have sq0 : ∀ h, seqD h (ilD (rs M s)) = some ((rs M s).map fun (t : Nat) => D.int (t : Int)) := fun h => by
      show some ((iN (rs M s)).map D.int) = _
      unfold iN
      rw [List.map_map]
      rfl
    have cq0 : chkQ (ilD (rs M s)) ((rs M s).map fun (t : Nat) => D.int (t : Int)) = fun _ => true := by
      have : ((rs M s).map fun (t : Nat) => D.int (t : Int)) = (iN (rs M s)).map D.int := by unfold iN; rw [List.map_map]; rfl
      rw [this]
      exact chkQ_sq true (iN (rs M s))
    have hcl := cpF_len (M := M) s
    have kk := kindOk_list (n := 0) (xs := (cpF M s).map ilD) (h := [.lst ((cpF M s).map ilD)]) rfl
    have ap := appF_ref (n := 0) (xs := (cpF M s).map ilD) (d := ilD (rs M s)) (h := [.lst ((cpF M s).map ilD)]) rfl (by rw [List.length_map]; omega)
    simp only [List.set_cons_zero] at ap
    have ecp : cpF M (s + 1) = if rs M s ∉ cpF M s ∧ clB M s = true then cpF M s ++ [rs M s] else cpF M s := rfl
    have emap : (cpF M s).map ilD ++ [ilD (rs M s)] = (cpF M s ++ [rs M s]).map ilD := by rw [List.map_append]; rfl
    rw [emap] at ap
    rw [ecp]
    by_cases q1 : rs M s ∈ cpF M s
    · rw [if_neg (fun z => z.1 q1)]
      rw [decide_eq_true q1] at e1
      generalize (List.range' 0 M.length).map (fun s => ilD (rs M s)) = RR at *
      generalize (cpF M s).map ilD = CL at *
      generalize ilD (rs M s) = RS at *
      generalize ch b M = CD at *
      simp [m_closed_parts_l1, e1]
    · rw [decide_eq_false q1] at e1
      cases q2 : clB M s with
      | true =>
        rw [q2] at al
        rw [if_pos ⟨q1, rfl⟩]
        generalize (List.range' 0 M.length).map (fun s => ilD (rs M s)) = RR at *
        generalize (cpF M s ++ [rs M s]).map ilD = CL2 at *
        generalize (cpF M s).map ilD = CL at *
        generalize ((rs M s).map fun (t : Nat) => D.int (t : Int)) = SL at *
        generalize ((rs M s).map fun t => D.bl (decide (s ∈ rs M t))) = BL at *
        generalize ilD (rs M s) = RS at *
        generalize ch b M = CD at *
        simp [m_closed_parts_l1, e1, sq0, cq0, c2, al, kk, ap]
      | false =>
        rw [q2] at al
        rw [if_neg (fun z => by cases z.2)]
        generalize (List.range' 0 M.length).map (fun s => ilD (rs M s)) = RR at *
        generalize (cpF M s).map ilD = CL at *
        generalize ((rs M s).map fun (t : Nat) => D.int (t : Int)) = SL at *
        generalize ((rs M s).map fun t => D.bl (decide (s ∈ rs M t))) = BL at *
        generalize ilD (rs M s) = RS at *
        generalize ch b M = CD at *
        simp [m_closed_parts_l1, e1, sq0, cq0, c2, al]
theorem closed_ok (b : Bool) (h : Hc) : callL m_closed_parts [ch b M] h = .ok (.lst ((cpF M M.length).map ilD)) h := by
  have hi := Cm.hi
  have c1 := lcR_mm (chk := fun _ => true) (p := .n 3) (own := [3]) (m := m_closed_parts_c1) (ds := [some (ch b M), none, none, none, none, none]) (h := []) (fun (k : Nat) => D.int (k : Int)) (fun s => ilD (rs M s)) rfl (List.range' 0 M.length) (by rw [List.length_range']; omega) (fun s hs => ⟨_, bindP_n .., by
    have hs' : s < M.length := by simp at hs; omega
    have e := fun h => reached_ok b Cm (wall := wf0) (V := .tup []) (by simp) (fun u h => wall0 Cm u h) hs' h
    have e' : ∀ h, callL m_reached [ch b M, .int (s : Int), .tup []] h = .ok (ilD (rs M s)) h := e
    generalize ilD (rs M s) = RS at *
    generalize ch b M = CD at *
    simp [m_closed_parts_c1, e']⟩)
  obtain ⟨y3, y4, e1⟩ := cp_loop Cm b M.length 0 none none none (by omega)
  have e0 : (cpF M 0).map ilD = [] := rfl
  rw [e0] at e1
  have een : ∀ h, enF [.lst ((List.range' 0 M.length).map fun s => ilD (rs M s))] h = .ok ⟨(List.range' 0 M.length).map fun (k : Nat) => D.tup [.int (k : Int), ilD (rs M k)], fun _ => true⟩ h := fun h => by
    have z := enF_lst (h := h) (xs := (List.range' 0 M.length).map fun s => ilD (rs M s))
    have q : enumD 0 ((List.range' 0 M.length).map fun s => ilD (rs M s)) = (List.range' 0 M.length).map fun (k : Nat) => D.tup [.int (k : Int), ilD (rs M k)] := by
      apply List.ext_getElem?
      intro i
      rw [enumD_get, List.getElem?_map, List.getElem?_map]
      by_cases hi : i < M.length
      · rw [List.getElem?_range' hi]
        simp
      · rw [List.getElem?_eq_none (by simp; omega)]
        rfl
    rw [q] at z
    rw [z]
    have := chkQ_sqs true ((List.range' 0 M.length).map fun s => ilD (rs M s))
    have e : chkQ (.lst ((List.range' 0 M.length).map fun s => ilD (rs M s))) ((List.range' 0 M.length).map fun s => ilD (rs M s)) = fun _ => true := this
    rw [e]
  have ff : flatL ((cpF M M.length).map ilD) = true := flatL_map _ (fun p => flat_ilD p) _
  have lm := fun h => len41 Cm b h
  have er := fun h => rg41 Cm h
  have fch := flat_ch b M
  generalize hOUT : (cpF M M.length).map ilD = OUT at *
  refine call_pure (d0 := .ref 0) (h' := [Mp.C.lst OUT]) (by simp [fch]) ?_ (frz_cell (rs := []) (n := 6) (by simp) rfl ff) h
  unfold m_closed_parts
  rw [runB_s]
  generalize (List.range' 0 M.length).map (fun s => ilD (rs M s)) = RR at *
  generalize (List.range' 0 M.length).map (fun (k : Nat) => D.int (k : Int)) = RG at *
  generalize ((List.range' 0 M.length).map fun (k : Nat) => D.tup [.int (k : Int), ilD (rs M k)]) = EL at *
  generalize ch b M = CD at *
  simp [lm, er, c1, iEnu, een, e1]
theorem lcp_loop : ∀ (m s : Nat) (x3 x4 : Option D), s + m = M.length → ∃ y2 y3, ∀ x2, fl (fun _ => true) (.n 2) m_law_closed_parts_l1 ((List.range' s m).map fun (k : Nat) => D.int (k : Int)) [some (ch false M), some (.ref 0), x2, x3, x4] [.lst ((cpF M s).map ilD)] =
    .nx [some (ch false M), some (.ref 0), (if m = 0 then x2 else y2), y3, x4] [.lst ((cpF M M.length).map ilD)]
  | 0, s, x3, x4, hs => by
    have : s = M.length := by omega
    subst this
    exact ⟨none, x3, fun x2 => by rw [if_pos rfl]; exact fl_end rfl⟩
  | m + 1, s, x3, x4, hs => by
    have hs' : s < M.length := by omega
    have hi := Cm.hi
    obtain ⟨y2, y3, ih⟩ := lcp_loop m (s + 1) (some (ilD (rs M s))) x4 (by omega)
    refine ⟨if m = 0 then some (.int (s : Int)) else y2, y3, fun x2 => ?_⟩
    rw [if_neg (by omega), List.range'_succ, List.map_cons]
    refine Eq.trans (fl_n (b := m_law_closed_parts_l1) ?_) (ih (some (.int (s : Int))))
    have srt : ∀ t, t < M.length → ∀ h, callL m_law_reach [ch false M, .int (t : Int), .lst []] h = .ok (.lst ((iN (reach M wf0 t)).map D.int)) h ∧ sortF [.lst ((iN (reach M wf0 t)).map D.int)] h = .ok (ilD (rs M t)) h := fun t ht h => by
      refine ⟨law_reach_ok Cm (wall := wf0) (V := .lst []) (by simp) (fun u h => wall0l Cm u h) ht h, ?_⟩
      unfold sortF
      simp only [sortX_i41]
      rw [sortI_iN]
      rfl
    have a1 := fun h => (srt s hs' h).1
    have a2 := fun h => (srt s hs' h).2
    have hrl : (rs M s).length ≤ 1000 := by
      rw [rs_filter hs']
      have := List.length_filter_le (fun k => decide (k ∈ reach M wf0 s)) (List.range M.length)
      rw [List.length_range] at this
      omega
    let tst : D → Bool := fun d => match d with | .int i => !decide (rs M i.toNat = rs M s) | _ => false
    have c1 := lcR_flt (chk := fun _ => true) (p := .n 4) (own := [4]) (c := m_law_closed_parts_t1) (m := m_law_closed_parts_c1) (ds := [some (ch false M), some (.ref 0), some (.int (s : Int)), some (ilD (rs M s)), x4]) (h := [.lst ((cpF M s).map ilD)]) tst (fun d => d) rfl ((rs M s).map fun (t : Nat) => D.int (t : Int)) [] (by simp; omega) (fun d hd => by
      obtain ⟨t, ht, rfl⟩ := List.mem_map.mp hd
      have hl := rsl hs' ht
      have b1 := fun h => (srt t hl h).1
      have b2 := fun h => (srt t hl h).2
      have ne := fun h => eqG_ints true (iN (rs M t)) (iN (rs M s)) h
      simp only [if_true, iN_inj'] at ne
      have ne' : ∀ h, eqG true (ilD (rs M t)) (ilD (rs M s)) h = .ok (.bl (!decide (rs M t = rs M s))) h := ne
      refine ⟨_, bindP_n .., ?_, fun _ => by simp [m_law_closed_parts_c1]⟩
      have et : tst (.int (t : Int)) = !decide (rs M t = rs M s) := by
        show (!decide (rs M (t : Int).toNat = rs M s)) = _
        rw [Int.toNat_natCast]
      rw [et]
      clear ne
      generalize (!decide (rs M t = rs M s)) = bb at *
      generalize (cpF M s).map ilD = CL at *
      generalize (iN (reach M wf0 t)).map D.int = TL at *
      generalize ilD (rs M t) = RT at *
      generalize ilD (rs M s) = RS at *
      generalize ch false M = CD at *
      simp [m_law_closed_parts_t1, b1, b2, ne'])
    simp only [List.nil_append, List.map_id'] at c1
    have el : (((rs M s).map fun (t : Nat) => D.int (t : Int)).filter tst).length = 0 ↔ clB M s = true := by
      rw [List.length_eq_zero_iff, List.filter_eq_nil_iff, cl_iff hs']
      constructor
      · intro h t ht
        have := h (.int (t : Int)) (List.mem_map.mpr ⟨t, ht, rfl⟩)
        have et : tst (.int (t : Int)) = !decide (rs M t = rs M s) := by
          show (!decide (rs M (t : Int).toNat = rs M s)) = _
          rw [Int.toNat_natCast]
        rw [et] at this
        simpa using this
      · intro h d hd
        obtain ⟨t, ht, rfl⟩ := List.mem_map.mp hd
        have et : tst (.int (t : Int)) = !decide (rs M t = rs M s) := by
          show (!decide (rs M (t : Int).toNat = rs M s)) = _
          rw [Int.toNat_natCast]
        rw [et, h t ht]
        simp
    have e1 := inZ_il true (rs M s) (cpF M s) (i := 0) (h := [.lst ((cpF M s).map ilD)]) rfl
    have sq0 : ∀ h, seqD h (ilD (rs M s)) = some ((rs M s).map fun (t : Nat) => D.int (t : Int)) := fun h => by
      show some ((iN (rs M s)).map D.int) = _
      unfold iN
      rw [List.map_map]
      rfl
    have cq0 : chkQ (ilD (rs M s)) ((rs M s).map fun (t : Nat) => D.int (t : Int)) = fun _ => true := by
      have : ((rs M s).map fun (t : Nat) => D.int (t : Int)) = (iN (rs M s)).map D.int := by unfold iN; rw [List.map_map]; rfl
      rw [this]
      exact chkQ_sq true (iN (rs M s))
    have hcl := cpF_len (M := M) s
    have kk := kindOk_list (n := 0) (xs := (cpF M s).map ilD) (h := [.lst ((cpF M s).map ilD)]) rfl
    have ap := appF_ref (n := 0) (xs := (cpF M s).map ilD) (d := ilD (rs M s)) (h := [.lst ((cpF M s).map ilD)]) rfl (by rw [List.length_map]; omega)
    simp only [List.set_cons_zero] at ap
    have ecp : cpF M (s + 1) = if rs M s ∉ cpF M s ∧ clB M s = true then cpF M s ++ [rs M s] else cpF M s := rfl
    have emap : (cpF M s).map ilD ++ [ilD (rs M s)] = (cpF M s ++ [rs M s]).map ilD := by rw [List.map_append]; rfl
    rw [emap] at ap
    rw [ecp]
    have lf : ∀ h, lenF [.lst (((rs M s).map fun (t : Nat) => D.int (t : Int)).filter tst)] h = .ok (.int ((((rs M s).map fun (t : Nat) => D.int (t : Int)).filter tst).length : Int)) h := fun h => by simp
    generalize (((rs M s).map fun (t : Nat) => D.int (t : Int)).filter tst) = FL at *
    cases q2 : clB M s with
    | false =>
      rw [if_neg (fun z => by cases z.2)]
      have hne : ¬ ((FL.length : Int) = 0) := fun z => by
        have := el.mp (by omega)
        rw [q2] at this
        cases this
      generalize ((FL.length : Nat) : Int) = fl' at *
      generalize (cpF M s).map ilD = CL at *
      generalize ((rs M s).map fun (t : Nat) => D.int (t : Int)) = SL at *
      generalize (iN (reach M wf0 s)).map D.int = TL at *
      generalize ilD (rs M s) = RS at *
      generalize ch false M = CD at *
      simp [m_law_closed_parts_l1, a1, a2, sq0, cq0, c1, lf, hne]
    | true =>
      have hz : ((FL.length : Nat) : Int) = 0 := by
        have := el.mpr q2
        omega
      rw [hz] at lf
      by_cases q1 : rs M s ∈ cpF M s
      · rw [if_neg (fun z => z.1 q1)]
        rw [decide_eq_true q1] at e1
        generalize (cpF M s).map ilD = CL at *
        generalize ((rs M s).map fun (t : Nat) => D.int (t : Int)) = SL at *
        generalize (iN (reach M wf0 s)).map D.int = TL at *
        generalize ilD (rs M s) = RS at *
        generalize ch false M = CD at *
        simp [m_law_closed_parts_l1, a1, a2, sq0, cq0, c1, lf, e1]
      · rw [if_pos ⟨q1, rfl⟩]
        rw [decide_eq_false q1] at e1
        generalize (cpF M s ++ [rs M s]).map ilD = CL2 at *
        generalize (cpF M s).map ilD = CL at *
        generalize ((rs M s).map fun (t : Nat) => D.int (t : Int)) = SL at *
        generalize (iN (reach M wf0 s)).map D.int = TL at *
        generalize ilD (rs M s) = RS at *
        generalize ch false M = CD at *
        simp [m_law_closed_parts_l1, a1, a2, sq0, cq0, c1, lf, e1, kk, ap]
theorem lclosed_ok (h : Hc) : callL m_law_closed_parts [ch false M] h = .ok (.lst ((cpF M M.length).map ilD)) h := by
  have hi := Cm.hi
  obtain ⟨y2, y3, e1⟩ := lcp_loop Cm M.length 0 none none (by omega)
  have e0 : (cpF M 0).map ilD = [] := rfl
  rw [e0] at e1
  have ff : flatL ((cpF M M.length).map ilD) = true := flatL_map _ (fun p => flat_ilD p) _
  have lm := fun h => len41 Cm false h
  have er := fun h => rg41 Cm h
  have fch := flat_ch false M
  generalize hOUT : (cpF M M.length).map ilD = OUT at *
  refine call_pure (d0 := .ref 0) (h' := [Mp.C.lst OUT]) (by simp [fch]) ?_ (frz_cell (rs := []) (n := 6) (by simp) rfl ff) h
  unfold m_law_closed_parts
  rw [runB_s]
  generalize (List.range' 0 M.length).map (fun (k : Nat) => D.int (k : Int)) = RG at *
  generalize ch false M = CD at *
  simp [lm, er, e1]
end
end Mp
/-! K41C: the days in each state, by the program. -/
namespace Mp
open PySem PySem.Spec PyProof.Rows L2
theorem cutD_init {α : Type} (xs : List α) : cutD xs none (some (-1)) = xs.dropLast := by
  unfold cutD
  rw [HT.sIx_none]
  have e : HT.sIx xs.length xs.length (some (-1)) = xs.length - 1 := by
    unfold HT.sIx
    simp
    omega
  rw [e, Nat.sub_zero, List.drop_zero, List.dropLast_eq_take]
theorem slF_init (xs : List D) (h : Hc) : slF (.lst xs) none (some (-1)) h = .ok (.lst xs.dropLast) h := by
  have e : slF (.lst xs) none (some (-1)) h = .ok (.lst (cutD xs none (some (-1)))) h := by rfl
  rw [e, cutD_init]
def colW (M : List (List Int)) (A : List Nat) (i : Nat) : List Int := (List.range A.length).map fun c => wt M (A.getD c 0) (A.getD i 0)
def whlW (M : List (List Int)) (A : List Nat) : List Int := (List.range A.length).map fun c => sm1 M (A.getD c 0)
theorem colW_set {M : List (List Int)} {A : List Nat} {i : Nat} (hi : i < A.length) : (colW M A i).set i (wt M (A.getD i 0) (A.getD i 0) - sm1 M (A.getD i 0)) ++ [0] = balR M A i := by
  unfold colW balR
  congr 1
  apply List.ext_getElem (by simp)
  intro j h1 h2
  rw [List.getElem_set, List.getElem_map, List.getElem_map, List.getElem_range]
  by_cases q : i = j
  · subst q
    rw [if_pos rfl, if_pos rfl]
  · rw [if_neg q, if_neg (fun z => q z.symm)]
    omega
theorem map_A {α : Type} (A : List Nat) (f : Nat → α) : A.map f = (List.range A.length).map fun c => f (A.getD c 0) := by
  apply List.ext_getElem (by simp)
  intro j h1 h2
  have hj : j < A.length := by simpa using h1
  simp [List.getD, hj]
def rwsB (M : List (List Int)) (A : List Nat) (i : Nat) : List D := (List.range i).map fun c => rwI (balR M A c)
theorem rwsB_succ (M : List (List Int)) (A : List Nat) (i : Nat) : rwsB M A (i + 1) = rwsB M A i ++ [rwI (balR M A i)] := by
  unfold rwsB
  rw [List.range_succ, List.map_append]
  rfl
theorem sumA_r41 (b : Bool) (r : List Int) (h : Hc) : sumA [sq b r] h = .ok (.int r.sum) h := sumA_sq b r h
section
variable {M : List (List Int)} (Cm : Chn M) {A : List Nat} (lt : ∀ a ∈ A, a < M.length) (hk : 1 ≤ A.length) (hl : A.length ≤ 5) (b : Bool)
include Cm lt hk hl
omit Cm hk hl in
theorem mA {i : Nat} (hi : i < A.length) : A.getD i 0 < M.length := lt _ (by simp [List.getD, hi])
theorem bal_loop (x2 x7 x9 x10 : Option D) : ∀ (m i : Nat) (J : Hc) (x4 x5 x6 x8 : Option D), i + m + 1 = A.length → ∃ (J' : Hc) (y4 y5 y6 y8 : Option D),
    fl (fun _ => true) (.t ((.n 4) :: ((.n 5) :: []))) m_balance_l1 ((List.range' i m).map fun c => D.tup [.int ((A.getD c 0 : Nat) : Int), .int (sm1 M (A.getD c 0))]) [some (ch b M), some (ilD A), x2, some (.ref 0), x4, x5, x6, x7, x8, x9, x10] (.lst (rwsB M A i) :: J) =
      .nx [some (ch b M), some (ilD A), x2, some (.ref 0), y4, y5, y6, x7, y8, x9, x10] (.lst (rwsB M A (A.length - 1)) :: J')
  | 0, i, J, x4, x5, x6, x8, hi => by
    have : i = A.length - 1 := by omega
    subst this
    exact ⟨J, x4, x5, x6, x8, fl_end rfl⟩
  | m + 1, i, J, x4, x5, x6, x8, hi => by
    have hi' : i < A.length := by omega
    have haM := mA (M := M) lt hi'
    generalize ha : A.getD i 0 = a at *
    have c1 := fun (h : Hc) => lcR_mm (chk := fun _ => true) (p := .n 8) (own := [8]) (m := m_balance_c2) (ds := [some (ch b M), some (ilD A), x2, some (.ref 0), some (.int (a : Int)), some (.int (sm1 M a)), x6, x7, x8, x9, x10]) (h := h) (fun c => D.int ((A.getD c 0 : Nat) : Int)) (fun c => D.int (wt M (A.getD c 0) a)) rfl (List.range A.length) (by rw [List.length_range]; omega) (fun c hc => ⟨_, bindP_n .., by
      have hc' := List.mem_range.mp hc
      have i1 := fun h => ch_ix b (mA (M := M) lt hc') h
      have i2 : ∀ h, ixF (sq b (M.getD (A.getD c 0) [])) (.int (a : Int)) h = .ok (.int (wt M (A.getD c 0) a)) h := fun h => row_ix b (by rw [Cm.rowlen (mA (M := M) lt hc')]; exact haM) h
      simp only [List.getD_eq_getElem?_getD] at i1 i2 ⊢
      generalize ch b M = CD at *
      generalize sq b (M[(A[c]?.getD 0)]?.getD []) = RD at *
      simp [m_balance_c2, i1, i2]⟩)
    have eA : ∀ h, seqD h (ilD A) = some ((List.range A.length).map fun c => D.int ((A.getD c 0 : Nat) : Int)) := fun h => by
      show some ((iN A).map D.int) = _
      unfold iN
      rw [List.map_map, map_A A]
      rfl
    have cA : chkQ (ilD A) ((List.range A.length).map fun c => D.int ((A.getD c 0 : Nat) : Int)) = fun _ => true := by
      have : ((List.range A.length).map fun c => D.int ((A.getD c 0 : Nat) : Int)) = (iN A).map D.int := by
        unfold iN
        rw [List.map_map, map_A A]
        rfl
      rw [this]
      exact chkQ_sq true (iN A)
    have ecol : ((List.range A.length).map fun c => D.int (wt M (A.getD c 0) a)) = (colW M A i).map D.int := by
      unfold colW
      rw [List.map_map, ha]
      rfl
    rw [ecol] at c1
    let HJ : Hc := .lst (rwsB M A i) :: J
    let h1 : Hc := HJ ++ [Mp.C.lst ((colW M A i).map D.int)]
    have hcl : (colW M A i).length = A.length := by unfold colW; simp
    have hq : h1[J.length + 1]? = some (.lst ((colW M A i).map D.int)) := by
      show (HJ ++ [Mp.C.lst _])[J.length + 1]? = _
      rw [List.getElem?_append_right (by simp [HJ])]
      simp [HJ]
    have l0 : lenF [.ref 0] h1 = .ok (.int (i : Int)) h1 := by
      have h0 : h1[0]? = some (.lst (rwsB M A i)) := rfl
      have : (rwsB M A i).length = i := by unfold rwsB; simp
      have e : seqD h1 (.ref 0) = some (rwsB M A i) := by
        show (match h1[0]? with | some (.lst xs) => some xs | _ => none) = _
        rw [h0]
      unfold lenF
      simp only [e, this]
    have g1 : ixlF (.ref (J.length + 1)) (.int (i : Int)) h1 = .ok (.int (wt M a a)) h1 := by
      unfold ixlF
      simp only [rdlD, lstD, hq]
      rw [atI_nat' (by rw [List.length_map, hcl]; exact hi'), List.getElem?_map]
      have : (colW M A i)[i]? = some (wt M a a) := by
        unfold colW
        rw [List.getElem?_map, List.getElem?_range hi']
        show some (wt M (A.getD i 0) (A.getD i 0)) = _
        rw [ha]
      rw [this]
      rfl
    have st := setF_ok (n := J.length + 1) (xs := (colW M A i).map D.int) (h := h1) (i := (i : Int)) (x := .int (wt M a a - sm1 M a)) hq (by omega) (by rw [List.length_map, hcl]; omega)
    have es : h1.set (J.length + 1) (.lst (((colW M A i).map D.int).set (i : Int).toNat (.int (wt M a a - sm1 M a)))) = HJ ++ [Mp.C.lst (((colW M A i).set i (wt M a a - sm1 M a)).map D.int)] := by
      show (HJ ++ [Mp.C.lst _]).set (J.length + 1) _ = _
      rw [List.set_append_right _ _ (by simp [HJ]), Int.toNat_natCast, List.map_set]
      simp [HJ]
    rw [es] at st
    let h2 : Hc := HJ ++ [Mp.C.lst (((colW M A i).set i (wt M a a - sm1 M a)).map D.int)]
    have hq2 : h2[J.length + 1]? = some (.lst (((colW M A i).set i (wt M a a - sm1 M a)).map D.int)) := by
      show (HJ ++ [Mp.C.lst _])[J.length + 1]? = _
      rw [List.getElem?_append_right (by simp [HJ])]
      simp [HJ]
    have erow : (colW M A i).set i (wt M a a - sm1 M a) ++ [0] = balR M A i := by
      rw [← colW_set hi', ha]
    have ad : addF (.ref (J.length + 1)) (.lst [.int 0]) h2 = .ok (rwI (balR M A i)) h2 := by
      have hlim := lim_eq
      unfold addF
      simp only [lstD, hq2]
      rw [if_pos (by rw [List.length_map, List.length_set, hcl]; simp; omega)]
      unfold rwI
      rw [← erow, List.map_append]
      rfl
    have h20 : h2[0]? = some (.lst (rwsB M A i)) := rfl
    have kk := kindOk_list h20
    have ap := appF_ref (d := rwI (balR M A i)) h20 (by unfold rwsB; rw [List.length_map, List.length_range]; omega)
    have es2 : h2.set 0 (.lst (rwsB M A i ++ [rwI (balR M A i)])) = .lst (rwsB M A (i + 1)) :: (J ++ [Mp.C.lst (((colW M A i).set i (wt M a a - sm1 M a)).map D.int)]) := by
      rw [rwsB_succ]
      rfl
    rw [es2] at ap
    obtain ⟨J', y4, y5, y6, y8, ih⟩ := bal_loop x2 x7 x9 x10 m (i + 1) (J ++ [Mp.C.lst (((colW M A i).set i (wt M a a - sm1 M a)).map D.int)]) (some (.int (a : Int))) (some (.int (sm1 M a))) (some (.ref (J.length + 1))) x8 (by omega)
    refine ⟨J', y4, y5, y6, y8, ?_⟩
    rw [List.range'_succ, List.map_cons, ha]
    refine Eq.trans (fl_nx (ds1 := [some (ch b M), some (ilD A), x2, some (.ref 0), some (.int (a : Int)), some (.int (sm1 M a)), x6, x7, x8, x9, x10]) rfl (by simp) ?_) ih
    have eh1 : HJ ++ [Mp.C.lst ((colW M A i).map D.int)] = h1 := rfl
    have eh2 : HJ ++ [Mp.C.lst (((colW M A i).set i (wt M a a - sm1 M a)).map D.int)] = h2 := rfl
    have eHJ : Mp.C.lst (rwsB M A i) :: J = HJ := rfl
    have hcat : ∀ x, Mp.C.lst (rwsB M A i) :: (J ++ [x]) = HJ ++ [x] := fun x => rfl
    have elen : HJ.length = J.length + 1 := rfl
    rw [eh2] at st
    rw [eHJ]
    clear es es2 ih hq hq2 h20 erow ecol hcl eHJ
    generalize (Mp.C.lst (rwsB M A (i + 1)) :: (J ++ [Mp.C.lst (((colW M A i).set i (wt M a a - sm1 M a)).map D.int)])) = H3 at *
    generalize h1 = H1 at *
    generalize h2 = H2 at *
    generalize HJ = HJ' at *
    generalize rwI (balR M A i) = RI at *
    generalize (colW M A i).map D.int = XD at *
    generalize ((List.range A.length).map fun c => D.int ((A.getD c 0 : Nat) : Int)) = AL at *
    generalize ilD A = AD at *
    generalize ch b M = CD at *
    simp [m_balance_l1, eA, cA, c1, elen, eh1, sAugS, l0, g1, st, ad, kk, ap]
theorem bal_lst : rwsB M A (A.length - 1) ++ [rwI (whlW M A ++ [1])] = lstN A.length (balW M A) := by
  unfold lstN rwsB
  obtain ⟨k, hk'⟩ : ∃ k, A.length = k + 1 := ⟨A.length - 1, by omega⟩
  rw [hk', Nat.add_sub_cancel, List.range_succ, List.map_append]
  congr 1
  · refine List.map_congr_left fun c hc => ?_
    have := List.mem_range.mp hc
    unfold balW
    rw [if_neg (by omega)]
  · show [rwI (whlW M A ++ [1])] = [rwI (balW M A k)]
    unfold balW whlW
    rw [if_pos hk'.symm]
theorem balance_ok (nd : A.Nodup) (st : ∀ a ∈ A, ∀ j, j < M.length → j ∉ A → wt M a j = 0) {o : Nat} (hoL : o < M.length) (hr : ∀ u, u < M.length → Rc M wf0 u o) : ∃ z, satM A.length 1 (mxW (balW M A)) z ∧ (∀ i, i < A.length → qs 230 (z i)) ∧
    ∀ b h, callL m_balance [ch b M, ilD A] h = .ok (.tup ((List.range A.length).map fun i => qD (((sm1 M (A.getD i 0) : Int) : Rat) * z i))) h := by
  have pw : 2 ^ A.length ≤ 2 ^ 5 := Nat.pow_le_pow_right (by decide) hl
  have W6 := bal_ok Cm lt hk
  have NS := bal_ns Cm nd lt hk st hoL hr
  obtain ⟨z, sz, e4⟩ := solved_lst hk (by omega) W6 (by decide) (by omega) NS
  obtain ⟨z', sz', ⟨B, hB, qB⟩, _⟩ := solved_refb hk (by omega) W6 (by decide) (by omega) NS
  have qz : ∀ i, i < A.length → qs 230 (z i) := fun i hi => by
    rw [sat_uniq NS sz sz' i hi]
    exact qs_le (by omega) (qB i hi)
  refine ⟨z, sz, qz, fun b h => ?_⟩
  have c1 := fun (h : Hc) => lcR_mm (chk := fun _ => true) (p := .n 4) (own := [4]) (m := m_balance_c1) (ds := [some (ch b M), some (ilD A), none, none, none, none, none, none, none, none, none]) (h := h) (fun c => D.int ((A.getD c 0 : Nat) : Int)) (fun c => D.int (sm1 M (A.getD c 0))) rfl (List.range A.length) (by rw [List.length_range]; omega) (fun c hc => ⟨_, bindP_n .., by
    have hc' := List.mem_range.mp hc
    have i1 := fun h => ch_ix b (mA (M := M) lt hc') h
    have i2 : ∀ h, sumA [sq b (M.getD (A.getD c 0) [])] h = .ok (.int (sm1 M (A.getD c 0))) h := fun h => sumA_sq b _ h
    simp only [List.getD_eq_getElem?_getD] at i1 i2 ⊢
    generalize ch b M = CD at *
    generalize sq b (M[(A[c]?.getD 0)]?.getD []) = RD at *
    simp [m_balance_c1, i1, i2]⟩)
  have eA : ∀ h, seqD h (ilD A) = some ((List.range A.length).map fun c => D.int ((A.getD c 0 : Nat) : Int)) := fun h => by
    show some ((iN A).map D.int) = _
    unfold iN
    rw [List.map_map, map_A A]
    rfl
  have eAl : ((List.range A.length).map fun c => D.int ((A.getD c 0 : Nat) : Int)) = (iN A).map D.int := by
    unfold iN
    rw [List.map_map, map_A A]
    rfl
  have cA : chkQ (ilD A) ((List.range A.length).map fun c => D.int ((A.getD c 0 : Nat) : Int)) = fun _ => true := by
    rw [eAl]
    exact chkQ_sq true (iN A)
  have ew : ((List.range A.length).map fun c => D.int (sm1 M (A.getD c 0))) = (whlW M A).map D.int := by
    unfold whlW
    rw [List.map_map]
    rfl
  rw [ew] at c1
  have si : ∀ h, slF (ilD A) none (some (-1)) h = .ok (.lst ((List.range (A.length - 1)).map fun c => D.int ((A.getD c 0 : Nat) : Int))) h := fun h => by
    have := slF_init ((iN A).map D.int) h
    rw [← eAl] at this
    have e2 : ((List.range A.length).map fun c => D.int ((A.getD c 0 : Nat) : Int)).dropLast = (List.range (A.length - 1)).map fun c => D.int ((A.getD c 0 : Nat) : Int) := by
      obtain ⟨k, hk'⟩ : ∃ k, A.length = k + 1 := ⟨A.length - 1, by omega⟩
      rw [hk', Nat.add_sub_cancel, List.range_succ, List.map_append]
      simp
    rw [e2, eAl] at this
    exact this
  have zp1 : ∀ h, zpF [.lst ((List.range (A.length - 1)).map fun c => D.int ((A.getD c 0 : Nat) : Int)), .lst ((whlW M A).map D.int)] h = .ok ⟨(List.range' 0 (A.length - 1)).map fun c => D.tup [.int ((A.getD c 0 : Nat) : Int), .int (sm1 M (A.getD c 0))], fun _ => true⟩ h := fun h => by
    have := zpF_sqs true true ((List.range (A.length - 1)).map fun c => D.int ((A.getD c 0 : Nat) : Int)) ((whlW M A).map D.int) h
    have e : zipD ((List.range (A.length - 1)).map fun c => D.int ((A.getD c 0 : Nat) : Int)) ((whlW M A).map D.int) = (List.range' 0 (A.length - 1)).map fun c => D.tup [.int ((A.getD c 0 : Nat) : Int), .int (sm1 M (A.getD c 0))] := by
      apply List.ext_getElem?
      intro i
      rw [zipD_get, List.getElem?_map, List.getElem?_map, List.getElem?_map]
      by_cases hi : i < A.length - 1
      · have h2 : (whlW M A)[i]? = some (sm1 M (A.getD i 0)) := by
          unfold whlW
          rw [List.getElem?_map, List.getElem?_range (by omega)]
          rfl
        rw [List.getElem?_range hi, List.getElem?_range' hi, h2]
        simp
      · rw [List.getElem?_eq_none (by rw [List.length_range]; omega), List.getElem?_eq_none (l := List.range' 0 (A.length - 1)) (by rw [List.length_range']; omega)]
        rfl
    rw [e] at this
    exact this
  obtain ⟨J', y4, y5, y6, y8, e1⟩ := bal_loop Cm lt hk hl b (some (.lst ((whlW M A).map D.int))) none none none (A.length - 1) 0 [] none none none none (by omega)
  have e00 : rwsB M A 0 = [] := rfl
  rw [e00] at e1
  have ad1 : ∀ h, addF (.lst ((whlW M A).map D.int)) (.lst [.int 1]) h = .ok (rwI (whlW M A ++ [1])) h := fun h => by
    have hlim := lim_eq
    have hlw : (whlW M A).length = A.length := by unfold whlW; simp
    unfold addF
    simp only [lstD]
    rw [if_pos (by rw [List.length_map, hlw]; simp; omega)]
    unfold rwI
    rw [List.map_append]
    rfl
  have ad2 : addF (.ref 0) (.lst [rwI (whlW M A ++ [1])]) (.lst (rwsB M A (A.length - 1)) :: J') = .ok (.lst (lstN A.length (balW M A))) (.lst (rwsB M A (A.length - 1)) :: J') := by
    have hlim := lim_eq
    have q : (Mp.C.lst (rwsB M A (A.length - 1)) :: J')[0]? = some (.lst (rwsB M A (A.length - 1))) := rfl
    have hlr : (rwsB M A (A.length - 1)).length = A.length - 1 := by unfold rwsB; simp
    unfold addF
    simp only [lstD, q]
    rw [if_pos (by rw [hlr]; simp; omega), bal_lst Cm lt hk hl]
  have zp2 : ∀ h, zpF [.lst ((whlW M A).map D.int), .tup ((List.range A.length).map fun i => qD (z i))] h = .ok ⟨(List.range A.length).map fun i => D.tup [.int (sm1 M (A.getD i 0)), qD (z i)], fun _ => true⟩ h := fun h => by
    have := zpF_sqs true false ((List.range A.length).map fun c => D.int (sm1 M (A.getD c 0))) ((List.range A.length).map fun i => qD (z i)) h
    rw [zipD_map, ew] at this
    exact this
  have c3 := fun (x7 : Option D) (h : Hc) => lcR_mm (chk := fun _ => true) (p := .t ((.n 5) :: ((.t ((.n 9) :: ((.n 10) :: []))) :: []))) (own := [5, 9, 10]) (m := m_balance_c3) (ds := [some (ch b M), some (ilD A), some (.lst ((whlW M A).map D.int)), some (.ref 0), y4, y5, y6, x7, y8, none, none]) (h := h) (fun i => D.tup [.int (sm1 M (A.getD i 0)), qD (z i)]) (fun i => qD (((sm1 M (A.getD i 0) : Int) : Rat) * z i)) rfl (List.range A.length) (by rw [List.length_range]; omega) (fun i hi => ⟨_, by simp [wipeD, qD]; rfl, by
    have hi' := List.mem_range.mp hi
    obtain ⟨p1, p2, _⟩ := Cm.at1 (mA (M := M) lt hi')
    have pd := qpos (z i)
    have qd : sm 230 ((z i).den : Int) := by unfold sm; simpa using (qz i hi').2
    have e := fun h => reduced_ok (n := sm1 M (A.getD i 0) * (z i).num) (d := (z i).den) (by omega) (sm_le (b := 8000) (by decide) qd) h
    rw [rdc_q _ (by omega)] at e
    have ev : ((sm1 M (A.getD i 0) * (z i).num : Int) : Rat) / (((z i).den : Int) : Rat) = ((sm1 M (A.getD i 0) : Int) : Rat) * z i := by
      conv => rhs; rw [q_self (z i)]
      rw [Rat.intCast_mul]
      have := den_ne (z i)
      grind
    rw [ev] at e
    have mo : mulOk (sm1 M (A.getD i 0)) (z i).num = true := mulOk_l _ _ (by omega) (by omega)
    simp only [List.getD_eq_getElem?_getD] at e mo ⊢
    generalize qD (((sm1 M (A[i]?.getD 0) : Int) : Rat) * z i) = QQ at *
    generalize sm1 M (A[i]?.getD 0) = S at *
    simp [m_balance_c3, mo, e]⟩)
  have ff : flatL ((List.range A.length).map fun i => qD (((sm1 M (A.getD i 0) : Int) : Rat) * z i)) = true := flatL_map _ (fun i => flat_qD _) _
  have et : ∀ h, tupleF [.lst ((List.range A.length).map fun i => qD (((sm1 M (A.getD i 0) : Int) : Rat) * z i))] h = .ok (.tup ((List.range A.length).map fun i => qD (((sm1 M (A.getD i 0) : Int) : Rat) * z i))) h := fun h => rfl
  refine call_flat (h' := .lst (rwsB M A (A.length - 1)) :: J') (by simp [flat_ch]) ?_ (by rw [flat_tup]; exact ff) h
  unfold m_balance
  rw [runB_s]
  generalize (Mp.C.lst (rwsB M A (A.length - 1)) :: J') = H2 at *
  generalize ((List.range A.length).map fun i => qD (((sm1 M (A.getD i 0) : Int) : Rat) * z i)) = OUT at *
  generalize ((List.range A.length).map fun i => D.tup [.int (sm1 M (A.getD i 0)), qD (z i)]) = Z2 at *
  generalize ((List.range A.length).map fun i => qD (z i)) = ZL at *
  generalize lstN A.length (balW M A) = LN at *
  generalize rwI (whlW M A ++ [1]) = RW at *
  generalize (List.range' 0 (A.length - 1)).map (fun c => D.tup [.int ((A.getD c 0 : Nat) : Int), .int (sm1 M (A.getD c 0))]) = Z1 at *
  generalize ((List.range (A.length - 1)).map fun c => D.int ((A.getD c 0 : Nat) : Int)) = AI at *
  generalize ((List.range A.length).map fun c => D.int ((A.getD c 0 : Nat) : Int)) = AL at *
  generalize (whlW M A).map D.int = WL at *
  generalize ilD A = AD at *
  generalize ch b M = CD at *
  simp [eA, cA, c1, si, iZip, zp1, e1, ad1, ad2, e4, zp2, c3, et]
/-- what stands in found behind i states of the part -/
def exI (M : List (List Int)) (A : List Nat) (z : Nat → Rat) (i s : Nat) : Rat := if s ∈ A.take i then ((sm1 M s : Int) : Rat) * z (A.idxOf s) else 0
omit Cm lt hk hl in
theorem exI_set (nd : A.Nodup) (z : Nat → Rat) {n i : Nat} (hi : i < A.length) : ((List.range n).map fun s => qD (exI M A z i s)).set (A.getD i 0) (qD (((sm1 M (A.getD i 0) : Int) : Rat) * z i)) = (List.range n).map fun s => qD (exI M A z (i + 1) s) := by
  have eA : A.getD i 0 = A[i] := by simp [List.getD, hi]
  have et : A.take (i + 1) = A.take i ++ [A[i]] := List.take_succ_eq_append_getElem hi
  apply List.ext_getElem (by simp)
  intro s h1 h2
  rw [List.getElem_set, List.getElem_map, List.getElem_map, List.getElem_range]
  unfold exI
  by_cases q : A.getD i 0 = s
  · rw [if_pos q, if_pos (by rw [et, ← eA, q]; simp)]
    subst q
    rw [eA, nd.idxOf_getElem i hi]
  · rw [if_neg q]
    have : s ∈ A.take (i + 1) ↔ s ∈ A.take i := by
      rw [et, List.mem_append]
      refine ⟨fun h => ?_, .inl⟩
      rcases h with h | h
      · exact h
      · exfalso
        apply q
        rw [eA]
        have : s = A[i] := by simpa using h
        exact this.symm
    simp only [this]
omit Cm hk hl in
theorem run_loop (nd : A.Nodup) (z : Nat → Rat) (x0 x1 : Option D) : ∀ (m i : Nat) (x3 x4 : Option D), i + m = A.length → ∃ y3 y4, fl (fun _ => true) (.t ((.n 3) :: ((.n 4) :: []))) m_long_run_l1 ((List.range' i m).map fun c => D.tup [.int ((A.getD c 0 : Nat) : Int), qD (((sm1 M (A.getD c 0) : Int) : Rat) * z c)]) [x0, x1, some (.ref 0), x3, x4] [.lst ((List.range M.length).map fun s => qD (exI M A z i s))] =
    .nx [x0, x1, some (.ref 0), y3, y4] [.lst ((List.range M.length).map fun s => qD (extZ M A z s))]
  | 0, i, x3, x4, hi => by
    have : i = A.length := by omega
    subst this
    refine ⟨x3, x4, ?_⟩
    have : ((List.range M.length).map fun s => qD (exI M A z A.length s)) = (List.range M.length).map fun s => qD (extZ M A z s) := by
      refine List.map_congr_left fun s _ => ?_
      unfold exI extZ
      rw [List.take_length]
    rw [this]
    exact fl_end rfl
  | m + 1, i, x3, x4, hi => by
    have hi' : i < A.length := by omega
    obtain ⟨y3, y4, ih⟩ := run_loop nd z x0 x1 m (i + 1) (some (.int ((A.getD i 0 : Nat) : Int))) (some (qD (((sm1 M (A.getD i 0) : Int) : Rat) * z i))) (by omega)
    refine ⟨y3, y4, ?_⟩
    rw [List.range'_succ, List.map_cons]
    refine Eq.trans (fl_nx (ds1 := [x0, x1, some (.ref 0), some (.int ((A.getD i 0 : Nat) : Int)), some (qD (((sm1 M (A.getD i 0) : Int) : Rat) * z i))]) rfl (by simp [qD]) ?_) ih
    have st := setF_ok (n := 0) (xs := (List.range M.length).map fun s => qD (exI M A z i s)) (h := [.lst ((List.range M.length).map fun s => qD (exI M A z i s))]) (i := ((A.getD i 0 : Nat) : Int)) (x := qD (((sm1 M (A.getD i 0) : Int) : Rat) * z i)) rfl (by omega) (by have := mA (M := M) lt hi'; simp only [List.length_map, List.length_range]; omega)
    rw [Int.toNat_natCast, exI_set nd z hi'] at st
    simp only [List.set_cons_zero] at st
    clear ih
    generalize ((List.range M.length).map fun s => qD (exI M A z i s)) = L1 at *
    generalize ((List.range M.length).map fun s => qD (exI M A z (i + 1) s)) = L2 at *
    generalize qD (((sm1 M (A.getD i 0) : Int) : Rat) * z i) = QQ at *
    generalize ((A.getD i 0 : Nat) : Int) = AI at *
    simp [m_long_run_l1, st]
end
section
variable {M : List (List Int)} (Cm : Chn M)
include Cm
theorem run_many (b : Bool) (hm : 1 < (cpF M M.length).length) (h : Hc) : callL m_long_run [ch b M] h = .ex "NoChance" ["word"] [.str "parts"] h := by
  have c1 := fun h => is_chain_ok b Cm h
  have e1 := fun h => closed_ok Cm b h
  have hl : ∀ h, lenF [.lst ((cpF M M.length).map ilD)] h = .ok (.int ((cpF M M.length).length : Int)) h := fun h => by simp
  have hm' : (1 : Int) < ((cpF M M.length).length : Int) := by omega
  have raw : m_long_run [ch b M] [] = .ex "NoChance" ["word"] [.str "parts"] [] := by
    unfold m_long_run
    rw [runB_s]
    generalize ((cpF M M.length).length : Int) = N at *
    generalize (cpF M M.length).map ilD = CL at *
    generalize ch b M = CD at *
    simp [c1, e1, hl, hm']
  unfold callL
  have f : flatL [ch b M] = true := by simp [flat_ch]
  rw [refsOf_flat f, renL_flat f]
  simp [cellsAt, raw, wb]
theorem run_one {p : List Nat} (hp : cpF M M.length = [p]) : ∃ z o, o < M.length ∧ p.getD 0 0 = o ∧ (∀ u, u < M.length → Rc M wf0 u o) ∧ satM M.length 1 (dM M o) (extZ M p z) ∧ (∀ s, s < M.length → qs 240 (extZ M p z s)) ∧
    ∀ b h, callL m_long_run [ch b M] h = .ok (.tup ((List.range M.length).map fun s => qD (extZ M p z s))) h := by
  have hi5 := Cm.hi
  obtain ⟨s0, hs0, hc, ep, hr⟩ := one_part hp
  have nd : p.Nodup := by rw [ep]; exact rs_nd hs0
  have lt : ∀ a ∈ p, a < M.length := fun a ha => by rw [ep] at ha; exact rsl hs0 ha
  have hk : 1 ≤ p.length := by
    have := rs_self hs0
    rw [← ep] at this
    cases p with
    | nil => simp at this
    | cons a r => simp
  have hl : p.length ≤ 5 := by
    have := nd_len nd lt
    omega
  have hmem : p.getD 0 0 ∈ p := by
    have : 0 < p.length := hk
    simp [List.getD, this]
  have st : ∀ a ∈ p, ∀ j, j < M.length → j ∉ p → wt M a j = 0 := fun a ha j hj hn => by
    rw [ep] at ha hn
    exact cl_stay hs0 ha hj hn Cm
  have hoL := lt _ hmem
  have hro := fun u hu => hr u hu _ hmem
  obtain ⟨z, sz, qz, e3⟩ := balance_ok Cm lt hk hl nd st hoL hro
  refine ⟨z, p.getD 0 0, hoL, rfl, hro, ext_sat Cm nd lt hk st hoL sz, fun s hs => ?_, fun b h => ?_⟩
  · unfold extZ
    split
    · rename_i hsp
      obtain ⟨p1, p2, _⟩ := Cm.at1 hs
      have hi : p.idxOf s < p.length := List.idxOf_lt_length_iff.mpr hsp
      exact qs_le (by decide) (qs_mul (qs_int (k := 6) (by omega) (by decide)) (qz _ hi))
    · have z0 : qs 1 (0 : Rat) := ⟨by decide, by decide⟩
      exact qs_le (by decide) z0
  · have c1 := fun h => is_chain_ok b Cm h
    have e1 := fun h => closed_ok Cm b h
    rw [hp] at e1
    have ecl : [p].map ilD = [ilD p] := rfl
    rw [ecl] at e1
    have e3 := e3 b
    have lm := fun h => len41 Cm b h
    have em : ∀ h : Hc, mulC (.lst [.tup [.int 0, .int 1]]) (.int (M.length : Int)) h = .ok (.ref h.length) (h ++ [.lst ((List.range M.length).map fun s => qD (exI M p z 0 s))]) := fun h => by
      have : repD M.length [D.tup [.int 0, .int 1]] = (List.range M.length).map fun s => qD (exI M p z 0 s) := by
        unfold repD
        have : (fun s => qD (exI M p z 0 s)) = fun _ => D.tup [.int 0, .int 1] := by
          funext s
          unfold exI
          rw [List.take_zero, if_neg (by simp)]
          rfl
        rw [this]
        apply List.ext_getElem (by simp)
        intro i h1 h2
        simp
      unfold mulC
      simp only [lstD_lst, lim_eq, Int.toNat_natCast, List.length_cons, List.length_nil]
      rw [if_pos ⟨by omega, by omega, by omega⟩, this]
    have zp : ∀ h, zpF [ilD p, .tup ((List.range p.length).map fun i => qD (((sm1 M (p.getD i 0) : Int) : Rat) * z i))] h = .ok ⟨(List.range' 0 p.length).map fun c => D.tup [.int ((p.getD c 0 : Nat) : Int), qD (((sm1 M (p.getD c 0) : Int) : Rat) * z c)], fun _ => true⟩ h := fun h => by
      have := zpF_sqs true false ((List.range p.length).map fun c => D.int ((p.getD c 0 : Nat) : Int)) ((List.range p.length).map fun i => qD (((sm1 M (p.getD i 0) : Int) : Rat) * z i)) h
      rw [zipD_map, List.range_eq_range'] at this
      have eAl : ((List.range' 0 p.length).map fun c => D.int ((p.getD c 0 : Nat) : Int)) = (iN p).map D.int := by
        unfold iN
        rw [List.map_map, map_A p, List.range_eq_range']
        rfl
      rw [eAl, ← List.range_eq_range'] at this
      rw [← List.range_eq_range']
      exact this
    obtain ⟨y3, y4, e5⟩ := run_loop (M := M) lt nd z (some (ch b M)) (some (.lst [ilD p])) p.length 0 none none (by omega)
    have ff : flatL ((List.range M.length).map fun s => qD (extZ M p z s)) = true := flatL_map _ (fun i => flat_qD _) _
    generalize hOUT : ((List.range M.length).map fun s => qD (extZ M p z s)) = OUT at *
    have et : tupleF [.ref 0] [Mp.C.lst OUT] = .ok (.tup OUT) [Mp.C.lst OUT] := by
      unfold tupleF
      simp [rdlD, lstD]
    refine call_flat (h' := [Mp.C.lst OUT]) (by simp [flat_ch]) ?_ (by rw [flat_tup]; exact ff) h
    unfold m_long_run
    rw [runB_s]
    generalize ((List.range M.length).map fun s => qD (exI M p z 0 s)) = L0 at *
    generalize ((List.range p.length).map fun i => qD (((sm1 M (p.getD i 0) : Int) : Rat) * z i)) = BL at *
    generalize (List.range' 0 p.length).map (fun c => D.tup [.int ((p.getD c 0 : Nat) : Int), qD (((sm1 M (p.getD c 0) : Int) : Rat) * z c)]) = ZL at *
    generalize ilD p = PD at *
    generalize ch b M = CD at *
    simp [c1, e1, lm, em, e3, iZip, zp, e5, et]
end
end Mp
namespace Mp
open PySem PySem.Spec PyProof.Rows L2
section
variable {M : List (List Int)} (Cm : Chn M)
include Cm
theorem law_sh {s : Nat} (hs' : s < M.length) (h : Hc) : callL m_law_shares [ch false M, .int (s : Int)] h = .ok (.lst ((List.range M.length).map fun j => qD (shQ M s j))) h := by
  rw [law_shares_ok false Cm hs']
  congr 2
  have hm := Cm.rowlen hs'
  have eM : M.getD s [] = M[s] := by simp [List.getD, hs']
  have h0 := (Cm.at1 hs').1
  unfold sm1 at h0
  rw [eM] at hm h0
  apply List.ext_getElem?
  intro i
  rw [List.getElem?_map, List.getElem?_map]
  by_cases hi : i < M.length
  · rw [List.getElem?_eq_getElem (by omega), List.getElem?_range hi]
    simp only [Option.map_some, Option.some.injEq]
    rw [rdc_q _ (by omega)]
    unfold shQ wt sm1
    rw [eM]
    have : (M[s]).getD i 0 = (M[s])[i] := by
      have : i < (M[s]).length := by omega
      simp [List.getD, this]
    rw [this]
  · rw [List.getElem?_eq_none (by omega), List.getElem?_eq_none (by rw [List.length_range]; omega)]
    rfl
omit Cm in
theorem ix_q (c : Bool) (f : Nat → Rat) {n i : Nat} (hi : i < n) (h : Hc) : ixF (sqs c ((List.range n).map fun j => qD (f j))) (.int (i : Int)) h = .ok (qD (f i)) h := by
  rw [ix_sqs, atI_nat' (by simpa using hi), List.getElem?_map, List.getElem?_range hi]
  rfl
theorem sh_qs {s j : Nat} (hs : s < M.length) : qs 6 (shQ M s j) := by
  obtain ⟨p1, p2, p3⟩ := Cm.at1 hs
  obtain ⟨w0, w9⟩ := p3 j
  exact qs_div (by omega) (by omega) (by omega)
def dM0 (M : List (List Int)) : Mx := fun j s => if s = M.length then 0 else shQ M s j - dl s j
omit Cm in
theorem dM_upd (M : List (List Int)) (o : Nat) : updQ (dM0 M) o (fun _ => 1) = dM M o := by
  funext j s
  unfold updQ dM dM0
  by_cases q : j = o
  · rw [if_pos q, if_pos q]
  · rw [if_neg q, if_neg q]
theorem dM_qs {o : Nat} : ∀ j s, j < M.length → s ≤ M.length → qs 6 (dM M o j s) := by
  intro j s hj hs
  unfold dM
  split
  · exact ⟨by decide, by decide⟩
  · split
    · exact ⟨by decide, by decide⟩
    · have hs' : s < M.length := by omega
      obtain ⟨p1, p2, p3⟩ := Cm.at1 hs'
      obtain ⟨w0, w9⟩ := p3 j
      have h0 := sm1_ne Cm hs'
      have e : shQ M s j - dl s j = ((wt M s j - (if s = j then sm1 M s else 0) : Int) : Rat) / ((sm1 M s : Int) : Rat) := by
        unfold dl shQ
        rw [Rat.intCast_sub]
        split
        · generalize ((sm1 M s : Int) : Rat) = S at *
          grind
        · have : ((0 : Int) : Rat) = 0 := rfl
          rw [this]
          grind
      rw [e]
      refine qs_div (by omega) ?_ (by omega)
      split <;> omega
theorem lr1 {j : Nat} (hj : j < M.length) (x1 x2 x7 : Option D) (HJ : Hc) : ∀ (m t : Nat) (x5 x6 : Option D), t + m = M.length → ∃ y5 y6,
    fl (fun _ => true) (.n 5) m_law_long_run_l1 ((List.range' t m).map fun (k : Nat) => D.int (k : Int)) [some (ch false M), x1, x2, some (.int (j : Int)), some (.ref HJ.length), x5, x6, x7] (HJ ++ [Mp.C.lst ((List.range t).map fun s => qD (dM0 M j s))]) =
      .nx [some (ch false M), x1, x2, some (.int (j : Int)), some (.ref HJ.length), y5, y6, x7] (HJ ++ [Mp.C.lst ((List.range M.length).map fun s => qD (dM0 M j s))])
  | 0, t, x5, x6, ht => by
    have : t = M.length := by omega
    subst this
    exact ⟨x5, x6, fl_end rfl⟩
  | m + 1, t, x5, x6, ht => by
    have hi := Cm.hi
    have ht' : t < M.length := by omega
    obtain ⟨y5, y6, ih⟩ := lr1 hj x1 x2 x7 HJ m (t + 1) (some (.int (t : Int))) (some (qD (shQ M t j))) (by omega)
    refine ⟨y5, y6, ?_⟩
    rw [List.range'_succ, List.map_cons]
    refine Eq.trans (fl_n (b := m_law_long_run_l1) ?_) ih
    have e1 := fun h => law_sh Cm ht' h
    have ix := fun h => ix_q true (shQ M t) hj h
    have ix' : ∀ h, ixF (.lst ((List.range M.length).map fun j => qD (shQ M t j))) (.int (j : Int)) h = .ok (qD (shQ M t j)) h := ix
    have q1 : qs 6 (1 : Rat) := ⟨by decide, by decide⟩
    have sb := fun h => law_sub_z (sh_qs Cm ht' (j := j)) q1 (by decide) h
    have o1 : qD (1 : Rat) = .tup [.int 1, .int 1] := rfl
    rw [o1] at sb
    have hq : (HJ ++ [Mp.C.lst ((List.range t).map fun c => qD (dM0 M j c))])[HJ.length]? = some (.lst ((List.range t).map fun c => qD (dM0 M j c))) := by
      rw [List.getElem?_append_right (Nat.le_refl _), Nat.sub_self]
      rfl
    have kk := kindOk_list hq
    have ap := appF_ref (d := qD (dM0 M j t)) hq (by rw [List.length_map, List.length_range]; omega)
    have est : (HJ ++ [Mp.C.lst ((List.range t).map fun c => qD (dM0 M j c))]).set HJ.length (.lst (((List.range t).map fun c => qD (dM0 M j c)) ++ [qD (dM0 M j t)])) = HJ ++ [Mp.C.lst ((List.range (t + 1)).map fun c => qD (dM0 M j c))] := by
      rw [List.set_append_right _ _ (Nat.le_refl _), Nat.sub_self, List.range_succ, List.map_append]
      rfl
    rw [est] at ap
    clear est hq ih ix
    generalize HJ ++ [Mp.C.lst ((List.range (t + 1)).map fun c => qD (dM0 M j c))] = H2 at *
    generalize HJ ++ [Mp.C.lst ((List.range t).map fun c => qD (dM0 M j c))] = H1 at *
    generalize ((List.range M.length).map fun j => qD (shQ M t j)) = SL at *
    by_cases c : t = j
    · have eg : dM0 M j t = shQ M t j - 1 := by unfold dM0 dl; rw [if_neg (by omega), if_pos c]
      rw [eg] at ap
      subst c
      generalize qD (shQ M t t - 1) = G at *
      generalize qD (shQ M t t) = SH at *
      generalize ch false M = CD at *
      simp [m_law_long_run_l1, e1, ix', sb, kk, ap]
    · have c' : ¬ (t : Int) = (j : Int) := by omega
      have eg : dM0 M j t = shQ M t j := by unfold dM0 dl; rw [if_neg (by omega), if_neg c]; grind
      rw [eg] at ap
      generalize qD (shQ M t j - 1) = G at *
      generalize qD (shQ M t j) = SH at *
      generalize ch false M = CD at *
      simp [m_law_long_run_l1, e1, ix', c, c', kk, ap]
theorem lr2 (x7 : Option D) : ∀ (m j : Nat) (J : Hc) (x3 x4 x5 x6 : Option D), j + m = M.length → ∃ J' y3 y4 y5 y6,
    fl (fun _ => true) (.n 3) m_law_long_run_l2 ((List.range' j m).map fun (k : Nat) => D.int (k : Int)) [some (ch false M), some (.int (M.length : Int)), some (.ref 0), x3, x4, x5, x6, x7] (Mp.C.lst ((List.range j).map fun i => rowQ M.length (dM0 M i)) :: J) =
      .nx [some (ch false M), some (.int (M.length : Int)), some (.ref 0), y3, y4, y5, y6, x7] (Mp.C.lst (lstQ M.length (dM0 M)) :: J')
  | 0, j, J, x3, x4, x5, x6, hj => by
    have : j = M.length := by omega
    subst this
    exact ⟨J, x3, x4, x5, x6, fl_end rfl⟩
  | m + 1, j, J, x3, x4, x5, x6, hj => by
    have hi := Cm.hi
    have hj' : j < M.length := by omega
    let HJ : Hc := Mp.C.lst ((List.range j).map fun i => rowQ M.length (dM0 M i)) :: J
    obtain ⟨y5, y6, e1⟩ := lr1 Cm hj' (some (.int (M.length : Int))) (some (.ref 0)) x7 HJ M.length 0 x5 x6 (by omega)
    have e00 : ((List.range 0).map fun s => qD (dM0 M j s)) = [] := rfl
    rw [e00] at e1
    let H3 : Hc := HJ ++ [Mp.C.lst ((List.range M.length).map fun s => qD (dM0 M j s))]
    have hq3 : H3[HJ.length]? = some (.lst ((List.range M.length).map fun s => qD (dM0 M j s))) := by
      show (HJ ++ [Mp.C.lst _])[HJ.length]? = _
      rw [List.getElem?_append_right (Nat.le_refl _), Nat.sub_self]
      rfl
    have erow : rowQ M.length (dM0 M j) = .lst (((List.range M.length).map fun c => qD (dM0 M j c)) ++ [.tup [.int 0, .int 1]]) := by
      have e9 : qD (dM0 M j M.length) = .tup [.int 0, .int 1] := by unfold dM0; rw [if_pos rfl]; rfl
      unfold rowQ
      rw [List.range_succ, List.map_append, ← e9]
      rfl
    have ad : addF (.ref HJ.length) (.lst [.tup [.int 0, .int 1]]) H3 = .ok (rowQ M.length (dM0 M j)) H3 := by
      have hlim := lim_eq
      unfold addF
      simp only [lstD, hq3]
      rw [if_pos (by simp; omega), erow]
    have h30 : H3[0]? = some (.lst ((List.range j).map fun i => rowQ M.length (dM0 M i))) := rfl
    have kk := kindOk_list h30
    have ap := appF_ref (d := rowQ M.length (dM0 M j)) h30 (by rw [List.length_map, List.length_range]; omega)
    have es2 : H3.set 0 (.lst (((List.range j).map fun i => rowQ M.length (dM0 M i)) ++ [rowQ M.length (dM0 M j)])) = Mp.C.lst ((List.range (j + 1)).map fun i => rowQ M.length (dM0 M i)) :: (J ++ [Mp.C.lst ((List.range M.length).map fun c => qD (dM0 M j c))]) := by
      rw [List.range_succ, List.map_append]
      rfl
    rw [es2] at ap
    obtain ⟨J', z3, z4, z5, z6, ih⟩ := lr2 x7 m (j + 1) (J ++ [Mp.C.lst ((List.range M.length).map fun c => qD (dM0 M j c))]) (some (.int (j : Int))) (some (.ref HJ.length)) y5 y6 (by omega)
    refine ⟨J', z3, z4, z5, z6, ?_⟩
    rw [List.range'_succ, List.map_cons]
    refine Eq.trans (fl_n (b := m_law_long_run_l2) ?_) ih
    have er := fun h => rg41 Cm h
    have eHJ : Mp.C.lst ((List.range j).map fun i => rowQ M.length (dM0 M i)) :: J = HJ := rfl
    have eH3 : HJ ++ [Mp.C.lst ((List.range M.length).map fun c => qD (dM0 M j c))] = H3 := rfl
    have hcat : ∀ x, Mp.C.lst ((List.range j).map fun i => rowQ M.length (dM0 M i)) :: (J ++ [x]) = HJ ++ [x] := fun x => rfl
    have elen : HJ.length = J.length + 1 := rfl
    rw [eH3] at e1
    rw [eHJ]
    clear es2 ih hq3 h30 erow eH3 eHJ
    generalize (Mp.C.lst ((List.range (j + 1)).map fun i => rowQ M.length (dM0 M i)) :: (J ++ [Mp.C.lst ((List.range M.length).map fun c => qD (dM0 M j c))])) = H4 at *
    generalize H3 = H3' at *
    generalize HJ = HJ' at *
    generalize rowQ M.length (dM0 M j) = RQ at *
    generalize (List.range' 0 M.length).map (fun (k : Nat) => D.int (k : Int)) = RG at *
    generalize ch false M = CD at *
    simp [m_law_long_run_l2, er, e1, ad, kk, ap]
theorem lrun_ok {p : List Nat} (hp : cpF M M.length = [p]) (hk : 1 ≤ p.length) {o : Nat} (ho : p.getD 0 0 = o) (hoL : o < M.length) (hr : ∀ u, u < M.length → Rc M wf0 u o) : ∃ x, satM M.length 1 (dM M o) x ∧ ∀ h, callL m_law_long_run [ch false M] h = .ok (.tup ((List.range M.length).map fun s => qD (x s))) h := by
  have hi := Cm.hi
  obtain ⟨J', y3, y4, y5, y6, e1⟩ := lr2 Cm none M.length 0 [] none none none none (by omega)
  have e00 : ((List.range 0).map fun i => rowQ M.length (dM0 M i)) = [] := rfl
  rw [e00] at e1
  have e2 := fun h => lclosed_ok Cm h
  rw [hp] at e2
  have ecl : [p].map ilD = [ilD p] := rfl
  rw [ecl] at e2
  have ih : ∀ h, ixF (ilD p) (.int 0) h = .ok (.int (o : Int)) h := fun h => by
    have q := row_ix true (r := iN p) (t := 0) (by rw [iN_len]; exact hk) h
    have e : (iN p).getD 0 0 = (o : Int) := by
      rw [← ho]
      unfold iN
      have : 0 < p.length := hk
      simp [List.getD, this]
    rw [e] at q
    exact q
  have lm := fun h => len41 Cm false h
  have er := fun h => rg41 Cm h
  have c1 := fun (h : Hc) (ds : Sl) => lcR_mm (chk := fun _ => true) (p := .n 5) (own := [5]) (m := m_law_long_run_c1) (ds := ds) (h := h) (fun (k : Nat) => D.int (k : Int)) (fun _ => D.tup [.int 1, .int 1]) rfl (List.range' 0 M.length) (by rw [List.length_range']; omega) (fun j hj => ⟨_, bindP_n .., by simp [m_law_long_run_c1]⟩)
  have eone : rowQ M.length (fun _ => 1) = .lst (((List.range' 0 M.length).map fun _ => D.tup [.int 1, .int 1]) ++ [.tup [.int 1, .int 1]]) := by
    unfold rowQ
    rw [List.range_succ, List.map_append, List.range_eq_range']
    rfl
  have ad : ∀ h, addF (.lst ((List.range' 0 M.length).map fun _ => D.tup [.int 1, .int 1])) (.lst [.tup [.int 1, .int 1]]) h = .ok (rowQ M.length (fun _ => 1)) h := fun h => by
    have hlim := lim_eq
    unfold addF
    simp only [lstD]
    rw [if_pos (by simp; omega), eone]
  have st := setF_ok (n := 0) (h := Mp.C.lst (lstQ M.length (dM0 M)) :: J') (i := (o : Int)) (x := rowQ M.length (fun _ => 1)) rfl (by omega) (by rw [lstQ_len]; omega)
  rw [Int.toNat_natCast, lstQ_set hoL, dM_upd] at st
  simp only [List.set_cons_zero] at st
  have pw : 4 ^ M.length ≤ 4 ^ 5 := Nat.pow_le_pow_right (by decide) hi
  obtain ⟨x, sx, _, e7⟩ := lsolve_ref (n := M.length) (by omega) (R := dM M o) (b := 6) (dM_qs Cm) (by omega) (dM_ns Cm hoL hr)
  have e7 := e7 0 (Mp.C.lst (lstQ M.length (dM M o)) :: J') rfl
  refine ⟨x, sx, fun h => ?_⟩
  have ff : flatL ((List.range M.length).map fun s => qD (x s)) = true := flatL_map _ (fun i => flat_qD _) _
  refine call_flat (h' := Mp.C.lst (lstQ M.length (dM M o)) :: J') (by simp [flat_ch]) ?_ (by rw [flat_tup]; exact ff) h
  unfold m_law_long_run
  rw [runB_s]
  clear eone
  generalize (Mp.C.lst (lstQ M.length (dM0 M)) :: J') = H2 at *
  generalize (Mp.C.lst (lstQ M.length (dM M o)) :: J') = H3 at *
  generalize ((List.range M.length).map fun s => qD (x s)) = XL at *
  generalize rowQ M.length (fun _ => 1) = R1 at *
  generalize ((List.range' 0 M.length).map fun _ => D.tup [.int 1, .int 1]) = R2 at *
  generalize (List.range' 0 M.length).map (fun (k : Nat) => D.int (k : Int)) = RG at *
  generalize ilD p = PD at *
  generalize ch false M = CD at *
  simp [lm, er, e1, e2, ih, c1, ad, st, e7]
/-! ### the law's last look -/
theorem held_loop {x : Nat → Rat} (qx : ∀ s, s < M.length → qs 240 (x s)) {j : Nat} (hj : j < M.length) (x0 x1 x2 x5 : Option D) (H : Hc) : ∀ (m t : Nat) (x8 : Option D), t + m = M.length → ∃ y8,
    fl (fun _ => true) (.n 8) m_law_l1 ((List.range' t m).map fun (k : Nat) => D.int (k : Int)) [x0, x1, x2, some (ch false M), some (.tup [.str "value", .tup ((List.range M.length).map fun s => qD (x s))]), x5, some (.int (j : Int)), some (qD (sumR (fun s => x s * shQ M s j) t)), x8] H =
      .nx [x0, x1, x2, some (ch false M), some (.tup [.str "value", .tup ((List.range M.length).map fun s => qD (x s))]), x5, some (.int (j : Int)), some (qD (flow M x j)), y8] H
  | 0, t, x8, ht => by
    have : t = M.length := by omega
    subst this
    exact ⟨x8, fl_end rfl⟩
  | m + 1, t, x8, ht => by
    have hi := Cm.hi
    have ht' : t < M.length := by omega
    obtain ⟨y8, ih⟩ := held_loop qx hj x0 x1 x2 x5 H m (t + 1) (some (.int (t : Int))) (by omega)
    refine ⟨y8, ?_⟩
    rw [List.range'_succ, List.map_cons]
    refine Eq.trans (fl_n (b := m_law_l1) ?_) ih
    have e1 := fun h => law_sh Cm ht' h
    have ix' : ∀ h, ixF (.lst ((List.range M.length).map fun j => qD (shQ M t j))) (.int (j : Int)) h = .ok (qD (shQ M t j)) h := fun h => ix_q true (shQ M t) hj h
    have ix2 : ∀ h, ixF (.tup ((List.range M.length).map fun s => qD (x s))) (.int (t : Int)) h = .ok (qD (x t)) h := fun h => ix_q false x ht' h
    have em := fun h => law_mul_z (qx t ht') (sh_qs Cm ht' (j := j)) (by decide) h
    have qt : ∀ u, u ≤ t → qs (1 + u * 247) (sumR (fun s => x s * shQ M s j) u) := by
      intro u
      induction u with
      | zero =>
        intro _
        have z : qs 1 (0 : Rat) := ⟨by decide, by decide⟩
        exact qs_le (by omega) z
      | succ u ihu =>
        intro hu
        rw [sumR]
        exact qs_le (by omega) (qs_add (ihu (by omega)) (qs_mul (qx u (by omega)) (sh_qs Cm (show u < M.length by omega) (j := j))))
    have ea := fun h => law_add_q (qs_le (show 1 + t * 247 ≤ 4000 by omega) (qt t (Nat.le_refl _))) (qs_le (show 240 + 6 ≤ 4000 by decide) (qs_mul (qx t ht') (sh_qs Cm ht' (j := j)))) h
    have es : sumR (fun s => x s * shQ M s j) (t + 1) = sumR (fun s => x s * shQ M s j) t + x t * shQ M t j := rfl
    rw [es]
    clear ih es
    generalize qD (sumR (fun s => x s * shQ M s j) t + x t * shQ M t j) = T2 at *
    generalize qD (sumR (fun s => x s * shQ M s j) t) = T1 at *
    generalize qD (x t * shQ M t j) = T3 at *
    generalize qD (x t) = XT at *
    generalize qD (shQ M t j) = ST at *
    generalize ((List.range M.length).map fun j => qD (shQ M t j)) = SL at *
    generalize ((List.range M.length).map fun s => qD (x s)) = XL at *
    generalize ch false M = CD at *
    simp [m_law_l1, e1, ix', ix2, em, ea]
theorem tot_loop {x : Nat → Rat} (qx : ∀ s, s < M.length → qs 240 (x s)) (fl0 : ∀ j, j < M.length → flow M x j = x j) (nn : ∀ j, j < M.length → 0 ≤ x j) (x0 x1 x2 : Option D) (H : Hc) : ∀ (m j : Nat) (x6 x7 x8 : Option D), j + m = M.length → ∃ y6 y7 y8,
    fl (fun _ => true) (.n 6) m_law_l2 ((List.range' j m).map fun (k : Nat) => D.int (k : Int)) [x0, x1, x2, some (ch false M), some (.tup [.str "value", .tup ((List.range M.length).map fun s => qD (x s))]), some (qD (sumR x j)), x6, x7, x8] H =
      .nx [x0, x1, x2, some (ch false M), some (.tup [.str "value", .tup ((List.range M.length).map fun s => qD (x s))]), some (qD (sumR x M.length)), y6, y7, y8] H
  | 0, j, x6, x7, x8, hj => by
    have : j = M.length := by omega
    subst this
    exact ⟨x6, x7, x8, fl_end rfl⟩
  | m + 1, j, x6, x7, x8, hj => by
    have hi := Cm.hi
    have hj' : j < M.length := by omega
    obtain ⟨y8, e1⟩ := held_loop Cm qx hj' x0 x1 x2 (some (qD (sumR x j))) H M.length 0 x8 (by omega)
    have e00 : qD (sumR (fun s => x s * shQ M s j) 0) = .tup [.int 0, .int 1] := rfl
    rw [e00, fl0 j hj'] at e1
    obtain ⟨z6, z7, z8, ih⟩ := tot_loop qx fl0 nn x0 x1 x2 H m (j + 1) (some (.int (j : Int))) (some (qD (x j))) y8 (by omega)
    refine ⟨z6, z7, z8, ?_⟩
    rw [List.range'_succ, List.map_cons]
    refine Eq.trans (fl_n (b := m_law_l2) ?_) ih
    have er := fun h => rg41 Cm h
    have lm := fun h => len41 Cm false h
    have ix2 : ∀ h, ixF (.tup ((List.range M.length).map fun s => qD (x s))) (.int (j : Int)) h = .ok (qD (x j)) h := fun h => ix_q false x hj' h
    have ne := fun h => eqG_q true (x j) (x j) h
    simp only [decide_true, Bool.not_true, if_true] at ne
    have i0 : ∀ h, ixF (qD (x j)) (.int 0) h = .ok (.int (x j).num) h := fun h => by unfold qD; simp
    have hn : ¬ (x j).num < 0 := by
      have := Rat.num_nonneg.mpr (nn j hj')
      omega
    have qt : ∀ u, u ≤ j → qs (1 + u * 241) (sumR x u) := by
      intro u
      induction u with
      | zero =>
        intro _
        have z : qs 1 (0 : Rat) := ⟨by decide, by decide⟩
        exact qs_le (by omega) z
      | succ u ihu =>
        intro hu
        rw [sumR]
        exact qs_le (by omega) (qs_add (ihu (by omega)) (qx u (by omega)))
    have ea := fun h => law_add_q (qs_le (show 1 + j * 241 ≤ 4000 by omega) (qt j (Nat.le_refl _))) (qs_le (show 240 ≤ 4000 by decide) (qx j hj')) h
    have es : sumR x (j + 1) = sumR x j + x j := rfl
    rw [es]
    clear ih es
    generalize (x j).num = NJ at *
    generalize qD (sumR x j + x j) = T2 at *
    generalize qD (sumR x j) = T1 at *
    generalize qD (x j) = XJ at *
    generalize ((List.range M.length).map fun s => qD (x s)) = XL at *
    generalize (List.range' 0 M.length).map (fun (k : Nat) => D.int (k : Int)) = RG at *
    generalize ch false M = CD at *
    simp [m_law_l2, er, lm, e1, ix2, ne, i0, hn, ea]
end
theorem law_ok (b : Bool) (ns : List Int) (hn : ns.length ≤ 63) : ∃ h, m_law [scD b (ns.map D.int)] [] = .ok (.bl true) h := by
  obtain ⟨row, hr, _, e0⟩ := numbers_ok b ns hn
  generalize hsc : scD b (ns.map D.int) = sc at e0
  obtain ⟨M, k1, Cm, hk1, e1⟩ := chain_ex hr (most := 5) (by decide) (by decide) (h := [.lst [.int 0]]) (i := 0) rfl (by decide)
  simp only [List.set_cons_zero] at e1
  have hi5 := Cm.hi
  obtain ⟨b1, k2, hk2, e2⟩ := handed_ch hr Cm (h := [.lst [.int k1]]) (i := 0) rfl hk1
  simp only [List.set_cons_zero] at e2
  have e3 := fun h => lclosed_ok Cm h
  have hl : ∀ h, lenF [.lst ((cpF M M.length).map ilD)] h = .ok (.int ((cpF M M.length).length : Int)) h := fun h => by simp
  refine ⟨[.lst [.int k2]], ?_⟩
  by_cases hm : 1 < (cpF M M.length).length
  · have hm' : (1 : Int) < ((cpF M M.length).length : Int) := by omega
    have rm := fun h => run_many Cm b1 hm h
    have u := eTold_ex (m := eCall m_long_run (aCons (eCall m_law_handed (aCons (eVar 1) (aCons (eVar 2) (aCons (eVar 3) aNil)))) aNil)) (ds := [some sc, some (.lst (row.map D.int)), some (.ref 0), some (ch false M), none, none, none, none, none]) (h := [.lst [.int k1]]) (x := "NoChance") (fs := ["word"]) (vs := [.str "parts"]) (h' := [.lst [.int k2]]) (by
      generalize row.map D.int = RD at *
      generalize ch b1 M = CH at *
      generalize ch false M = CD at *
      simp [e2, rm]) rfl
    simp only [List.reverse_cons, List.reverse_nil, List.nil_append] at u
    have ev : ∀ h, eqG false (.tup [.str "NoChance", .str "parts"]) (.tup [.str "NoChance", .str "parts"]) h = .ok (.bl true) h := fun h => eqG_self false (n := 3) (by
      simp [eqFit]
      decide +kernel) (by decide) h
    unfold m_law
    rw [runB_s]
    generalize ((cpF M M.length).length : Int) = N at *
    generalize (cpF M M.length).map ilD = CL at *
    generalize row.map D.int = RD at *
    generalize ch false M = CD at *
    simp [m_law_p1, m_law_p2, m_law_p3, m_law_p4, m_law_p5, e0, e1, u, e3, hl, hm', ev]
  · have hm' : ¬ (1 : Int) < ((cpF M M.length).length : Int) := by omega
    obtain ⟨p, hp⟩ : ∃ p, cpF M M.length = [p] := by
      have ne := cp_ne (M := M) Cm.lo
      cases q : cpF M M.length with
      | nil => exact absurd q ne
      | cons p r =>
        cases r with
        | nil => exact ⟨p, rfl⟩
        | cons a r => rw [q] at hm; simp at hm
    obtain ⟨z, o, hoL, ho, hro, sz, qz, e4⟩ := run_one Cm hp
    have e4 := e4 b1
    have hk : 1 ≤ p.length := by
      obtain ⟨s0, hs0, hc, ep, _⟩ := one_part hp
      have := rs_self hs0
      rw [← ep] at this
      cases p with
      | nil => simp at this
      | cons a r => simp
    obtain ⟨x, sx, e5⟩ := lrun_ok Cm hp hk ho hoL hro
    have eq := sat_uniq (dM_ns Cm hoL hro) sx sz
    have exl : ((List.range M.length).map fun s => qD (x s)) = (List.range M.length).map fun s => qD (extZ M p z s) := List.map_congr_left fun s hs => by rw [eq s (List.mem_range.mp hs)]
    rw [exl] at e5
    obtain ⟨d1, d2⟩ := (dM_sat Cm hoL).mp sz
    have nn := days_nn Cm hoL hro sz
    obtain ⟨y6, y7, y8, e6⟩ := tot_loop Cm qz d2 nn (some sc) (some (.lst (row.map D.int))) (some (.ref 0)) [.lst [.int k2]] M.length 0 none none none (by omega)
    have e00 : qD (sumR (extZ M p z) 0) = .tup [.int 0, .int 1] := rfl
    rw [e00, d1] at e6
    have q1 : qD (1 : Rat) = .tup [.int 1, .int 1] := rfl
    rw [q1] at e6
    have u := eTold_ok (m := eCall m_long_run (aCons (eCall m_law_handed (aCons (eVar 1) (aCons (eVar 2) (aCons (eVar 3) aNil)))) aNil)) (ds := [some sc, some (.lst (row.map D.int)), some (.ref 0), some (ch false M), none, none, none, none, none]) (h := [.lst [.int k1]]) (v := .tup ((List.range M.length).map fun s => qD (extZ M p z s))) (h' := [.lst [.int k2]]) (by
      generalize row.map D.int = RD at *
      generalize ((List.range M.length).map fun s => qD (extZ M p z s)) = XL at *
      generalize ch b1 M = CH at *
      generalize ch false M = CD at *
      simp [e2, e4])
    have fit : soFit 24 (.tup ((List.range M.length).map fun s => qD (extZ M p z s))) = true := by
      show (decide (List.length _ < 1000000) && List.all _ (soFit 23)) = true
      rw [Bool.and_eq_true]
      refine ⟨by simp; omega, ?_⟩
      rw [List.all_eq_true]
      intro d hd
      obtain ⟨j, _, rfl⟩ := List.mem_map.mp hd
      unfold qD
      simp [soFit]
    have so := fun h => so_refl 24 _ h fit
    have lm := fun h => len41 Cm false h
    have er := fun h => rg41 Cm h
    have ev : ∀ h, eqG false (.tup [.int 1, .int 1]) (.tup [.int 1, .int 1]) h = .ok (.bl true) h := fun h => eqG_self false (n := 3) (by simp [eqFit]) (by decide) h
    unfold m_law
    rw [runB_s]
    clear exl
    generalize ((cpF M M.length).length : Int) = N at *
    generalize (cpF M M.length).map ilD = CL at *
    generalize ((List.range M.length).map fun s => qD (extZ M p z s)) = XL at *
    generalize (List.range' 0 M.length).map (fun (k : Nat) => D.int (k : Int)) = RG at *
    generalize row.map D.int = RD at *
    generalize ch false M = CD at *
    simp [m_law_p1, m_law_p2, m_law_p3, m_law_p4, m_law_p5, m_law_p6, m_law_p7, m_law_p8, m_law_p9, e0, e1, u, e3, hl, hm', e5, so, lm, er, e6, ev]
end Mp
namespace Mp
open PySem PySem.Spec PyProof.Rows L2
/-! ### the defs are as their mirrors say -/
def topS (i : Nat) : Stmt := PySem.Challenge.pw_mendplan_k41_whole_long_runs.main.body.getD i (.Pass ⟨0, 0, 0, 0⟩)
/-- what the top has left of names that are no defs -/
structure Tx (P : Program) (w : World) (K : PySem.W.Frag) (mg : Str → Option Value) : Prop where
  ok : True
  b_range : mg "range" = none
  b_int : mg "int" = none
  b_len : mg "len" = none
  b_sum : mg "sum" = none
  b_tuple : mg "tuple" = none
  b_enumerate : mg "enumerate" = none
  b_sorted : mg "sorted" = none
  b_all : mg "all" = none
  b_isinstance : mg "isinstance" = none
  b_list : mg "list" = none
  b_bool : mg "bool" = none
  b_max : mg "max" = none
  b_zip : mg "zip" = none
  b_str : mg "str" = none
  i_gcd : mg "gcd" = some (.builtin "math.gcd")
  c_MOST_WEIGHT : TopVal K mg "MOST_WEIGHT" (.int 9)
  c_MOST_STATES : TopVal K mg "MOST_STATES" (.int 6)
  x_BadValue : XCls P w K mg "BadValue" ["self", "at"] ["at"] (spX1 "at")
  x_NoChance : XCls P w K mg "NoChance" ["self", "word"] ["word"] (spX1 "word")
section
variable {P : Program} {w : World} {K : PySem.W.Frag} {mg : Str → Option Value} {base : Heap}
abbrev sx_BadValue : Stmt := inClass (topS 8) 0
theorem scx_BadValue : FnScope ["self", "at"] ["self", "at"] (defScope sx_BadValue) := ⟨rfl, rfl, rfl, by decide +kernel, rfl, by decide +kernel, by decide +kernel⟩
theorem init_BadValue {f : Addr} {fd : FuncData} (F : Fun K "__init__" "BadValue.__init__" sx_BadValue f fd) : FnOk P w K mg base CX0 1 f fd ["self", "at"] (spX1 "at" K) := F.ok scx_BadValue (fun vs H Q E h => x1_len vs H Q E h) fun cdv A outer s H vs Q E hr h => ⟨_, pss_one (ps_xst (pv 0) (pv 1)), x1_rd rfl h⟩
abbrev sx_NoChance : Stmt := inClass (topS 11) 0
theorem scx_NoChance : FnScope ["self", "word"] ["self", "word"] (defScope sx_NoChance) := ⟨rfl, rfl, rfl, by decide +kernel, rfl, by decide +kernel, by decide +kernel⟩
theorem init_NoChance {f : Addr} {fd : FuncData} (F : Fun K "__init__" "NoChance.__init__" sx_NoChance f fd) : FnOk P w K mg base CX0 1 f fd ["self", "word"] (spX1 "word" K) := F.ok scx_NoChance (fun vs H Q E h => x1_len vs H Q E h) fun cdv A outer s H vs Q E hr h => ⟨_, pss_one (ps_xst (pv 0) (pv 1)), x1_rd rfl h⟩
abbrev sm_law_told : Stmt := topS 50
theorem tell_mk {C0 C1 C2 C3 C4 C5 C6 C7 C8 : Addr} (D : DefAt K mg "_law_told" "_law_told" sm_law_told ["deed"]) (r0 : XRd K mg "BadValue" C0 ["at"]) (r1 : XRd K mg "BadText" C1 ["at"]) (r2 : XRd K mg "Unknown" C2 ["name"]) (r3 : XRd K mg "NoChance" C3 ["word"]) (r4 : XRd K mg "Crowded" C4 ["first", "last"]) (r5 : XRd K mg "NoDay" C5 ["name"]) (r6 : XRd K mg "Missing" C6 ["at"]) (r7 : XRd K mg "TakenName" C7 ["name"]) (r8 : XRd K mg "Short" C8 ["rows"]) (he : exmAll K [(C0, "BadValue", ["at"]), (C1, "BadText", ["at"]), (C2, "Unknown", ["name"]), (C3, "NoChance", ["word"]), (C4, "Crowded", ["first", "last"]), (C5, "NoDay", ["name"]), (C6, "Missing", ["at"]), (C7, "TakenName", ["name"]), (C8, "Short", ["rows"])] = true) : TellTxt K mg sm_law_told :=
  ⟨D, ⟨rfl, rfl, rfl, by decide +kernel, rfl, by decide +kernel, by decide +kernel⟩, rfl, .inl rfl, rfl, [(C0, "BadValue", ["at"]), (C1, "BadText", ["at"]), (C2, "Unknown", ["name"]), (C3, "NoChance", ["word"]), (C4, "Crowded", ["first", "last"]), (C5, "NoDay", ["name"]), (C6, "Missing", ["at"]), (C7, "TakenName", ["name"]), (C8, "Short", ["rows"])], _, _, _, _, _, _, _, _, _, _, rfl, (.one r0 rfl (by decide) (.one r1 rfl (by decide) (.one r2 rfl (by decide) (.one r3 rfl (by decide) (.two r4 rfl (by decide) (.one r5 rfl (by decide) (.one r6 rfl (by decide) (.one r7 rfl (by decide) (.one r8 rfl (by decide) .nil))))))))), rfl, he⟩
abbrev sm_law_numbers : Stmt := topS 38
theorem scm_law_numbers : FnScope ["script", "row", "cell", "left", "k", "mixed"] ["script"] (defScope sm_law_numbers) := ⟨rfl, rfl, rfl, by decide +kernel, rfl, by decide +kernel, by decide +kernel⟩
theorem goodm_law_numbers (T : Tx P w K mg) (D : DefAt K mg "_law_numbers" "_law_numbers" sm_law_numbers ["script"])  : Good P w K mg base "_law_numbers" 1 ["script"] m_law_numbers :=
  (D.good (N := ["script", "row", "cell", "left", "k", "mixed"]) scm_law_numbers fun f cdv A outer s H E hr =>
  (dss_cons (ds_set (ps_set (i := 1) scm_law_numbers.nd rfl (by first | exact .inl rfl | exact .inr rfl) (de_cell da_nil)))
  (dss_cons (ds_for (ps_for (passes_of rfl) rfl (di_seq (de_sl (pe_slice sl_all (de_var (pv 0)) do_none (do_some de_int)) sld_f)) (dg_n (pg_name (i := 2) scm_law_numbers.nd rfl (by first | exact .inl rfl | exact .inr rfl)))
    (dss_one (ds_if (dt_cmp op_geA opd_ord (de_var (pv 2)) (de_op op_pow opd_pow de_int de_int) rfl)
      (dss_cons (ds_set (ps_set (i := 3) scm_law_numbers.nd rfl (by first | exact .inl rfl | exact .inr rfl) (de_var (pv 2))))
      (dss_one (ds_for (ps_for (passes_of rfl) rfl (di_rg1 (pi_range1 rfl T.b_range (da_cons de_int da_nil))) (dg_n (pg_name (i := 4) scm_law_numbers.nd rfl (by first | exact .inl rfl | exact .inr rfl)))
        (dss_cons (ds_if (dt_cmp (op_eqA (hu_of64 hr)) opd_eqA (de_var (pv 3)) de_int rfl)
          (dss_one ds_break)
          dss_nil)
        (dss_cons (ds_drop (de_bm (pe_bm PySem.F.plainAttrs_list PySem.F.slot_list_append PySem.F.type_list_append mt_append (de_var (pv 1)) (da_cons (de_op op_mod opd_mod (de_cb (pe_callTy call_int1 rfl T.b_int (by decide +kernel) (da_cons (de_var (pv 3)) da_nil)) cd_int) de_int) da_nil)) md_app))
        (dss_one (ds_set (ps_set (i := 3) scm_law_numbers.nd rfl (by first | exact .inl rfl | exact .inr rfl) (de_op op_fdivA opd_fdiv (de_var (pv 3)) de_int))))))))))
      (dss_one (ds_for (ps_for (passes_of rfl) rfl (di_rg1 (pi_range1 rfl T.b_range (da_cons de_int da_nil))) (dg_n (pg_name (i := 4) scm_law_numbers.nd rfl (by first | exact .inl rfl | exact .inr rfl)))
        (dss_cons (ds_set (ps_set (i := 5) scm_law_numbers.nd rfl (by first | exact .inl rfl | exact .inr rfl) (de_op op_mod opd_mod (de_cb (pe_callTy call_int1 rfl T.b_int (by decide +kernel) (da_cons (de_op op_addA opd_add (de_op op_addA opd_add (de_op op_mulA opd_mul (de_var (pv 2)) de_int) (de_op op_mulA opd_mul (de_var (pv 4)) de_int)) de_int) da_nil)) cd_int) de_int)))
        (dss_one (ds_drop (de_bm (pe_bm PySem.F.plainAttrs_list PySem.F.slot_list_append PySem.F.type_list_append mt_append (de_var (pv 1)) (da_cons (de_op op_mod opd_mod (de_cb (pe_callTy call_int1 rfl T.b_int (by decide +kernel) (da_cons (de_op op_addA opd_add (de_op op_mulA opd_mul (de_var (pv 5)) de_int) (de_var (pv 4))) da_nil)) cd_int) de_int) da_nil)) md_app)))))))))))
  (dss_cons (ds_if (dt_cmp (op_eqA (hu_of64 hr)) opd_eqA (de_cb (pe_callB call_lenA rfl T.b_len (by decide +kernel) (da_cons (de_var (pv 1)) da_nil)) cd_len) de_int rfl)
    (dss_one (ds_drop (de_bm (pe_bm PySem.F.plainAttrs_list PySem.F.slot_list_append PySem.F.type_list_append mt_append (de_var (pv 1)) (da_cons de_int da_nil)) md_app)))
    dss_nil)
  (dss_one (ds_ret (de_var (pv 1))))))))
abbrev sm_law_draw : Stmt := topS 39
theorem scm_law_draw : FnScope ["row", "at", "limit", "mixed"] ["row", "at", "limit"] (defScope sm_law_draw) := ⟨rfl, rfl, rfl, by decide +kernel, rfl, by decide +kernel, by decide +kernel⟩
theorem goodm_law_draw (T : Tx P w K mg) (D : DefAt K mg "_law_draw" "_law_draw" sm_law_draw ["row", "at", "limit"])  : Good P w K mg base "_law_draw" 1 ["row", "at", "limit"] m_law_draw :=
  (D.good (N := ["row", "at", "limit", "mixed"]) scm_law_draw fun f cdv A outer s H E hr =>
  (dss_cons (ds_if (dt_cmp op_ltA opd_ord (de_var (pv 1)) (de_cb (pe_callB call_lenA rfl T.b_len (by decide +kernel) (da_cons (de_var (pv 0)) da_nil)) cd_len) rfl)
    (dss_one (ds_ret (de_op op_mod opd_mod (de_cb (pe_callTy call_int1 rfl T.b_int (by decide +kernel) (da_cons (de_ix ix_seq opd_ix (de_var (pv 0)) (de_var (pv 1)) (fun _ _ => rfl)) da_nil)) cd_int) (de_var (pv 2)))))
    dss_nil)
  (dss_cons (ds_set (ps_set (i := 3) scm_law_draw.nd rfl (by first | exact .inl rfl | exact .inr rfl) (de_op op_mod opd_mod (de_cb (pe_callTy call_int1 rfl T.b_int (by decide +kernel) (da_cons (de_op op_addA opd_add (de_op op_addA opd_add (de_op op_mulA opd_mul (de_ix ix_seq opd_ix (de_var (pv 0)) (de_op op_mod opd_mod (de_cb (pe_callTy call_int1 rfl T.b_int (by decide +kernel) (da_cons (de_var (pv 1)) da_nil)) cd_int) (de_cb (pe_callB call_lenA rfl T.b_len (by decide +kernel) (da_cons (de_var (pv 0)) da_nil)) cd_len)) (fun _ _ => rfl)) de_int) (de_op op_mulA opd_mul (de_var (pv 1)) de_int)) de_int) da_nil)) cd_int) de_int)))
  (dss_one (ds_ret (de_op op_mod opd_mod (de_cb (pe_callTy call_int1 rfl T.b_int (by decide +kernel) (da_cons (de_op op_mod opd_mod (de_cb (pe_callTy call_int1 rfl T.b_int (by decide +kernel) (da_cons (de_op op_addA opd_add (de_op op_mulA opd_mul (de_var (pv 3)) de_int) (de_var (pv 1))) da_nil)) cd_int) de_int) da_nil)) cd_int) (de_var (pv 2))))))))
abbrev sm_law_take : Stmt := topS 40
theorem scm_law_take : FnScope ["row", "spot", "limit"] ["row", "spot", "limit"] (defScope sm_law_take) := ⟨rfl, rfl, rfl, by decide +kernel, rfl, by decide +kernel, by decide +kernel⟩
theorem goodm_law_take (T : Tx P w K mg) (D : DefAt K mg "_law_take" "_law_take" sm_law_take ["row", "spot", "limit"]) (G_law_draw : Good P w K mg base "_law_draw" 1 ["row", "at", "limit"] m_law_draw) : Good P w K mg base "_law_take" 2 ["row", "spot", "limit"] m_law_take :=
  (D.good (N := ["row", "spot", "limit"]) scm_law_take fun f cdv A outer s H E hr =>
  (dss_cons (ds_put (ps_asg (de_op op_addA opd_add (de_ix ix_seq opd_ix (de_var (pv 1)) de_int (fun _ _ => rfl)) de_int) (pg_sub (de_var (pv 1)) de_int set_list)) sd_set)
  (dss_one (ds_ret (dc (takes_of rfl rfl rfl rfl) G_law_draw (hr.mono (by decide)) rfl rfl ((aCons_len (aCons_len (aCons_len aNil_len)))) (da_cons (de_var (pv 0)) (da_cons (de_op op_sub opd_sub (de_ix ix_seq opd_ix (de_var (pv 1)) de_int (fun _ _ => rfl)) de_int) (da_cons (de_var (pv 2)) da_nil))))))))
abbrev sm_law_pick : Stmt := topS 43
theorem scm_law_pick : FnScope ["row", "spot", "things"] ["row", "spot", "things"] (defScope sm_law_pick) := ⟨rfl, rfl, rfl, by decide +kernel, rfl, by decide +kernel, by decide +kernel⟩
theorem goodm_law_pick (T : Tx P w K mg) (D : DefAt K mg "_law_pick" "_law_pick" sm_law_pick ["row", "spot", "things"]) (G_law_take : Good P w K mg base "_law_take" 2 ["row", "spot", "limit"] m_law_take) : Good P w K mg base "_law_pick" 3 ["row", "spot", "things"] m_law_pick :=
  (D.good (N := ["row", "spot", "things"]) scm_law_pick fun f cdv A outer s H E hr =>
  (dss_one (ds_ret (de_ix ix_seq opd_ix (de_var (pv 2)) (dc (takes_of rfl rfl rfl rfl) G_law_take (hr.mono (by decide)) rfl rfl ((aCons_len (aCons_len (aCons_len aNil_len)))) (da_cons (de_var (pv 0)) (da_cons (de_var (pv 1)) (da_cons (de_cb (pe_callB call_lenA rfl T.b_len (by decide +kernel) (da_cons (de_var (pv 2)) da_nil)) cd_len) da_nil)))) (fun _ _ => rfl)))))
abbrev sm_law_chain : Stmt := topS 52
theorem scm_law_chain : FnScope ["row", "spot", "most", "many", "made", "s", "weights", "j"] ["row", "spot", "most"] (defScope sm_law_chain) := ⟨rfl, rfl, rfl, by decide +kernel, rfl, by decide +kernel, by decide +kernel⟩
theorem goodm_law_chain (T : Tx P w K mg) (D : DefAt K mg "_law_chain" "_law_chain" sm_law_chain ["row", "spot", "most"]) (G_law_take : Good P w K mg base "_law_take" 2 ["row", "spot", "limit"] m_law_take) (G_law_pick : Good P w K mg base "_law_pick" 3 ["row", "spot", "things"] m_law_pick) : Good P w K mg base "_law_chain" 4 ["row", "spot", "most"] m_law_chain :=
  (D.good (N := ["row", "spot", "most", "many", "made", "s", "weights", "j"]) scm_law_chain fun f cdv A outer s H E hr =>
  (dss_cons (ds_set (ps_set (i := 3) scm_law_chain.nd rfl (by first | exact .inl rfl | exact .inr rfl) (de_op op_addA opd_add de_int (dc (takes_of rfl rfl rfl rfl) G_law_take (hr.mono (by decide)) rfl rfl ((aCons_len (aCons_len (aCons_len aNil_len)))) (da_cons (de_var (pv 0)) (da_cons (de_var (pv 1)) (da_cons (de_var (pv 2)) da_nil)))))))
  (dss_cons (ds_set (ps_set (i := 4) scm_law_chain.nd rfl (by first | exact .inl rfl | exact .inr rfl) (de_cell da_nil)))
  (dss_cons (ds_for (ps_for (passes_of rfl) rfl (di_rg1 (pi_range1 rfl T.b_range (da_cons (de_var (pv 3)) da_nil))) (dg_n (pg_name (i := 5) scm_law_chain.nd rfl (by first | exact .inl rfl | exact .inr rfl)))
    (dss_cons (ds_setLcC (by decide) (ps_setLc (own := [("j", 7)]) rfl scm_law_chain.nd rfl rfl (sw_true rfl rfl rfl (by decide +kernel)) (di_rg1 (pi_range1 rfl T.b_range (da_cons (de_var (pv 3)) da_nil))) (blkOk_by (N := ["row", "spot", "most", "many", "made", "s", "weights", "j"]) (sc := (defScope sm_law_chain)) (by decide +kernel)) (fun _ _ _ _ _ => (dg_n (pg_name (i := 7) scm_law_chain.nd rfl (by first | exact .inl rfl | exact .inr rfl)))) (fun _ _ _ _ _ => dts_nil) (fun _ _ _ _ _ => (dc takes0 G_law_pick (hr.mono (by decide)) rfl rfl ((aCons_len (aCons_len (aCons_len aNil_len)))) (da_cons (de_var (pv 0)) (da_cons (de_var (pv 1)) (da_cons (de_lst (da_cons de_int (da_cons de_int (da_cons de_int (da_cons de_int (da_cons de_int (da_cons de_int (da_cons de_int da_nil)))))))) da_nil)))))))
    (dss_cons (ds_if (dt_cmp (op_eqA (hu_of64 hr)) opd_eqA (de_cb (pe_callB (call_sumB rfl) rfl T.b_sum (by decide +kernel) (da_cons (de_var (pv 6)) da_nil)) cd_sumA) de_int rfl)
      (dss_one (ds_put (ps_asg (de_op op_addA opd_add de_int (dc (takes_of rfl rfl rfl rfl) G_law_take (hr.mono (by decide)) rfl rfl ((aCons_len (aCons_len (aCons_len aNil_len)))) (da_cons (de_var (pv 0)) (da_cons (de_var (pv 1)) (da_cons de_int da_nil))))) (pg_sub (de_var (pv 6)) (dc (takes_of rfl rfl rfl rfl) G_law_take (hr.mono (by decide)) rfl rfl ((aCons_len (aCons_len (aCons_len aNil_len)))) (da_cons (de_var (pv 0)) (da_cons (de_var (pv 1)) (da_cons (de_var (pv 3)) da_nil)))) set_list)) sd_set))
      dss_nil)
    (dss_one (ds_drop (de_bm (pe_bm PySem.F.plainAttrs_list PySem.F.slot_list_append PySem.F.type_list_append mt_append (de_var (pv 4)) (da_cons (de_cb (pe_callTy call_tuple_of rfl T.b_tuple (by decide +kernel) (da_cons (de_var (pv 6)) da_nil)) cd_tuple) da_nil)) md_app)))))))
  (dss_one (ds_ret (de_cb (pe_callTy call_tuple_of rfl T.b_tuple (by decide +kernel) (da_cons (de_var (pv 4)) da_nil)) cd_tuple)))))))
abbrev sm_law_gcd : Stmt := topS 44
theorem scm_law_gcd : FnScope ["one", "other", "left", "right", "k", "rest"] ["one", "other"] (defScope sm_law_gcd) := ⟨rfl, rfl, rfl, by decide +kernel, rfl, by decide +kernel, by decide +kernel⟩
theorem goodm_law_gcd (T : Tx P w K mg) (D : DefAt K mg "_law_gcd" "_law_gcd" sm_law_gcd ["one", "other"])  : Good P w K mg base "_law_gcd" 1 ["one", "other"] m_law_gcd :=
  (D.good (N := ["one", "other", "left", "right", "k", "rest"]) scm_law_gcd fun f cdv A outer s H E hr =>
  (dss_cons (ds_set (ps_set (i := 2) scm_law_gcd.nd rfl (by first | exact .inl rfl | exact .inr rfl) (de_if (dt_cmp op_geA opd_ord (de_var (pv 0)) de_int rfl) (de_var (pv 0)) (de_un un_neg und_neg (de_var (pv 0))))))
  (dss_cons (ds_set (ps_set (i := 3) scm_law_gcd.nd rfl (by first | exact .inl rfl | exact .inr rfl) (de_if (dt_cmp op_geA opd_ord (de_var (pv 1)) de_int rfl) (de_var (pv 1)) (de_un un_neg und_neg (de_var (pv 1))))))
  (dss_cons (ds_for (ps_for (passes_of rfl) rfl (di_rg1 (pi_range1 rfl T.b_range (da_cons de_int da_nil))) (dg_n (pg_name (i := 4) scm_law_gcd.nd rfl (by first | exact .inl rfl | exact .inr rfl)))
    (dss_cons (ds_if (dt_cmp (op_eqA (hu_of64 hr)) opd_eqA (de_var (pv 3)) de_int rfl)
      (dss_one ds_break)
      dss_nil)
    (dss_cons (ds_set (ps_set (i := 5) scm_law_gcd.nd rfl (by first | exact .inl rfl | exact .inr rfl) (de_op op_mod opd_mod (de_cb (pe_callTy call_int1 rfl T.b_int (by decide +kernel) (da_cons (de_var (pv 2)) da_nil)) cd_int) (de_var (pv 3)))))
    (dss_cons (ds_set (ps_set (i := 2) scm_law_gcd.nd rfl (by first | exact .inl rfl | exact .inr rfl) (de_var (pv 3))))
    (dss_one (ds_set (ps_set (i := 3) scm_law_gcd.nd rfl (by first | exact .inl rfl | exact .inr rfl) (de_var (pv 5))))))))))
  (dss_one (ds_ret (de_var (pv 2))))))))
abbrev sm_law_red : Stmt := topS 45
theorem scm_law_red : FnScope ["n", "d", "common"] ["n", "d"] (defScope sm_law_red) := ⟨rfl, rfl, rfl, by decide +kernel, rfl, by decide +kernel, by decide +kernel⟩
theorem goodm_law_red (T : Tx P w K mg) (D : DefAt K mg "_law_red" "_law_red" sm_law_red ["n", "d"]) (G_law_gcd : Good P w K mg base "_law_gcd" 1 ["one", "other"] m_law_gcd) : ∀ n, Good P w K mg base "_law_red" (2 + n) ["n", "d"] (m_law_red n)
  | 0 => (D.none scm_law_red).mono (by omega)
  | n + 1 => have G := goodm_law_red T D G_law_gcd n
  (D.good (N := ["n", "d", "common"]) scm_law_red fun f cdv A outer s H E hr =>
  (dss_cons (ds_if (dt_cmp op_ltA opd_ord (de_var (pv 1)) de_int rfl)
    (dss_one (ds_ret (dc (takes_of rfl rfl rfl rfl) G (hr.mono (by first | omega | (simp only [Nat.add_eq]; omega))) rfl rfl ((aCons_len (aCons_len aNil_len))) (da_cons (de_un un_neg und_neg (de_var (pv 0))) (da_cons (de_un un_neg und_neg (de_var (pv 1))) da_nil)))))
    dss_nil)
  (dss_cons (ds_set (ps_set (i := 2) scm_law_red.nd rfl (by first | exact .inl rfl | exact .inr rfl) (dc (takes_of rfl rfl rfl rfl) G_law_gcd (hr.mono (by first | omega | (simp only [Nat.add_eq]; omega))) rfl rfl ((aCons_len (aCons_len aNil_len))) (da_cons (de_var (pv 0)) (da_cons (de_var (pv 1)) da_nil)))))
  (dss_cons (ds_if (dt_cmp (op_eqA (hu_of64 hr)) opd_eqA (de_var (pv 2)) de_int rfl)
    (dss_one (ds_ret (de_tup (da_cons de_int (da_cons de_int da_nil)))))
    dss_nil)
  (dss_one (ds_ret (de_tup (da_cons (de_op op_fdivA opd_fdiv (de_var (pv 0)) (de_var (pv 2))) (da_cons (de_op op_fdivA opd_fdiv (de_var (pv 1)) (de_var (pv 2))) da_nil)))))))))
abbrev sm_law_add : Stmt := topS 46
theorem scm_law_add : FnScope ["one", "other"] ["one", "other"] (defScope sm_law_add) := ⟨rfl, rfl, rfl, by decide +kernel, rfl, by decide +kernel, by decide +kernel⟩
theorem goodm_law_add (T : Tx P w K mg) (D : DefAt K mg "_law_add" "_law_add" sm_law_add ["one", "other"]) (G_law_red : ∀ n, Good P w K mg base "_law_red" (2 + n) ["n", "d"] (m_law_red n)) : Good P w K mg base "_law_add" 27 ["one", "other"] m_law_add :=
  (D.good (N := ["one", "other"]) scm_law_add fun f cdv A outer s H E hr =>
  (dss_one (ds_ret (dc (takes_of rfl rfl rfl rfl) (G_law_red 24) (hr.mono (by decide)) rfl rfl ((aCons_len (aCons_len aNil_len))) (da_cons (de_op op_addA opd_add (de_op op_mulA opd_mul (de_ix ix_seq opd_ix (de_var (pv 0)) de_int (fun _ _ => rfl)) (de_ix ix_seq opd_ix (de_var (pv 1)) de_int (fun _ _ => rfl))) (de_op op_mulA opd_mul (de_ix ix_seq opd_ix (de_var (pv 1)) de_int (fun _ _ => rfl)) (de_ix ix_seq opd_ix (de_var (pv 0)) de_int (fun _ _ => rfl)))) (da_cons (de_op op_mulA opd_mul (de_ix ix_seq opd_ix (de_var (pv 0)) de_int (fun _ _ => rfl)) (de_ix ix_seq opd_ix (de_var (pv 1)) de_int (fun _ _ => rfl))) da_nil))))))
abbrev sm_reached : Stmt := topS 31
theorem scm_reached : FnScope ["chain", "start", "walls", "found", "waiting", "state", "other", "weight"] ["chain", "start", "walls"] (defScope sm_reached) := ⟨rfl, rfl, rfl, by decide +kernel, rfl, by decide +kernel, by decide +kernel⟩
theorem goodm_reached (T : Tx P w K mg) (D : DefAt K mg "reached" "reached" sm_reached ["chain", "start", "walls"])  : Good P w K mg base "reached" 1 ["chain", "start", "walls"] m_reached :=
  (D.good (N := ["chain", "start", "walls", "found", "waiting", "state", "other", "weight"]) scm_reached fun f cdv A outer s H E hr =>
  (dss_cons (ds_set (ps_set (i := 3) scm_reached.nd rfl (by first | exact .inl rfl | exact .inr rfl) (de_dct1 (pl_var (pv 1)) pl_bl)))
  (dss_cons (ds_set (ps_set (i := 4) scm_reached.nd rfl (by first | exact .inl rfl | exact .inr rfl) (de_cell (da_cons (de_var (pv 1)) da_nil))))
  (dss_cons (ds_while 100000 (passes_of rfl) (dt_tru (de_var (pv 4)))
    (dss_cons (ds_set (ps_set (i := 5) scm_reached.nd rfl (by first | exact .inl rfl | exact .inr rfl) (de_bm0 (pe_bm0 PySem.F.plainAttrs_list PySem.F.slot_list_pop PySem.F.type_list_pop mt_pop (de_var (pv 4))) md_pop)))
    (dss_one (ds_if (dt_cmp op_notInA opd_in (de_var (pv 5)) (de_var (pv 2)) rfl)
      (dss_one (ds_for (ps_for (passes_of rfl) rfl (di_enu (pi_enB rfl T.b_enumerate (da_cons (de_ix ix_seq opd_ix (de_var (pv 0)) (de_var (pv 5)) (fun _ _ => rfl)) da_nil))) (dgT rfl (dgsC (dg_n (pg_name (i := 6) scm_reached.nd rfl (by first | exact .inl rfl | exact .inr rfl))) (dgsC (dg_n (pg_name (i := 7) scm_reached.nd rfl (by first | exact .inl rfl | exact .inr rfl))) dgs_nil (fun a b => pgs_cons a b)) (fun a b => pgs_cons a b)) (fun a => pg_tup rfl a) (fun a => pg_lst rfl a))
        (dss_one (ds_if (PW.pt (dw_and (dt_cmp op_gtA opd_ord (de_var (pv 7)) de_int rfl) (dw_and1 (dt_dnin (hu_1 hr) (de_var (pv 6)) (de_var (pv 3))))))
          (dss_cons (ds_dput (hu_1 hr) (de_var (pv 3)) (de_var (pv 6)) de_bl)
          (dss_one (ds_drop (de_bm (pe_bm PySem.F.plainAttrs_list PySem.F.slot_list_append PySem.F.type_list_append mt_append (de_var (pv 4)) (da_cons (de_var (pv 6)) da_nil)) md_app))))
          dss_nil)))))
      dss_nil))))
  (dss_one (ds_ret (de_cb (pe_callB (call_sortA rfl) rfl T.b_sorted (by decide +kernel) (da_cons (de_var (pv 3)) da_nil)) cd_sort)))))))
abbrev sm_closed_parts : Stmt := topS 32
theorem scm_closed_parts : FnScope ["chain", "reach", "found", "state", "ours", "other"] ["chain"] (defScope sm_closed_parts) := ⟨rfl, rfl, rfl, by decide +kernel, rfl, by decide +kernel, by decide +kernel⟩
theorem goodm_closed_parts (T : Tx P w K mg) (D : DefAt K mg "closed_parts" "closed_parts" sm_closed_parts ["chain"]) (Greached : Good P w K mg base "reached" 1 ["chain", "start", "walls"] m_reached) : Good P w K mg base "closed_parts" 2 ["chain"] m_closed_parts :=
  (D.good (N := ["chain", "reach", "found", "state", "ours", "other"]) scm_closed_parts fun f cdv A outer s H E hr =>
  (dss_cons (ds_set (ps_set (i := 1) scm_closed_parts.nd rfl (by first | exact .inl rfl | exact .inr rfl) (de_lc (by decide) (pe_lc (own := [("state", 3)]) rfl scm_closed_parts.nd (di_rg1 (pi_range1 rfl T.b_range (da_cons (de_cb (pe_callB call_lenA rfl T.b_len (by decide +kernel) (da_cons (de_var (pv 0)) da_nil)) cd_len) da_nil))) (blkOk_by (N := ["chain", "reach", "found", "state", "ours", "other"]) (sc := (defScope sm_closed_parts)) (by decide +kernel)) (fun _ _ _ _ _ => (dg_n (pg_name (i := 3) scm_closed_parts.nd rfl (by first | exact .inl rfl | exact .inr rfl)))) (fun _ _ _ _ _ => dts_nil) (fun _ _ _ _ _ => (dc takes0 Greached (hr.mono (by decide)) rfl rfl ((aCons_len (aCons_len (aCons_len aNil_len)))) (da_cons (de_var (pv 0)) (da_cons (de_var (pv 3)) (da_cons (de_tup da_nil) da_nil)))))))))
  (dss_cons (ds_set (ps_set (i := 2) scm_closed_parts.nd rfl (by first | exact .inl rfl | exact .inr rfl) (de_cell da_nil)))
  (dss_cons (ds_for (ps_for (passes_of rfl) rfl (di_enu (pi_enB rfl T.b_enumerate (da_cons (de_var (pv 1)) da_nil))) (dgT rfl (dgsC (dg_n (pg_name (i := 3) scm_closed_parts.nd rfl (by first | exact .inl rfl | exact .inr rfl))) (dgsC (dg_n (pg_name (i := 4) scm_closed_parts.nd rfl (by first | exact .inl rfl | exact .inr rfl))) dgs_nil (fun a b => pgs_cons a b)) (fun a b => pgs_cons a b)) (fun a => pg_tup rfl a) (fun a => pg_lst rfl a))
    (dss_one (ds_if (PW.pt (dw_and (dt_cmp (op_notInZ (hu_of65 hr)) opd_inZ (de_var (pv 4)) (de_var (pv 2)) rfl) (dw_and1 (dt_tru (de_cb (pe_callB (cr_all rfl) rfl T.b_all (by decide +kernel) (da_cons (de_lc (by decide) (pe_lc (own := [("other", 5)]) rfl scm_closed_parts.nd (di_seq (de_var (pv 4))) (blkOk_by (N := ["chain", "reach", "found", "state", "ours", "other"]) (sc := (defScope sm_closed_parts)) (by decide +kernel)) (fun _ _ _ _ _ => (dg_n (pg_name (i := 5) scm_closed_parts.nd rfl (by first | exact .inl rfl | exact .inr rfl)))) (fun _ _ _ _ _ => dts_nil) (fun _ _ _ _ _ => (de_cmp (op_inZ (hu_of65 hr)) opd_inZ (de_var (pv 3)) (de_ix ix_seq opd_ix (de_var (pv 1)) (de_var (pv 5)) (fun _ _ => rfl)) rfl)))) da_nil)) cd_all)))))
      (dss_one (ds_drop (de_bm (pe_bm PySem.F.plainAttrs_list PySem.F.slot_list_append PySem.F.type_list_append mt_append (de_var (pv 2)) (da_cons (de_var (pv 4)) da_nil)) md_app)))
      dss_nil))))
  (dss_one (ds_ret (de_var (pv 2))))))))
abbrev sm_is_sequence : Stmt := topS 4
theorem scm_is_sequence : FnScope ["x"] ["x"] (defScope sm_is_sequence) := ⟨rfl, rfl, rfl, by decide +kernel, rfl, by decide +kernel, by decide +kernel⟩
theorem goodm_is_sequence (T : Tx P w K mg) (D : DefAt K mg "is_sequence" "is_sequence" sm_is_sequence ["x"])  : Good P w K mg base "is_sequence" 1 ["x"] m_is_sequence :=
  (D.good (N := ["x"]) scm_is_sequence fun f cdv A outer s H E hr =>
  (dss_one (ds_ret (de_is2 (pe_callB call_isiT rfl T.b_isinstance PyProof.Rows.boot_isinstance (pa_cons (de_var (pv 0)) (pa_cons (pe_tup (pa_cons (pe_bltn rfl T.b_list (by decide +kernel) rfl) (pa_cons (pe_bltn rfl T.b_tuple (by decide +kernel) rfl) pa_nil))) pa_nil)))))))
abbrev sm_is_row : Stmt := topS 5
theorem scm_is_row : FnScope ["x", "least", "most"] ["x", "least", "most"] (defScope sm_is_row) := ⟨rfl, rfl, rfl, by decide +kernel, rfl, by decide +kernel, by decide +kernel⟩
theorem goodm_is_row (T : Tx P w K mg) (D : DefAt K mg "is_row" "is_row" sm_is_row ["x", "least", "most"]) (Gis_sequence : Good P w K mg base "is_sequence" 1 ["x"] m_is_sequence) : Good P w K mg base "is_row" 2 ["x", "least", "most"] m_is_row :=
  (D.good (N := ["x", "least", "most"]) scm_is_row fun f cdv A outer s H E hr =>
  (dss_one (ds_ret (de_and (dc (takes_of rfl rfl rfl rfl) Gis_sequence (hr.mono (by decide)) rfl rfl ((aCons_len aNil_len)) (da_cons (de_var (pv 0)) da_nil)) (de_and (de_cmp op_leA opd_ord (de_var (pv 1)) (de_cb (pe_callB call_lenA rfl T.b_len (by decide +kernel) (da_cons (de_var (pv 0)) da_nil)) cd_len) rfl) (de_one (de_cmp op_leA opd_ord (de_cb (pe_callB call_lenA rfl T.b_len (by decide +kernel) (da_cons (de_var (pv 0)) da_nil)) cd_len) (de_var (pv 2)) rfl)))))))
abbrev sm_is_integer : Stmt := topS 2
theorem scm_is_integer : FnScope ["x"] ["x"] (defScope sm_is_integer) := ⟨rfl, rfl, rfl, by decide +kernel, rfl, by decide +kernel, by decide +kernel⟩
theorem goodm_is_integer (T : Tx P w K mg) (D : DefAt K mg "is_integer" "is_integer" sm_is_integer ["x"])  : Good P w K mg base "is_integer" 1 ["x"] m_is_integer :=
  (D.good (N := ["x"]) scm_is_integer fun f cdv A outer s H E hr =>
  (dss_one (ds_ret (de_and (de_cb (pe_callB call_isi rfl T.b_isinstance (by decide +kernel) (da_cons (de_var (pv 0)) (da_cons (de_bty rfl T.b_int (by decide +kernel)) da_nil))) cd_is) (de_one (de_not (de_cb (pe_callB call_isi rfl T.b_isinstance (by decide +kernel) (da_cons (de_var (pv 0)) (da_cons (de_bty rfl T.b_bool (by decide +kernel)) da_nil))) cd_is)))))))
abbrev sm_is_within : Stmt := topS 3
theorem scm_is_within : FnScope ["x", "low", "high"] ["x", "low", "high"] (defScope sm_is_within) := ⟨rfl, rfl, rfl, by decide +kernel, rfl, by decide +kernel, by decide +kernel⟩
theorem goodm_is_within (T : Tx P w K mg) (D : DefAt K mg "is_within" "is_within" sm_is_within ["x", "low", "high"]) (Gis_integer : Good P w K mg base "is_integer" 1 ["x"] m_is_integer) : Good P w K mg base "is_within" 2 ["x", "low", "high"] m_is_within :=
  (D.good (N := ["x", "low", "high"]) scm_is_within fun f cdv A outer s H E hr =>
  (dss_one (ds_ret (de_and (dc (takes_of rfl rfl rfl rfl) Gis_integer (hr.mono (by decide)) rfl rfl ((aCons_len aNil_len)) (da_cons (de_var (pv 0)) da_nil)) (de_and (de_cmp op_leA opd_ord (de_var (pv 1)) (de_var (pv 0)) rfl) (de_one (de_cmp op_leA opd_ord (de_var (pv 0)) (de_var (pv 2)) rfl)))))))
abbrev sm_is_weights : Stmt := topS 29
theorem scm_is_weights : FnScope ["row", "many", "weight"] ["row", "many"] (defScope sm_is_weights) := ⟨rfl, rfl, rfl, by decide +kernel, rfl, by decide +kernel, by decide +kernel⟩
theorem goodm_is_weights (T : Tx P w K mg) (D : DefAt K mg "is_weights" "is_weights" sm_is_weights ["row", "many"]) (Gis_row : Good P w K mg base "is_row" 2 ["x", "least", "most"] m_is_row) (Gis_within : Good P w K mg base "is_within" 2 ["x", "low", "high"] m_is_within) : Good P w K mg base "is_weights" 3 ["row", "many"] m_is_weights :=
  (D.good (N := ["row", "many", "weight"]) scm_is_weights fun f cdv A outer s H E hr =>
  (dss_cons (ds_if (dt_not (dt_tru (dc (takes_of rfl rfl rfl rfl) Gis_row (hr.mono (by decide)) rfl rfl ((aCons_len (aCons_len (aCons_len aNil_len)))) (da_cons (de_var (pv 0)) (da_cons (de_var (pv 1)) (da_cons (de_var (pv 1)) da_nil))))))
    (dss_one (ds_ret de_bl))
    dss_nil)
  (dss_one (ds_ret (de_and (de_cb (pe_callB (cr_all rfl) rfl T.b_all (by decide +kernel) (da_cons (de_lc (by decide) (pe_lc (own := [("weight", 2)]) rfl scm_is_weights.nd (di_seq (de_var (pv 0))) (blkOk_by (N := ["row", "many", "weight"]) (sc := (defScope sm_is_weights)) (by decide +kernel)) (fun _ _ _ _ _ => (dg_n (pg_name (i := 2) scm_is_weights.nd rfl (by first | exact .inl rfl | exact .inr rfl)))) (fun _ _ _ _ _ => dts_nil) (fun _ _ _ _ _ => (dc takes0 Gis_within (hr.mono (by decide)) rfl rfl ((aCons_len (aCons_len (aCons_len aNil_len)))) (da_cons (de_var (pv 2)) (da_cons de_int (da_cons (de_top rfl T.c_MOST_WEIGHT) da_nil))))))) da_nil)) cd_all) (de_one (de_cmp op_gtA opd_ord (de_cb (pe_callB (call_sumB rfl) rfl T.b_sum (by decide +kernel) (da_cons (de_var (pv 0)) da_nil)) cd_sumA) de_int rfl)))))))
abbrev sm_is_chain : Stmt := topS 30
theorem scm_is_chain : FnScope ["chain", "row"] ["chain"] (defScope sm_is_chain) := ⟨rfl, rfl, rfl, by decide +kernel, rfl, by decide +kernel, by decide +kernel⟩
theorem goodm_is_chain (T : Tx P w K mg) (D : DefAt K mg "is_chain" "is_chain" sm_is_chain ["chain"]) (Gis_row : Good P w K mg base "is_row" 2 ["x", "least", "most"] m_is_row) (Gis_weights : Good P w K mg base "is_weights" 3 ["row", "many"] m_is_weights) : Good P w K mg base "is_chain" 4 ["chain"] m_is_chain :=
  (D.good (N := ["chain", "row"]) scm_is_chain fun f cdv A outer s H E hr =>
  (dss_cons (ds_if (dt_not (dt_tru (dc (takes_of rfl rfl rfl rfl) Gis_row (hr.mono (by decide)) rfl rfl ((aCons_len (aCons_len (aCons_len aNil_len)))) (da_cons (de_var (pv 0)) (da_cons de_int (da_cons (de_top rfl T.c_MOST_STATES) da_nil))))))
    (dss_one (ds_ret de_bl))
    dss_nil)
  (dss_one (ds_ret (de_cb (pe_callB (cr_all rfl) rfl T.b_all (by decide +kernel) (da_cons (de_lc (by decide) (pe_lc (own := [("row", 1)]) rfl scm_is_chain.nd (di_seq (de_var (pv 0))) (blkOk_by (N := ["chain", "row"]) (sc := (defScope sm_is_chain)) (by decide +kernel)) (fun _ _ _ _ _ => (dg_n (pg_name (i := 1) scm_is_chain.nd rfl (by first | exact .inl rfl | exact .inr rfl)))) (fun _ _ _ _ _ => dts_nil) (fun _ _ _ _ _ => (dc takes0 Gis_weights (hr.mono (by decide)) rfl rfl ((aCons_len (aCons_len aNil_len))) (da_cons (de_var (pv 1)) (da_cons (de_cb (pe_callB call_lenA rfl T.b_len (by decide +kernel) (da_cons (de_var (pv 0)) da_nil)) cd_len) da_nil)))))) da_nil)) cd_all)))))
abbrev sm_shared_factor : Stmt := topS 21
theorem scm_shared_factor : FnScope ["row", "common", "x"] ["row"] (defScope sm_shared_factor) := ⟨rfl, rfl, rfl, by decide +kernel, rfl, by decide +kernel, by decide +kernel⟩
theorem goodm_shared_factor (T : Tx P w K mg) (D : DefAt K mg "shared_factor" "shared_factor" sm_shared_factor ["row"])  : Good P w K mg base "shared_factor" 1 ["row"] m_shared_factor :=
  (D.good (N := ["row", "common", "x"]) scm_shared_factor fun f cdv A outer s H E hr =>
  (dss_cons (ds_set (ps_set (i := 1) scm_shared_factor.nd rfl (by first | exact .inl rfl | exact .inr rfl) de_int))
  (dss_cons (ds_for (ps_for (passes_of rfl) rfl (di_seq (de_var (pv 0))) (dg_n (pg_name (i := 2) scm_shared_factor.nd rfl (by first | exact .inl rfl | exact .inr rfl)))
    (dss_one (ds_set (ps_set (i := 1) scm_shared_factor.nd rfl (by first | exact .inl rfl | exact .inr rfl) (de_cb (pe_callBfun cr_gcd rfl T.i_gcd (da_cons (de_var (pv 1)) (da_cons (de_var (pv 2)) da_nil))) cd_gcd))))))
  (dss_one (ds_ret (de_cb (pe_callB (call_maxB rfl) rfl T.b_max (by decide +kernel) (da_cons (de_var (pv 1)) (da_cons de_int da_nil))) cd_max))))))
abbrev sm_lowered : Stmt := topS 22
theorem scm_lowered : FnScope ["row", "common", "x"] ["row"] (defScope sm_lowered) := ⟨rfl, rfl, rfl, by decide +kernel, rfl, by decide +kernel, by decide +kernel⟩
theorem goodm_lowered (T : Tx P w K mg) (D : DefAt K mg "lowered" "lowered" sm_lowered ["row"]) (Gshared_factor : Good P w K mg base "shared_factor" 1 ["row"] m_shared_factor) : Good P w K mg base "lowered" 2 ["row"] m_lowered :=
  (D.good (N := ["row", "common", "x"]) scm_lowered fun f cdv A outer s H E hr =>
  (dss_cons (ds_set (ps_set (i := 1) scm_lowered.nd rfl (by first | exact .inl rfl | exact .inr rfl) (dc (takes_of rfl rfl rfl rfl) Gshared_factor (hr.mono (by decide)) rfl rfl ((aCons_len aNil_len)) (da_cons (de_var (pv 0)) da_nil))))
  (dss_one (ds_ret (de_lc (by decide) (pe_lc (own := [("x", 2)]) rfl scm_lowered.nd (di_seq (de_var (pv 0))) (blkOk_by (N := ["row", "common", "x"]) (sc := (defScope sm_lowered)) (by decide +kernel)) (fun _ _ _ _ _ => (dg_n (pg_name (i := 2) scm_lowered.nd rfl (by first | exact .inl rfl | exact .inr rfl)))) (fun _ _ _ _ _ => dts_nil) (fun _ _ _ _ _ => (de_op op_fdivA opd_fdiv (de_var (pv 2)) (de_var (pv 1))))))))))
abbrev sm_lead_place : Stmt := topS 24
theorem scm_lead_place : FnScope ["rows", "at", "place"] ["rows", "at"] (defScope sm_lead_place) := ⟨rfl, rfl, rfl, by decide +kernel, rfl, by decide +kernel, by decide +kernel⟩
theorem goodm_lead_place (T : Tx P w K mg) (D : DefAt K mg "lead_place" "lead_place" sm_lead_place ["rows", "at"])  : Good P w K mg base "lead_place" 1 ["rows", "at"] m_lead_place :=
  (D.good (N := ["rows", "at", "place"]) scm_lead_place fun f cdv A outer s H E hr =>
  (dss_cons (ds_set (ps_set (i := 2) scm_lead_place.nd rfl (by first | exact .inl rfl | exact .inr rfl) (de_var (pv 1))))
  (dss_cons (ds_while 100000 (passes_of rfl) (dt_cmp (op_eqA (hu_of64 hr)) opd_eqA (de_ix ix_seq opd_ix (de_ix ix_seq opd_ix (de_var (pv 0)) (de_var (pv 2)) (fun _ _ => rfl)) (de_var (pv 1)) (fun _ _ => rfl)) de_int rfl)
    (dss_one (ds_aug (ps_aug (i := 2) scm_lead_place.nd rfl (by first | exact .inl rfl | exact .inr rfl) de_int iop_add) opd_addI)))
  (dss_one (ds_ret (de_var (pv 2)))))))
abbrev sm_lowest : Stmt := topS 18
theorem scm_lowest : FnScope ["n", "d", "common"] ["n", "d"] (defScope sm_lowest) := ⟨rfl, rfl, rfl, by decide +kernel, rfl, by decide +kernel, by decide +kernel⟩
theorem goodm_lowest (T : Tx P w K mg) (D : DefAt K mg "lowest" "lowest" sm_lowest ["n", "d"])  : Good P w K mg base "lowest" 1 ["n", "d"] m_lowest :=
  (D.good (N := ["n", "d", "common"]) scm_lowest fun f cdv A outer s H E hr =>
  (dss_cons (ds_set (ps_set (i := 2) scm_lowest.nd rfl (by first | exact .inl rfl | exact .inr rfl) (de_cb (pe_callBfun cr_gcd rfl T.i_gcd (da_cons (de_var (pv 0)) (da_cons (de_var (pv 1)) da_nil))) cd_gcd)))
  (dss_cons (ds_if (dt_cmp op_ltA opd_ord (de_var (pv 1)) de_int rfl)
    (dss_one (ds_set (ps_set (i := 2) scm_lowest.nd rfl (by first | exact .inl rfl | exact .inr rfl) (de_un un_neg und_neg (de_var (pv 2))))))
    dss_nil)
  (dss_one (ds_ret (de_tup (da_cons (de_op op_fdivA opd_fdiv (de_var (pv 0)) (de_var (pv 2))) (da_cons (de_op op_fdivA opd_fdiv (de_var (pv 1)) (de_var (pv 2))) da_nil))))))))
abbrev sm_reduced : Stmt := topS 19
theorem scm_reduced : FnScope ["n", "d"] ["n", "d"] (defScope sm_reduced) := ⟨rfl, rfl, rfl, by decide +kernel, rfl, by decide +kernel, by decide +kernel⟩
theorem goodm_reduced (T : Tx P w K mg) (D : DefAt K mg "reduced" "reduced" sm_reduced ["n", "d"]) (Glowest : Good P w K mg base "lowest" 1 ["n", "d"] m_lowest) (Gis_integer : Good P w K mg base "is_integer" 1 ["x"] m_is_integer) : Good P w K mg base "reduced" 3 ["n", "d"] m_reduced :=
  (D.good (N := ["n", "d"]) scm_reduced fun f cdv A outer s H E hr =>
  (dss_cons (ds_if (dt_not (dt_tru (dc (takes_of rfl rfl rfl rfl) Gis_integer (hr.mono (by decide)) rfl rfl ((aCons_len aNil_len)) (da_cons (de_var (pv 0)) da_nil))))
    (dss_one (ds_raise1 rfl (takes_of rfl rfl rfl rfl) T.x_BadValue (hr.mono (by decide)) rfl (da_cons de_int da_nil)))
    dss_nil)
  (dss_cons (ds_if (PW.pt (dw_or (dt_not (dt_tru (dc (takes_of rfl rfl rfl rfl) Gis_integer (hr.mono (by decide)) rfl rfl ((aCons_len aNil_len)) (da_cons (de_var (pv 1)) da_nil)))) (dw_or1 (dt_cmp (op_eqA (hu_of64 hr)) opd_eqA (de_var (pv 1)) de_int rfl))))
    (dss_one (ds_raise1 rfl (takes_of rfl rfl rfl rfl) T.x_BadValue (hr.mono (by decide)) rfl (da_cons de_int da_nil)))
    dss_nil)
  (dss_one (ds_ret (dc (takes_of rfl rfl rfl rfl) Glowest (hr.mono (by decide)) rfl rfl ((aCons_len (aCons_len aNil_len))) (da_cons (de_var (pv 0)) (da_cons (de_var (pv 1)) da_nil))))))))
abbrev sm_cleared : Stmt := topS 23
theorem scm_cleared : FnScope ["row", "lead", "at", "common", "ours", "theirs", "x", "y"] ["row", "lead", "at"] (defScope sm_cleared) := ⟨rfl, rfl, rfl, by decide +kernel, rfl, by decide +kernel, by decide +kernel⟩
theorem goodm_cleared (T : Tx P w K mg) (D : DefAt K mg "cleared" "cleared" sm_cleared ["row", "lead", "at"]) (Glowered : Good P w K mg base "lowered" 2 ["row"] m_lowered) : Good P w K mg base "cleared" 3 ["row", "lead", "at"] m_cleared :=
  (D.good (N := ["row", "lead", "at", "common", "ours", "theirs", "x", "y"]) scm_cleared fun f cdv A outer s H E hr =>
  (dss_cons (ds_set (ps_set (i := 3) scm_cleared.nd rfl (by first | exact .inl rfl | exact .inr rfl) (de_cb (pe_callBfun cr_gcd rfl T.i_gcd (da_cons (de_ix ix_seq opd_ix (de_var (pv 0)) (de_var (pv 2)) (fun _ _ => rfl)) (da_cons (de_ix ix_seq opd_ix (de_var (pv 1)) (de_var (pv 2)) (fun _ _ => rfl)) da_nil))) cd_gcd)))
  (dss_cons (ds_set (ps_set (i := 4) scm_cleared.nd rfl (by first | exact .inl rfl | exact .inr rfl) (de_op op_fdivA opd_fdiv (de_ix ix_seq opd_ix (de_var (pv 1)) (de_var (pv 2)) (fun _ _ => rfl)) (de_var (pv 3)))))
  (dss_cons (ds_set (ps_set (i := 5) scm_cleared.nd rfl (by first | exact .inl rfl | exact .inr rfl) (de_op op_fdivA opd_fdiv (de_ix ix_seq opd_ix (de_var (pv 0)) (de_var (pv 2)) (fun _ _ => rfl)) (de_var (pv 3)))))
  (dss_one (ds_ret (dc (takes_of rfl rfl rfl rfl) Glowered (hr.mono (by decide)) rfl rfl ((aCons_len aNil_len)) (da_cons (de_lc (by decide) (pe_lc (own := [("x", 6), ("y", 7)]) rfl scm_cleared.nd (di_zip (pi_zpB rfl T.b_zip (da_cons (de_var (pv 0)) (da_cons (de_var (pv 1)) da_nil)))) (blkOk_by (N := ["row", "lead", "at", "common", "ours", "theirs", "x", "y"]) (sc := (defScope sm_cleared)) (by decide +kernel)) (fun _ _ _ _ _ => (dgT rfl (dgsC (dg_n (pg_name (i := 6) scm_cleared.nd rfl (by first | exact .inl rfl | exact .inr rfl))) (dgsC (dg_n (pg_name (i := 7) scm_cleared.nd rfl (by first | exact .inl rfl | exact .inr rfl))) dgs_nil (fun a b => pgs_cons a b)) (fun a b => pgs_cons a b)) (fun a => pg_tup rfl a) (fun a => pg_lst rfl a))) (fun _ _ _ _ _ => dts_nil) (fun _ _ _ _ _ => (de_op op_sub opd_sub (de_op op_mulA opd_mul (de_var (pv 4)) (de_var (pv 6))) (de_op op_mulA opd_mul (de_var (pv 5)) (de_var (pv 7))))))) da_nil))))))))
abbrev sm_solved : Stmt := topS 25
theorem scm_solved : FnScope ["rows", "work", "many", "at", "place", "k", "row"] ["rows"] (defScope sm_solved) := ⟨rfl, rfl, rfl, by decide +kernel, rfl, by decide +kernel, by decide +kernel⟩
theorem goodm_solved (T : Tx P w K mg) (D : DefAt K mg "solved" "solved" sm_solved ["rows"]) (Glowered : Good P w K mg base "lowered" 2 ["row"] m_lowered) (Glead_place : Good P w K mg base "lead_place" 1 ["rows", "at"] m_lead_place) (Greduced : Good P w K mg base "reduced" 3 ["n", "d"] m_reduced) (Gcleared : Good P w K mg base "cleared" 3 ["row", "lead", "at"] m_cleared) : Good P w K mg base "solved" 4 ["rows"] m_solved :=
  (D.good (N := ["rows", "work", "many", "at", "place", "k", "row"]) scm_solved fun f cdv A outer s H E hr =>
  (dss_cons (ds_set (ps_set (i := 1) scm_solved.nd rfl (by first | exact .inl rfl | exact .inr rfl) (de_lcC (by decide) (pe_lc (own := [("row", 6)]) rfl scm_solved.nd (di_seq (de_var (pv 0))) (blkOk_by (N := ["rows", "work", "many", "at", "place", "k", "row"]) (sc := (defScope sm_solved)) (by decide +kernel)) (fun _ _ _ _ _ => (dg_n (pg_name (i := 6) scm_solved.nd rfl (by first | exact .inl rfl | exact .inr rfl)))) (fun _ _ _ _ _ => dts_nil) (fun _ _ _ _ _ => (dc takes0 Glowered (hr.mono (by decide)) rfl rfl ((aCons_len aNil_len)) (da_cons (de_var (pv 6)) da_nil)))))))
  (dss_cons (ds_set (ps_set (i := 2) scm_solved.nd rfl (by first | exact .inl rfl | exact .inr rfl) (de_cb (pe_callB call_lenA rfl T.b_len (by decide +kernel) (da_cons (de_var (pv 1)) da_nil)) cd_len)))
  (dss_cons (ds_for (ps_for (passes_of rfl) rfl (di_rg1 (pi_range1 rfl T.b_range (da_cons (de_var (pv 2)) da_nil))) (dg_n (pg_name (i := 3) scm_solved.nd rfl (by first | exact .inl rfl | exact .inr rfl)))
    (dss_cons (ds_set (ps_set (i := 4) scm_solved.nd rfl (by first | exact .inl rfl | exact .inr rfl) (dc (takes_of rfl rfl rfl rfl) Glead_place (hr.mono (by decide)) rfl rfl ((aCons_len (aCons_len aNil_len))) (da_cons (de_var (pv 1)) (da_cons (de_var (pv 3)) da_nil)))))
    (dss_cons (ds_sw (ps_asg (pe_tup (da_cons (de_ix ix_seq opd_ix (de_var (pv 1)) (de_var (pv 4)) (fun _ _ => rfl)) (da_cons (de_ix ix_seq opd_ix (de_var (pv 1)) (de_var (pv 3)) (fun _ _ => rfl)) da_nil))) (pg_tup rfl (pgs_cons (pg_sub (de_var (pv 1)) (de_var (pv 3)) set_list) (pgs_cons (pg_sub (de_var (pv 1)) (de_var (pv 4)) set_list) pgs_nil)))))
    (dss_one (ds_for (ps_for (passes_of rfl) rfl (di_rg1 (pi_range1 rfl T.b_range (da_cons (de_var (pv 2)) da_nil))) (dg_n (pg_name (i := 5) scm_solved.nd rfl (by first | exact .inl rfl | exact .inr rfl)))
      (dss_one (ds_if (PW.pt (dw_and (dt_cmp (op_neA (hu_of64 hr)) opd_eqA (de_var (pv 5)) (de_var (pv 3)) rfl) (dw_and1 (dt_cmp (op_neA (hu_of64 hr)) opd_eqA (de_ix ix_seq opd_ix (de_ix ix_seq opd_ix (de_var (pv 1)) (de_var (pv 5)) (fun _ _ => rfl)) (de_var (pv 3)) (fun _ _ => rfl)) de_int rfl))))
        (dss_one (ds_put (ps_asg (dc (takes_of rfl rfl rfl rfl) Gcleared (hr.mono (by decide)) rfl rfl ((aCons_len (aCons_len (aCons_len aNil_len)))) (da_cons (de_ix ix_seq opd_ix (de_var (pv 1)) (de_var (pv 5)) (fun _ _ => rfl)) (da_cons (de_ix ix_seq opd_ix (de_var (pv 1)) (de_var (pv 3)) (fun _ _ => rfl)) (da_cons (de_var (pv 3)) da_nil)))) (pg_sub (de_var (pv 1)) (de_var (pv 5)) set_list)) sd_set))
        dss_nil)))))))))
  (dss_one (ds_ret (de_cb (pe_callTy call_tuple_of rfl T.b_tuple (by decide +kernel) (da_cons (de_lc (by decide) (pe_lc (own := [("k", 5)]) rfl scm_solved.nd (di_rg1 (pi_range1 rfl T.b_range (da_cons (de_var (pv 2)) da_nil))) (blkOk_by (N := ["rows", "work", "many", "at", "place", "k", "row"]) (sc := (defScope sm_solved)) (by decide +kernel)) (fun _ _ _ _ _ => (dg_n (pg_name (i := 5) scm_solved.nd rfl (by first | exact .inl rfl | exact .inr rfl)))) (fun _ _ _ _ _ => dts_nil) (fun _ _ _ _ _ => (dc takes0 Greduced (hr.mono (by decide)) rfl rfl ((aCons_len (aCons_len aNil_len))) (da_cons (de_ix ix_seq opd_ix (de_ix ix_seq opd_ix (de_var (pv 1)) (de_var (pv 5)) (fun _ _ => rfl)) (de_var (pv 2)) (fun _ _ => rfl)) (da_cons (de_ix ix_seq opd_ix (de_ix ix_seq opd_ix (de_var (pv 1)) (de_var (pv 5)) (fun _ _ => rfl)) (de_var (pv 5)) (fun _ _ => rfl)) da_nil)))))) da_nil)) cd_tuple)))))))
abbrev sm_balance : Stmt := topS 33
theorem scm_balance : FnScope ["chain", "part", "wholes", "rows", "state", "whole", "row", "found", "other", "top", "bottom"] ["chain", "part"] (defScope sm_balance) := ⟨rfl, rfl, rfl, by decide +kernel, rfl, by decide +kernel, by decide +kernel⟩
theorem goodm_balance (T : Tx P w K mg) (D : DefAt K mg "balance" "balance" sm_balance ["chain", "part"]) (Gsolved : Good P w K mg base "solved" 4 ["rows"] m_solved) (Greduced : Good P w K mg base "reduced" 3 ["n", "d"] m_reduced) : Good P w K mg base "balance" 5 ["chain", "part"] m_balance :=
  (D.good (N := ["chain", "part", "wholes", "rows", "state", "whole", "row", "found", "other", "top", "bottom"]) scm_balance fun f cdv A outer s H E hr =>
  (dss_cons (ds_setLc (by decide) (ps_setLc (own := [("state", 4)]) rfl scm_balance.nd rfl rfl (sw_true rfl rfl rfl (by decide +kernel)) (di_seq (de_var (pv 1))) (blkOk_by (N := ["chain", "part", "wholes", "rows", "state", "whole", "row", "found", "other", "top", "bottom"]) (sc := (defScope sm_balance)) (by decide +kernel)) (fun _ _ _ _ _ => (dg_n (pg_name (i := 4) scm_balance.nd rfl (by first | exact .inl rfl | exact .inr rfl)))) (fun _ _ _ _ _ => dts_nil) (fun _ _ _ _ _ => (de_cb (pe_callB (call_sumB rfl) rfl T.b_sum (by decide +kernel) (da_cons (de_ix ix_seq opd_ix (de_var (pv 0)) (de_var (pv 4)) (fun _ _ => rfl)) da_nil)) cd_sumA))))
  (dss_cons (ds_set (ps_set (i := 3) scm_balance.nd rfl (by first | exact .inl rfl | exact .inr rfl) (de_cell da_nil)))
  (dss_cons (ds_for (ps_for (passes_of rfl) rfl (di_zip (pi_zpB rfl T.b_zip (da_cons (de_sl (pe_slice sl_all (de_var (pv 1)) do_none (do_some (de_un un_neg und_neg de_int))) sld_f) (da_cons (de_var (pv 2)) da_nil)))) (dgT rfl (dgsC (dg_n (pg_name (i := 4) scm_balance.nd rfl (by first | exact .inl rfl | exact .inr rfl))) (dgsC (dg_n (pg_name (i := 5) scm_balance.nd rfl (by first | exact .inl rfl | exact .inr rfl))) dgs_nil (fun a b => pgs_cons a b)) (fun a b => pgs_cons a b)) (fun a => pg_tup rfl a) (fun a => pg_lst rfl a))
    (dss_cons (ds_setLcC (by decide) (ps_setLc (own := [("other", 8)]) rfl scm_balance.nd rfl rfl (sw_true rfl rfl rfl (by decide +kernel)) (di_seq (de_var (pv 1))) (blkOk_by (N := ["chain", "part", "wholes", "rows", "state", "whole", "row", "found", "other", "top", "bottom"]) (sc := (defScope sm_balance)) (by decide +kernel)) (fun _ _ _ _ _ => (dg_n (pg_name (i := 8) scm_balance.nd rfl (by first | exact .inl rfl | exact .inr rfl)))) (fun _ _ _ _ _ => dts_nil) (fun _ _ _ _ _ => (de_ix ix_seq opd_ix (de_ix ix_seq opd_ix (de_var (pv 0)) (de_var (pv 8)) (fun _ _ => rfl)) (de_var (pv 4)) (fun _ _ => rfl)))))
    (dss_cons (ds_augL (ps_augS (de_var (pv 6)) (de_cb (pe_callB call_lenA rfl T.b_len (by decide +kernel) (da_cons (de_var (pv 3)) da_nil)) cd_len) get_list (de_var (pv 5)) iop_sub set_list) opd_sub)
    (dss_one (ds_drop (de_bm (pe_bm PySem.F.plainAttrs_list PySem.F.slot_list_append PySem.F.type_list_append mt_append (de_var (pv 3)) (da_cons (de_op op_addA opd_add (de_var (pv 6)) (de_lst (da_cons de_int da_nil))) da_nil)) md_app)))))))
  (dss_cons (ds_set (ps_set (i := 7) scm_balance.nd rfl (by first | exact .inl rfl | exact .inr rfl) (dc (takes_of rfl rfl rfl rfl) Gsolved (hr.mono (by decide)) rfl rfl ((aCons_len aNil_len)) (da_cons (de_op op_addA opd_add (de_var (pv 3)) (de_lst (da_cons (de_op op_addA opd_add (de_var (pv 2)) (de_lst (da_cons de_int da_nil))) da_nil))) da_nil))))
  (dss_one (ds_ret (de_cb (pe_callTy call_tuple_of rfl T.b_tuple (by decide +kernel) (da_cons (de_lc (by decide) (pe_lc (own := [("whole", 5), ("top", 9), ("bottom", 10)]) rfl scm_balance.nd (di_zip (pi_zpB rfl T.b_zip (da_cons (de_var (pv 2)) (da_cons (de_var (pv 7)) da_nil)))) (blkOk_by (N := ["chain", "part", "wholes", "rows", "state", "whole", "row", "found", "other", "top", "bottom"]) (sc := (defScope sm_balance)) (by decide +kernel)) (fun _ _ _ _ _ => (dgT rfl (dgsC (dg_n (pg_name (i := 5) scm_balance.nd rfl (by first | exact .inl rfl | exact .inr rfl))) (dgsC (dgT rfl (dgsC (dg_n (pg_name (i := 9) scm_balance.nd rfl (by first | exact .inl rfl | exact .inr rfl))) (dgsC (dg_n (pg_name (i := 10) scm_balance.nd rfl (by first | exact .inl rfl | exact .inr rfl))) dgs_nil (fun a b => pgs_cons a b)) (fun a b => pgs_cons a b)) (fun a => pg_tup rfl a) (fun a => pg_lst rfl a)) dgs_nil (fun a b => pgs_cons a b)) (fun a b => pgs_cons a b)) (fun a => pg_tup rfl a) (fun a => pg_lst rfl a))) (fun _ _ _ _ _ => dts_nil) (fun _ _ _ _ _ => (dc takes0 Greduced (hr.mono (by decide)) rfl rfl ((aCons_len (aCons_len aNil_len))) (da_cons (de_op op_mulA opd_mul (de_var (pv 5)) (de_var (pv 9))) (da_cons (de_var (pv 10)) da_nil)))))) da_nil)) cd_tuple))))))))
abbrev sm_long_run : Stmt := topS 35
theorem scm_long_run : FnScope ["chain", "parts", "found", "state", "share"] ["chain"] (defScope sm_long_run) := ⟨rfl, rfl, rfl, by decide +kernel, rfl, by decide +kernel, by decide +kernel⟩
theorem goodm_long_run (T : Tx P w K mg) (D : DefAt K mg "long_run" "long_run" sm_long_run ["chain"]) (Gclosed_parts : Good P w K mg base "closed_parts" 2 ["chain"] m_closed_parts) (Gis_chain : Good P w K mg base "is_chain" 4 ["chain"] m_is_chain) (Gbalance : Good P w K mg base "balance" 5 ["chain", "part"] m_balance) : Good P w K mg base "long_run" 6 ["chain"] m_long_run :=
  (D.good (N := ["chain", "parts", "found", "state", "share"]) scm_long_run fun f cdv A outer s H E hr =>
  (dss_cons (ds_if (dt_not (dt_tru (dc (takes_of rfl rfl rfl rfl) Gis_chain (hr.mono (by decide)) rfl rfl ((aCons_len aNil_len)) (da_cons (de_var (pv 0)) da_nil))))
    (dss_one (ds_raise1 rfl (takes_of rfl rfl rfl rfl) T.x_BadValue (hr.mono (by decide)) rfl (da_cons de_int da_nil)))
    dss_nil)
  (dss_cons (ds_set (ps_set (i := 1) scm_long_run.nd rfl (by first | exact .inl rfl | exact .inr rfl) (dc (takes_of rfl rfl rfl rfl) Gclosed_parts (hr.mono (by decide)) rfl rfl ((aCons_len aNil_len)) (da_cons (de_var (pv 0)) da_nil))))
  (dss_cons (ds_if (dt_cmp op_gtA opd_ord (de_cb (pe_callB call_lenA rfl T.b_len (by decide +kernel) (da_cons (de_var (pv 1)) da_nil)) cd_len) de_int rfl)
    (dss_one (ds_raise1 rfl (takes_of rfl rfl rfl rfl) T.x_NoChance (hr.mono (by decide)) rfl (da_cons de_str da_nil)))
    dss_nil)
  (dss_cons (ds_set (ps_set (i := 2) scm_long_run.nd rfl (by first | exact .inl rfl | exact .inr rfl) (de_op op_mulA opd_mulC (de_lst (da_cons (de_tup (da_cons de_int (da_cons de_int da_nil))) da_nil)) (de_cb (pe_callB call_lenA rfl T.b_len (by decide +kernel) (da_cons (de_var (pv 0)) da_nil)) cd_len))))
  (dss_cons (ds_for (ps_for (passes_of rfl) rfl (di_zip (pi_zpB rfl T.b_zip (da_cons (de_ix ix_seq opd_ix (de_var (pv 1)) de_int (fun _ _ => rfl)) (da_cons (dc (takes_of rfl rfl rfl rfl) Gbalance (hr.mono (by decide)) rfl rfl ((aCons_len (aCons_len aNil_len))) (da_cons (de_var (pv 0)) (da_cons (de_ix ix_seq opd_ix (de_var (pv 1)) de_int (fun _ _ => rfl)) da_nil))) da_nil)))) (dgT rfl (dgsC (dg_n (pg_name (i := 3) scm_long_run.nd rfl (by first | exact .inl rfl | exact .inr rfl))) (dgsC (dg_n (pg_name (i := 4) scm_long_run.nd rfl (by first | exact .inl rfl | exact .inr rfl))) dgs_nil (fun a b => pgs_cons a b)) (fun a b => pgs_cons a b)) (fun a => pg_tup rfl a) (fun a => pg_lst rfl a))
    (dss_one (ds_put (ps_asg (de_var (pv 4)) (pg_sub (de_var (pv 2)) (de_var (pv 3)) set_list)) sd_set))))
  (dss_one (ds_ret (de_cb (pe_callTy call_tuple_of rfl T.b_tuple (by decide +kernel) (da_cons (de_var (pv 2)) da_nil)) cd_tuple)))))))))
abbrev sm_law_reach : Stmt := topS 53
theorem scm_law_reach : FnScope ["chain", "start", "stops", "made", "waiting", "k", "one", "j"] ["chain", "start", "stops"] (defScope sm_law_reach) := ⟨rfl, rfl, rfl, by decide +kernel, rfl, by decide +kernel, by decide +kernel⟩
theorem goodm_law_reach (T : Tx P w K mg) (D : DefAt K mg "_law_reach" "_law_reach" sm_law_reach ["chain", "start", "stops"])  : Good P w K mg base "_law_reach" 1 ["chain", "start", "stops"] m_law_reach :=
  (D.good (N := ["chain", "start", "stops", "made", "waiting", "k", "one", "j"]) scm_law_reach fun f cdv A outer s H E hr =>
  (dss_cons (ds_set (ps_set (i := 3) scm_law_reach.nd rfl (by first | exact .inl rfl | exact .inr rfl) (de_cell (da_cons (de_var (pv 1)) da_nil))))
  (dss_cons (ds_set (ps_set (i := 4) scm_law_reach.nd rfl (by first | exact .inl rfl | exact .inr rfl) (de_cell (da_cons (de_var (pv 1)) da_nil))))
  (dss_cons (ds_for (ps_for (passes_of rfl) rfl (di_rg1 (pi_range1 rfl T.b_range (da_cons (de_op op_addA opd_add (de_cb (pe_callB call_lenA rfl T.b_len (by decide +kernel) (da_cons (de_var (pv 0)) da_nil)) cd_len) de_int) da_nil))) (dg_n (pg_name (i := 5) scm_law_reach.nd rfl (by first | exact .inl rfl | exact .inr rfl)))
    (dss_cons (ds_if (dt_cmp (op_eqA (hu_of64 hr)) opd_eqA (de_cb (pe_callB call_lenA rfl T.b_len (by decide +kernel) (da_cons (de_var (pv 4)) da_nil)) cd_len) de_int rfl)
      (dss_one ds_break)
      dss_nil)
    (dss_cons (ds_set (ps_set (i := 6) scm_law_reach.nd rfl (by first | exact .inl rfl | exact .inr rfl) (de_bm0 (pe_bm0 PySem.F.plainAttrs_list PySem.F.slot_list_pop PySem.F.type_list_pop mt_pop (de_var (pv 4))) md_pop)))
    (dss_one (ds_if (dt_cmp op_notInA opd_in (de_var (pv 6)) (de_var (pv 2)) rfl)
      (dss_one (ds_for (ps_for (passes_of rfl) rfl (di_rg1 (pi_range1 rfl T.b_range (da_cons (de_cb (pe_callB call_lenA rfl T.b_len (by decide +kernel) (da_cons (de_var (pv 0)) da_nil)) cd_len) da_nil))) (dg_n (pg_name (i := 7) scm_law_reach.nd rfl (by first | exact .inl rfl | exact .inr rfl)))
        (dss_one (ds_if (PW.pt (dw_and (dt_cmp op_gtA opd_ord (de_ix ix_seq opd_ix (de_ix ix_seq opd_ix (de_var (pv 0)) (de_var (pv 6)) (fun _ _ => rfl)) (de_var (pv 7)) (fun _ _ => rfl)) de_int rfl) (dw_and1 (dt_cmp op_notInA opd_in (de_var (pv 7)) (de_var (pv 3)) rfl))))
          (dss_cons (ds_drop (de_bm (pe_bm PySem.F.plainAttrs_list PySem.F.slot_list_append PySem.F.type_list_append mt_append (de_var (pv 3)) (da_cons (de_var (pv 7)) da_nil)) md_app))
          (dss_one (ds_drop (de_bm (pe_bm PySem.F.plainAttrs_list PySem.F.slot_list_append PySem.F.type_list_append mt_append (de_var (pv 4)) (da_cons (de_var (pv 7)) da_nil)) md_app))))
          dss_nil)))))
      dss_nil))))))
  (dss_one (ds_ret (de_var (pv 3))))))))
abbrev sm_law_closed_parts : Stmt := topS 55
theorem scm_law_closed_parts : FnScope ["chain", "made", "s", "one", "t"] ["chain"] (defScope sm_law_closed_parts) := ⟨rfl, rfl, rfl, by decide +kernel, rfl, by decide +kernel, by decide +kernel⟩
theorem goodm_law_closed_parts (T : Tx P w K mg) (D : DefAt K mg "_law_closed_parts" "_law_closed_parts" sm_law_closed_parts ["chain"]) (G_law_reach : Good P w K mg base "_law_reach" 1 ["chain", "start", "stops"] m_law_reach) : Good P w K mg base "_law_closed_parts" 2 ["chain"] m_law_closed_parts :=
  (D.good (N := ["chain", "made", "s", "one", "t"]) scm_law_closed_parts fun f cdv A outer s H E hr =>
  (dss_cons (ds_set (ps_set (i := 1) scm_law_closed_parts.nd rfl (by first | exact .inl rfl | exact .inr rfl) (de_cell da_nil)))
  (dss_cons (ds_for (ps_for (passes_of rfl) rfl (di_rg1 (pi_range1 rfl T.b_range (da_cons (de_cb (pe_callB call_lenA rfl T.b_len (by decide +kernel) (da_cons (de_var (pv 0)) da_nil)) cd_len) da_nil))) (dg_n (pg_name (i := 2) scm_law_closed_parts.nd rfl (by first | exact .inl rfl | exact .inr rfl)))
    (dss_cons (ds_set (ps_set (i := 3) scm_law_closed_parts.nd rfl (by first | exact .inl rfl | exact .inr rfl) (de_cb (pe_callB (call_sortA rfl) rfl T.b_sorted (by decide +kernel) (da_cons (dc (takes_of rfl rfl rfl rfl) G_law_reach (hr.mono (by decide)) rfl rfl ((aCons_len (aCons_len (aCons_len aNil_len)))) (da_cons (de_var (pv 0)) (da_cons (de_var (pv 2)) (da_cons (de_lst da_nil) da_nil)))) da_nil)) cd_sort)))
    (dss_one (ds_if (PW.pt (dw_and (dt_cmp (op_eqA (hu_of64 hr)) opd_eqA (de_cb (pe_callB call_lenA rfl T.b_len (by decide +kernel) (da_cons (de_lc (by decide) (pe_lc (own := [("t", 4)]) rfl scm_law_closed_parts.nd (di_seq (de_var (pv 3))) (blkOk_by (N := ["chain", "made", "s", "one", "t"]) (sc := (defScope sm_law_closed_parts)) (by decide +kernel)) (fun _ _ _ _ _ => (dg_n (pg_name (i := 4) scm_law_closed_parts.nd rfl (by first | exact .inl rfl | exact .inr rfl)))) (fun _ _ _ _ _ => (dts_one (dt_cmp (op_neA (hu_of64 hr)) opd_eqA (de_cb (pe_callB (call_sortA rfl) rfl T.b_sorted (by decide +kernel) (da_cons (dc takes0 G_law_reach (hr.mono (by decide)) rfl rfl ((aCons_len (aCons_len (aCons_len aNil_len)))) (da_cons (de_var (pv 0)) (da_cons (de_var (pv 4)) (da_cons (de_lst da_nil) da_nil)))) da_nil)) cd_sort) (de_var (pv 3)) rfl))) (fun _ _ _ _ _ => (de_var (pv 4))))) da_nil)) cd_len) de_int rfl) (dw_and1 (dt_cmp (op_notInZ (hu_of65 hr)) opd_inZ (de_var (pv 3)) (de_var (pv 1)) rfl))))
      (dss_one (ds_drop (de_bm (pe_bm PySem.F.plainAttrs_list PySem.F.slot_list_append PySem.F.type_list_append mt_append (de_var (pv 1)) (da_cons (de_var (pv 3)) da_nil)) md_app)))
      dss_nil)))))
  (dss_one (ds_ret (de_var (pv 1)))))))
abbrev sm_law_so : Stmt := topS 37
theorem scm_law_so : FnScope ["found", "meant", "k"] ["found", "meant"] (defScope sm_law_so) := ⟨rfl, rfl, rfl, by decide +kernel, rfl, by decide +kernel, by decide +kernel⟩
theorem goodm_law_so (T : Tx P w K mg) (D : DefAt K mg "_law_so" "_law_so" sm_law_so ["found", "meant"])  : ∀ n, Good P w K mg base "_law_so" (1 + n) ["found", "meant"] (m_law_so n)
  | 0 => (D.none scm_law_so).mono (by omega)
  | n + 1 => have G := goodm_law_so T D  n
  (D.good (N := ["found", "meant", "k"]) scm_law_so fun f cdv A outer s H E hr =>
  (dss_cons (ds_if (dt_cmp op_isN opd_isn (de_var (pv 1)) de_non rfl)
    (dss_one (ds_ret (de_cmp op_isN opd_isn (de_var (pv 0)) de_non rfl)))
    dss_nil)
  (dss_cons (ds_if (dt_tru (de_cb (pe_callB call_isi rfl T.b_isinstance (by decide +kernel) (da_cons (de_var (pv 1)) (da_cons (de_bty rfl T.b_tuple (by decide +kernel)) da_nil))) cd_is))
    (dss_cons (ds_if (PW.pt (dw_or (dt_not (dt_tru (de_cb (pe_callB call_isi rfl T.b_isinstance (by decide +kernel) (da_cons (de_var (pv 0)) (da_cons (de_bty rfl T.b_tuple (by decide +kernel)) da_nil))) cd_is))) (dw_or1 (dt_cmp (op_neA (hu_of64 hr)) opd_eqA (de_cb (pe_callB call_lenA rfl T.b_len (by decide +kernel) (da_cons (de_var (pv 0)) da_nil)) cd_len) (de_cb (pe_callB call_lenA rfl T.b_len (by decide +kernel) (da_cons (de_var (pv 1)) da_nil)) cd_len) rfl))))
      (dss_one (ds_ret de_bl))
      dss_nil)
    (dss_cons (ds_for (ps_for (passes_of rfl) rfl (di_rg1 (pi_range1 rfl T.b_range (da_cons (de_cb (pe_callB call_lenA rfl T.b_len (by decide +kernel) (da_cons (de_var (pv 1)) da_nil)) cd_len) da_nil))) (dg_n (pg_name (i := 2) scm_law_so.nd rfl (by first | exact .inl rfl | exact .inr rfl)))
      (dss_one (ds_if (dt_not (dt_tru (dc (takes_of rfl rfl rfl rfl) G (hr.mono (by first | omega | (simp only [Nat.add_eq]; omega))) rfl rfl ((aCons_len (aCons_len aNil_len))) (da_cons (de_ix ix_seq opd_ix (de_var (pv 0)) (de_var (pv 2)) (fun _ _ => rfl)) (da_cons (de_ix ix_seq opd_ix (de_var (pv 1)) (de_var (pv 2)) (fun _ _ => rfl)) da_nil)))))
        (dss_one (ds_ret de_bl))
        dss_nil))))
    (dss_one (ds_ret de_bl))))
    dss_nil)
  (dss_cons (ds_if (PW.pt (dw_or (dt_tru (de_cb (pe_callB call_isi rfl T.b_isinstance (by decide +kernel) (da_cons (de_var (pv 1)) (da_cons (de_bty rfl T.b_bool (by decide +kernel)) da_nil))) cd_is)) (dw_or1 (dt_tru (de_cb (pe_callB call_isi rfl T.b_isinstance (by decide +kernel) (da_cons (de_var (pv 0)) (da_cons (de_bty rfl T.b_bool (by decide +kernel)) da_nil))) cd_is)))))
    (dss_one (ds_ret (de_and (de_cb (pe_callB call_isi rfl T.b_isinstance (by decide +kernel) (da_cons (de_var (pv 1)) (da_cons (de_bty rfl T.b_bool (by decide +kernel)) da_nil))) cd_is) (de_and (de_cb (pe_callB call_isi rfl T.b_isinstance (by decide +kernel) (da_cons (de_var (pv 0)) (da_cons (de_bty rfl T.b_bool (by decide +kernel)) da_nil))) cd_is) (de_one (de_cmp (op_eqA (hu_of64 hr)) opd_eqA (de_var (pv 0)) (de_var (pv 1)) rfl))))))
    dss_nil)
  (dss_cons (ds_if (dt_tru (de_cb (pe_callB call_isi rfl T.b_isinstance (by decide +kernel) (da_cons (de_var (pv 1)) (da_cons (de_bty rfl T.b_int (by decide +kernel)) da_nil))) cd_is))
    (dss_one (ds_ret (de_and (de_cb (pe_callB call_isi rfl T.b_isinstance (by decide +kernel) (da_cons (de_var (pv 0)) (da_cons (de_bty rfl T.b_int (by decide +kernel)) da_nil))) cd_is) (de_one (de_cmp (op_eqA (hu_of64 hr)) opd_eqA (de_var (pv 0)) (de_var (pv 1)) rfl)))))
    dss_nil)
  (dss_one (ds_ret (de_and (de_cb (pe_callB call_isi rfl T.b_isinstance (by decide +kernel) (da_cons (de_var (pv 1)) (da_cons (de_bty rfl T.b_str (by decide +kernel)) da_nil))) cd_is) (de_and (de_cb (pe_callB call_isi rfl T.b_isinstance (by decide +kernel) (da_cons (de_var (pv 0)) (da_cons (de_bty rfl T.b_str (by decide +kernel)) da_nil))) cd_is) (de_one (de_cmp (op_eqA (hu_of64 hr)) opd_eqA (de_var (pv 0)) (de_var (pv 1)) rfl)))))))))))
abbrev sm_law_listed : Stmt := topS 41
theorem scm_law_listed : FnScope ["value", "one"] ["value"] (defScope sm_law_listed) := ⟨rfl, rfl, rfl, by decide +kernel, rfl, by decide +kernel, by decide +kernel⟩
theorem goodm_law_listed (T : Tx P w K mg) (D : DefAt K mg "_law_listed" "_law_listed" sm_law_listed ["value"])  : ∀ n, Good P w K mg base "_law_listed" (1 + n) ["value"] (m_law_listed n)
  | 0 => (D.none scm_law_listed).mono (by omega)
  | n + 1 => have G := goodm_law_listed T D  n
  (D.good (N := ["value", "one"]) scm_law_listed fun f cdv A outer s H E hr =>
  (dss_cons (ds_if (dt_tru (de_cb (pe_callB call_isi rfl T.b_isinstance (by decide +kernel) (da_cons (de_var (pv 0)) (da_cons (de_bty rfl T.b_tuple (by decide +kernel)) da_nil))) cd_is))
    (dss_one (ds_ret (de_lc (by decide) (pe_lc (own := [("one", 1)]) rfl scm_law_listed.nd (di_seq (de_var (pv 0))) (blkOk_by (N := ["value", "one"]) (sc := (defScope sm_law_listed)) (by decide +kernel)) (fun _ _ _ _ _ => (dg_n (pg_name (i := 1) scm_law_listed.nd rfl (by first | exact .inl rfl | exact .inr rfl)))) (fun _ _ _ _ _ => dts_nil) (fun _ _ _ _ _ => (dc takes0 G (hr.mono (by first | omega | (simp only [Nat.add_eq]; omega))) rfl rfl ((aCons_len aNil_len)) (da_cons (de_var (pv 1)) da_nil)))))))
    dss_nil)
  (dss_one (ds_ret (de_var (pv 0))))))
abbrev sm_law_handed : Stmt := topS 42
theorem scm_law_handed : FnScope ["row", "spot", "value"] ["row", "spot", "value"] (defScope sm_law_handed) := ⟨rfl, rfl, rfl, by decide +kernel, rfl, by decide +kernel, by decide +kernel⟩
theorem goodm_law_handed (T : Tx P w K mg) (D : DefAt K mg "_law_handed" "_law_handed" sm_law_handed ["row", "spot", "value"]) (G_law_listed : ∀ n, Good P w K mg base "_law_listed" (1 + n) ["value"] (m_law_listed n)) (G_law_take : Good P w K mg base "_law_take" 2 ["row", "spot", "limit"] m_law_take) : Good P w K mg base "_law_handed" 26 ["row", "spot", "value"] m_law_handed :=
  (D.good (N := ["row", "spot", "value"]) scm_law_handed fun f cdv A outer s H E hr =>
  (dss_one (ds_ret (de_if (dt_cmp (op_eqA (hu_of64 hr)) opd_eqA (dc (takes_of rfl rfl rfl rfl) G_law_take (hr.mono (by decide)) rfl rfl ((aCons_len (aCons_len (aCons_len aNil_len)))) (da_cons (de_var (pv 0)) (da_cons (de_var (pv 1)) (da_cons de_int da_nil)))) de_int rfl) (dc (takes_of rfl rfl rfl rfl) (G_law_listed 24) (hr.mono (by decide)) rfl rfl ((aCons_len aNil_len)) (da_cons (de_var (pv 2)) da_nil)) (de_var (pv 2))))))
abbrev sm_law_div : Stmt := topS 49
theorem scm_law_div : FnScope ["one", "other"] ["one", "other"] (defScope sm_law_div) := ⟨rfl, rfl, rfl, by decide +kernel, rfl, by decide +kernel, by decide +kernel⟩
theorem goodm_law_div (T : Tx P w K mg) (D : DefAt K mg "_law_div" "_law_div" sm_law_div ["one", "other"]) (G_law_red : ∀ n, Good P w K mg base "_law_red" (2 + n) ["n", "d"] (m_law_red n)) : Good P w K mg base "_law_div" 27 ["one", "other"] m_law_div :=
  (D.good (N := ["one", "other"]) scm_law_div fun f cdv A outer s H E hr =>
  (dss_one (ds_ret (dc (takes_of rfl rfl rfl rfl) (G_law_red 24) (hr.mono (by decide)) rfl rfl ((aCons_len (aCons_len aNil_len))) (da_cons (de_op op_mulA opd_mul (de_ix ix_seq opd_ix (de_var (pv 0)) de_int (fun _ _ => rfl)) (de_ix ix_seq opd_ix (de_var (pv 1)) de_int (fun _ _ => rfl))) (da_cons (de_op op_mulA opd_mul (de_ix ix_seq opd_ix (de_var (pv 0)) de_int (fun _ _ => rfl)) (de_ix ix_seq opd_ix (de_var (pv 1)) de_int (fun _ _ => rfl))) da_nil))))))
abbrev sm_law_sub : Stmt := topS 47
theorem scm_law_sub : FnScope ["one", "other"] ["one", "other"] (defScope sm_law_sub) := ⟨rfl, rfl, rfl, by decide +kernel, rfl, by decide +kernel, by decide +kernel⟩
theorem goodm_law_sub (T : Tx P w K mg) (D : DefAt K mg "_law_sub" "_law_sub" sm_law_sub ["one", "other"]) (G_law_red : ∀ n, Good P w K mg base "_law_red" (2 + n) ["n", "d"] (m_law_red n)) : Good P w K mg base "_law_sub" 27 ["one", "other"] m_law_sub :=
  (D.good (N := ["one", "other"]) scm_law_sub fun f cdv A outer s H E hr =>
  (dss_one (ds_ret (dc (takes_of rfl rfl rfl rfl) (G_law_red 24) (hr.mono (by decide)) rfl rfl ((aCons_len (aCons_len aNil_len))) (da_cons (de_op op_sub opd_sub (de_op op_mulA opd_mul (de_ix ix_seq opd_ix (de_var (pv 0)) de_int (fun _ _ => rfl)) (de_ix ix_seq opd_ix (de_var (pv 1)) de_int (fun _ _ => rfl))) (de_op op_mulA opd_mul (de_ix ix_seq opd_ix (de_var (pv 1)) de_int (fun _ _ => rfl)) (de_ix ix_seq opd_ix (de_var (pv 0)) de_int (fun _ _ => rfl)))) (da_cons (de_op op_mulA opd_mul (de_ix ix_seq opd_ix (de_var (pv 0)) de_int (fun _ _ => rfl)) (de_ix ix_seq opd_ix (de_var (pv 1)) de_int (fun _ _ => rfl))) da_nil))))))
abbrev sm_law_mul : Stmt := topS 48
theorem scm_law_mul : FnScope ["one", "other"] ["one", "other"] (defScope sm_law_mul) := ⟨rfl, rfl, rfl, by decide +kernel, rfl, by decide +kernel, by decide +kernel⟩
theorem goodm_law_mul (T : Tx P w K mg) (D : DefAt K mg "_law_mul" "_law_mul" sm_law_mul ["one", "other"]) (G_law_red : ∀ n, Good P w K mg base "_law_red" (2 + n) ["n", "d"] (m_law_red n)) : Good P w K mg base "_law_mul" 27 ["one", "other"] m_law_mul :=
  (D.good (N := ["one", "other"]) scm_law_mul fun f cdv A outer s H E hr =>
  (dss_one (ds_ret (dc (takes_of rfl rfl rfl rfl) (G_law_red 24) (hr.mono (by decide)) rfl rfl ((aCons_len (aCons_len aNil_len))) (da_cons (de_op op_mulA opd_mul (de_ix ix_seq opd_ix (de_var (pv 0)) de_int (fun _ _ => rfl)) (de_ix ix_seq opd_ix (de_var (pv 1)) de_int (fun _ _ => rfl))) (da_cons (de_op op_mulA opd_mul (de_ix ix_seq opd_ix (de_var (pv 0)) de_int (fun _ _ => rfl)) (de_ix ix_seq opd_ix (de_var (pv 1)) de_int (fun _ _ => rfl))) da_nil))))))
abbrev sm_law_solve : Stmt := topS 51
theorem scm_law_solve : FnScope ["rows", "many", "made", "k", "at", "j", "held", "top", "by", "one", "i"] ["rows"] (defScope sm_law_solve) := ⟨rfl, rfl, rfl, by decide +kernel, rfl, by decide +kernel, by decide +kernel⟩
theorem goodm_law_solve (T : Tx P w K mg) (D : DefAt K mg "_law_solve" "_law_solve" sm_law_solve ["rows"]) (G_law_div : Good P w K mg base "_law_div" 27 ["one", "other"] m_law_div) (G_law_sub : Good P w K mg base "_law_sub" 27 ["one", "other"] m_law_sub) (G_law_mul : Good P w K mg base "_law_mul" 27 ["one", "other"] m_law_mul) : Good P w K mg base "_law_solve" 28 ["rows"] m_law_solve :=
  (D.good (N := ["rows", "many", "made", "k", "at", "j", "held", "top", "by", "one", "i"]) scm_law_solve fun f cdv A outer s H E hr =>
  (dss_cons (ds_set (ps_set (i := 1) scm_law_solve.nd rfl (by first | exact .inl rfl | exact .inr rfl) (de_cb (pe_callB call_lenA rfl T.b_len (by decide +kernel) (da_cons (de_var (pv 0)) da_nil)) cd_len)))
  (dss_cons (ds_set (ps_set (i := 2) scm_law_solve.nd rfl (by first | exact .inl rfl | exact .inr rfl) (de_lcC (by decide) (pe_lc (own := [("one", 9)]) rfl scm_law_solve.nd (di_seq (de_var (pv 0))) (blkOk_by (N := ["rows", "many", "made", "k", "at", "j", "held", "top", "by", "one", "i"]) (sc := (defScope sm_law_solve)) (by decide +kernel)) (fun _ _ _ _ _ => (dg_n (pg_name (i := 9) scm_law_solve.nd rfl (by first | exact .inl rfl | exact .inr rfl)))) (fun _ _ _ _ _ => dts_nil) (fun _ _ _ _ _ => (de_cb (pe_callTy call_list_of rfl T.b_list (by decide +kernel) (da_cons (de_var (pv 9)) da_nil)) cd_list))))))
  (dss_cons (ds_for (ps_for (passes_of rfl) rfl (di_rg1 (pi_range1 rfl T.b_range (da_cons (de_var (pv 1)) da_nil))) (dg_n (pg_name (i := 3) scm_law_solve.nd rfl (by first | exact .inl rfl | exact .inr rfl)))
    (dss_cons (ds_set (ps_set (i := 4) scm_law_solve.nd rfl (by first | exact .inl rfl | exact .inr rfl) (de_var (pv 3))))
    (dss_cons (ds_for (ps_for (passes_of rfl) rfl (di_rg2 (pi_range2 rfl T.b_range (da_cons (de_var (pv 3)) (da_cons (de_var (pv 1)) da_nil)))) (dg_n (pg_name (i := 5) scm_law_solve.nd rfl (by first | exact .inl rfl | exact .inr rfl)))
      (dss_one (ds_if (dt_cmp (op_neA (hu_of64 hr)) opd_eqA (de_ix ix_seq opd_ix (de_ix ix_seq opd_ix (de_ix ix_seq opd_ix (de_var (pv 2)) (de_var (pv 5)) (fun _ _ => rfl)) (de_var (pv 3)) (fun _ _ => rfl)) de_int (fun _ _ => rfl)) de_int rfl)
        (dss_cons (ds_set (ps_set (i := 4) scm_law_solve.nd rfl (by first | exact .inl rfl | exact .inr rfl) (de_var (pv 5))))
        (dss_one ds_break))
        dss_nil))))
    (dss_cons (ds_set (ps_set (i := 6) scm_law_solve.nd rfl (by first | exact .inl rfl | exact .inr rfl) (de_ix ix_seq opd_ix (de_var (pv 2)) (de_var (pv 3)) (fun _ _ => rfl))))
    (dss_cons (ds_put (ps_asg (de_ix ix_seq opd_ix (de_var (pv 2)) (de_var (pv 4)) (fun _ _ => rfl)) (pg_sub (de_var (pv 2)) (de_var (pv 3)) set_list)) sd_set)
    (dss_cons (ds_put (ps_asg (de_var (pv 6)) (pg_sub (de_var (pv 2)) (de_var (pv 4)) set_list)) sd_set)
    (dss_cons (ds_set (ps_set (i := 7) scm_law_solve.nd rfl (by first | exact .inl rfl | exact .inr rfl) (de_ix ix_seq opd_ix (de_ix ix_seq opd_ix (de_var (pv 2)) (de_var (pv 3)) (fun _ _ => rfl)) (de_var (pv 3)) (fun _ _ => rfl))))
    (dss_cons (ds_put (ps_asg (de_lc (by decide) (pe_lc (own := [("one", 9)]) rfl scm_law_solve.nd (di_seq (de_ix ix_seq opd_ix (de_var (pv 2)) (de_var (pv 3)) (fun _ _ => rfl))) (blkOk_by (N := ["rows", "many", "made", "k", "at", "j", "held", "top", "by", "one", "i"]) (sc := (defScope sm_law_solve)) (by decide +kernel)) (fun _ _ _ _ _ => (dg_n (pg_name (i := 9) scm_law_solve.nd rfl (by first | exact .inl rfl | exact .inr rfl)))) (fun _ _ _ _ _ => dts_nil) (fun _ _ _ _ _ => (dc takes0 G_law_div (hr.mono (by decide)) rfl rfl ((aCons_len (aCons_len aNil_len))) (da_cons (de_var (pv 9)) (da_cons (de_var (pv 7)) da_nil)))))) (pg_sub (de_var (pv 2)) (de_var (pv 3)) set_list)) sd_set)
    (dss_one (ds_for (ps_for (passes_of rfl) rfl (di_rg1 (pi_range1 rfl T.b_range (da_cons (de_var (pv 1)) da_nil))) (dg_n (pg_name (i := 5) scm_law_solve.nd rfl (by first | exact .inl rfl | exact .inr rfl)))
      (dss_one (ds_if (PW.pt (dw_and (dt_cmp (op_neA (hu_of64 hr)) opd_eqA (de_var (pv 5)) (de_var (pv 3)) rfl) (dw_and1 (dt_cmp (op_neA (hu_of64 hr)) opd_eqA (de_ix ix_seq opd_ix (de_ix ix_seq opd_ix (de_ix ix_seq opd_ix (de_var (pv 2)) (de_var (pv 5)) (fun _ _ => rfl)) (de_var (pv 3)) (fun _ _ => rfl)) de_int (fun _ _ => rfl)) de_int rfl))))
        (dss_cons (ds_set (ps_set (i := 8) scm_law_solve.nd rfl (by first | exact .inl rfl | exact .inr rfl) (de_ix ix_seq opd_ix (de_ix ix_seq opd_ix (de_var (pv 2)) (de_var (pv 5)) (fun _ _ => rfl)) (de_var (pv 3)) (fun _ _ => rfl))))
        (dss_one (ds_put (ps_asg (de_lc (by decide) (pe_lc (own := [("i", 10)]) rfl scm_law_solve.nd (di_rg1 (pi_range1 rfl T.b_range (da_cons (de_op op_addA opd_add (de_var (pv 1)) de_int) da_nil))) (blkOk_by (N := ["rows", "many", "made", "k", "at", "j", "held", "top", "by", "one", "i"]) (sc := (defScope sm_law_solve)) (by decide +kernel)) (fun _ _ _ _ _ => (dg_n (pg_name (i := 10) scm_law_solve.nd rfl (by first | exact .inl rfl | exact .inr rfl)))) (fun _ _ _ _ _ => dts_nil) (fun _ _ _ _ _ => (dc takes0 G_law_sub (hr.mono (by decide)) rfl rfl ((aCons_len (aCons_len aNil_len))) (da_cons (de_ix ix_seq opd_ix (de_ix ix_seq opd_ix (de_var (pv 2)) (de_var (pv 5)) (fun _ _ => rfl)) (de_var (pv 10)) (fun _ _ => rfl)) (da_cons (dc takes0 G_law_mul (hr.mono (by decide)) rfl rfl ((aCons_len (aCons_len aNil_len))) (da_cons (de_var (pv 8)) (da_cons (de_ix ix_seq opd_ix (de_ix ix_seq opd_ix (de_var (pv 2)) (de_var (pv 3)) (fun _ _ => rfl)) (de_var (pv 10)) (fun _ _ => rfl)) da_nil))) da_nil)))))) (pg_sub (de_var (pv 2)) (de_var (pv 5)) set_list)) sd_set)))
        dss_nil))))))))))))))
  (dss_one (ds_ret (de_lc (by decide) (pe_lc (own := [("one", 9)]) rfl scm_law_solve.nd (di_seq (de_var (pv 2))) (blkOk_by (N := ["rows", "many", "made", "k", "at", "j", "held", "top", "by", "one", "i"]) (sc := (defScope sm_law_solve)) (by decide +kernel)) (fun _ _ _ _ _ => (dg_n (pg_name (i := 9) scm_law_solve.nd rfl (by first | exact .inl rfl | exact .inr rfl)))) (fun _ _ _ _ _ => dts_nil) (fun _ _ _ _ _ => (de_ix ix_seq opd_ix (de_var (pv 9)) (de_var (pv 1)) (fun _ _ => rfl)))))))))))
abbrev sm_law_shares : Stmt := topS 54
theorem scm_law_shares : FnScope ["chain", "s", "one"] ["chain", "s"] (defScope sm_law_shares) := ⟨rfl, rfl, rfl, by decide +kernel, rfl, by decide +kernel, by decide +kernel⟩
theorem goodm_law_shares (T : Tx P w K mg) (D : DefAt K mg "_law_shares" "_law_shares" sm_law_shares ["chain", "s"]) (G_law_red : ∀ n, Good P w K mg base "_law_red" (2 + n) ["n", "d"] (m_law_red n)) : Good P w K mg base "_law_shares" 27 ["chain", "s"] m_law_shares :=
  (D.good (N := ["chain", "s", "one"]) scm_law_shares fun f cdv A outer s H E hr =>
  (dss_one (ds_ret (de_lc (by decide) (pe_lc (own := [("one", 2)]) rfl scm_law_shares.nd (di_seq (de_ix ix_seq opd_ix (de_var (pv 0)) (de_var (pv 1)) (fun _ _ => rfl))) (blkOk_by (N := ["chain", "s", "one"]) (sc := (defScope sm_law_shares)) (by decide +kernel)) (fun _ _ _ _ _ => (dg_n (pg_name (i := 2) scm_law_shares.nd rfl (by first | exact .inl rfl | exact .inr rfl)))) (fun _ _ _ _ _ => dts_nil) (fun _ _ _ _ _ => (dc takes0 (G_law_red 24) (hr.mono (by decide)) rfl rfl ((aCons_len (aCons_len aNil_len))) (da_cons (de_var (pv 2)) (da_cons (de_cb (pe_callB (call_sumB rfl) rfl T.b_sum (by decide +kernel) (da_cons (de_ix ix_seq opd_ix (de_var (pv 0)) (de_var (pv 1)) (fun _ _ => rfl)) da_nil)) cd_sumA) da_nil)))))))))
abbrev sm_law_long_run : Stmt := topS 56
theorem scm_law_long_run : FnScope ["chain", "many", "rows", "j", "one", "s", "share", "home"] ["chain"] (defScope sm_law_long_run) := ⟨rfl, rfl, rfl, by decide +kernel, rfl, by decide +kernel, by decide +kernel⟩
theorem goodm_law_long_run (T : Tx P w K mg) (D : DefAt K mg "_law_long_run" "_law_long_run" sm_law_long_run ["chain"]) (G_law_solve : Good P w K mg base "_law_solve" 28 ["rows"] m_law_solve) (G_law_closed_parts : Good P w K mg base "_law_closed_parts" 2 ["chain"] m_law_closed_parts) (G_law_shares : Good P w K mg base "_law_shares" 27 ["chain", "s"] m_law_shares) (G_law_sub : Good P w K mg base "_law_sub" 27 ["one", "other"] m_law_sub) : Good P w K mg base "_law_long_run" 29 ["chain"] m_law_long_run :=
  (D.good (N := ["chain", "many", "rows", "j", "one", "s", "share", "home"]) scm_law_long_run fun f cdv A outer s H E hr =>
  (dss_cons (ds_set (ps_set (i := 1) scm_law_long_run.nd rfl (by first | exact .inl rfl | exact .inr rfl) (de_cb (pe_callB call_lenA rfl T.b_len (by decide +kernel) (da_cons (de_var (pv 0)) da_nil)) cd_len)))
  (dss_cons (ds_set (ps_set (i := 2) scm_law_long_run.nd rfl (by first | exact .inl rfl | exact .inr rfl) (de_cell da_nil)))
  (dss_cons (ds_for (ps_for (passes_of rfl) rfl (di_rg1 (pi_range1 rfl T.b_range (da_cons (de_var (pv 1)) da_nil))) (dg_n (pg_name (i := 3) scm_law_long_run.nd rfl (by first | exact .inl rfl | exact .inr rfl)))
    (dss_cons (ds_set (ps_set (i := 4) scm_law_long_run.nd rfl (by first | exact .inl rfl | exact .inr rfl) (de_cell da_nil)))
    (dss_cons (ds_for (ps_for (passes_of rfl) rfl (di_rg1 (pi_range1 rfl T.b_range (da_cons (de_var (pv 1)) da_nil))) (dg_n (pg_name (i := 5) scm_law_long_run.nd rfl (by first | exact .inl rfl | exact .inr rfl)))
      (dss_cons (ds_set (ps_set (i := 6) scm_law_long_run.nd rfl (by first | exact .inl rfl | exact .inr rfl) (de_ix ix_seq opd_ix (dc (takes_of rfl rfl rfl rfl) G_law_shares (hr.mono (by decide)) rfl rfl ((aCons_len (aCons_len aNil_len))) (da_cons (de_var (pv 0)) (da_cons (de_var (pv 5)) da_nil))) (de_var (pv 3)) (fun _ _ => rfl))))
      (dss_one (ds_drop (de_bm (pe_bm PySem.F.plainAttrs_list PySem.F.slot_list_append PySem.F.type_list_append mt_append (de_var (pv 4)) (da_cons (de_if (dt_cmp (op_eqA (hu_of64 hr)) opd_eqA (de_var (pv 5)) (de_var (pv 3)) rfl) (dc (takes_of rfl rfl rfl rfl) G_law_sub (hr.mono (by decide)) rfl rfl ((aCons_len (aCons_len aNil_len))) (da_cons (de_var (pv 6)) (da_cons (de_tup (da_cons de_int (da_cons de_int da_nil))) da_nil))) (de_var (pv 6))) da_nil)) md_app))))))
    (dss_one (ds_drop (de_bm (pe_bm PySem.F.plainAttrs_list PySem.F.slot_list_append PySem.F.type_list_append mt_append (de_var (pv 2)) (da_cons (de_op op_addA opd_add (de_var (pv 4)) (de_lst (da_cons (de_tup (da_cons de_int (da_cons de_int da_nil))) da_nil))) da_nil)) md_app)))))))
  (dss_cons (ds_set (ps_set (i := 7) scm_law_long_run.nd rfl (by first | exact .inl rfl | exact .inr rfl) (de_ix ix_seq opd_ix (de_ix ix_seq opd_ix (dc (takes_of rfl rfl rfl rfl) G_law_closed_parts (hr.mono (by decide)) rfl rfl ((aCons_len aNil_len)) (da_cons (de_var (pv 0)) da_nil)) de_int (fun _ _ => rfl)) de_int (fun _ _ => rfl))))
  (dss_cons (ds_put (ps_asg (de_op op_addA opd_add (de_lc (by decide) (pe_lc (own := [("s", 5)]) rfl scm_law_long_run.nd (di_rg1 (pi_range1 rfl T.b_range (da_cons (de_var (pv 1)) da_nil))) (blkOk_by (N := ["chain", "many", "rows", "j", "one", "s", "share", "home"]) (sc := (defScope sm_law_long_run)) (by decide +kernel)) (fun _ _ _ _ _ => (dg_n (pg_name (i := 5) scm_law_long_run.nd rfl (by first | exact .inl rfl | exact .inr rfl)))) (fun _ _ _ _ _ => dts_nil) (fun _ _ _ _ _ => (de_tup (da_cons de_int (da_cons de_int da_nil)))))) (de_lst (da_cons (de_tup (da_cons de_int (da_cons de_int da_nil))) da_nil))) (pg_sub (de_var (pv 2)) (de_var (pv 7)) set_list)) sd_set)
  (dss_one (ds_ret (de_cb (pe_callTy call_tuple_of rfl T.b_tuple (by decide +kernel) (da_cons (dc (takes_of rfl rfl rfl rfl) G_law_solve (hr.mono (by decide)) rfl rfl ((aCons_len aNil_len)) (da_cons (de_var (pv 2)) da_nil)) da_nil)) cd_tuple)))))))))
abbrev sm_law : Stmt := topS 57
theorem scm_law : FnScope ["script", "row", "spot", "chain", "told", "total", "j", "held", "s"] ["script"] (defScope sm_law) := ⟨rfl, rfl, rfl, by decide +kernel, rfl, by decide +kernel, by decide +kernel⟩
theorem goodm_law {cL PL : Addr} (T : Tx P w K mg) (D : DefAtC K mg "law" "law" sm_law ["script"] cL) (TT : TellTxt K mg sm_law_told) (TB : LawTab K mg base cL PL) (G_law_numbers : Good P w K mg base "_law_numbers" 1 ["script"] m_law_numbers) (G_law_chain : Good P w K mg base "_law_chain" 4 ["row", "spot", "most"] m_law_chain) (G_law_add : Good P w K mg base "_law_add" 27 ["one", "other"] m_law_add) (Glong_run : Good P w K mg base "long_run" 6 ["chain"] m_long_run) (G_law_closed_parts : Good P w K mg base "_law_closed_parts" 2 ["chain"] m_law_closed_parts) (G_law_so : ∀ n, Good P w K mg base "_law_so" (1 + n) ["found", "meant"] (m_law_so n)) (G_law_handed : Good P w K mg base "_law_handed" 26 ["row", "spot", "value"] m_law_handed) (G_law_long_run : Good P w K mg base "_law_long_run" 29 ["chain"] m_law_long_run) (G_law_mul : Good P w K mg base "_law_mul" 27 ["one", "other"] m_law_mul) (G_law_shares : Good P w K mg base "_law_shares" 27 ["chain", "s"] m_law_shares) : Good P w K mg base "law" 32 ["script"] m_law :=
  (D.good (N := ["script", "row", "spot", "chain", "told", "total", "j", "held", "s"]) scm_law fun f A outer s H E hr =>
  (dss_cons (ds_set (ps_set (i := 1) scm_law.nd rfl (by first | exact .inl rfl | exact .inr rfl) (dc (takes_of rfl rfl rfl rfl) G_law_numbers (hr.mono (by decide)) rfl rfl ((aCons_len aNil_len)) (da_cons (de_var (pv 0)) da_nil))))
  (dss_cons (ds_set (ps_set (i := 2) scm_law.nd rfl (by first | exact .inl rfl | exact .inr rfl) (de_cell (da_cons de_int da_nil))))
  (dss_cons (ds_set (ps_set (i := 3) scm_law.nd rfl (by first | exact .inl rfl | exact .inr rfl) (dc (takes_of rfl rfl rfl rfl) G_law_chain (hr.mono (by decide)) rfl rfl ((aCons_len (aCons_len (aCons_len aNil_len)))) (da_cons (de_var (pv 1)) (da_cons (de_var (pv 2)) (da_cons de_int da_nil))))))
  (dss_cons (ds_set (ps_set (i := 4) scm_law.nd rfl (by first | exact .inl rfl | exact .inr rfl) (de_told (k := 29) TT TB rfl (by kernel_rfl) (hr.mono (by decide)) (LamX.lamS_by (sc := defScope sm_law) (by decide +kernel)) rfl rfl (fun _ _ _ _ _ => rfl) (fun A outer s H E f c hr => (dc (takes_of rfl rfl rfl rfl) Glong_run (hr.mono (by decide)) rfl rfl ((aCons_len aNil_len)) (da_cons (dc (takes_of rfl rfl rfl rfl) G_law_handed (hr.mono (by decide)) rfl rfl ((aCons_len (aCons_len (aCons_len aNil_len)))) (da_cons (de_var (pv 1)) (da_cons (de_var (pv 2)) (da_cons (de_var (pv 3)) da_nil)))) da_nil))))))
  (dss_cons (ds_if (dt_cmp op_gtA opd_ord (de_cb (pe_callB call_lenA rfl T.b_len (by decide +kernel) (da_cons (dc (takes_of rfl rfl rfl rfl) G_law_closed_parts (hr.mono (by decide)) rfl rfl ((aCons_len aNil_len)) (da_cons (de_var (pv 3)) da_nil)) da_nil)) cd_len) de_int rfl)
    (dss_one (ds_ret (de_cmp (op_eqA (hu_of64 hr)) opd_eqA (de_var (pv 4)) (de_tup (da_cons de_str (da_cons de_str da_nil))) rfl)))
    dss_nil)
  (dss_cons (ds_if (PW.pt (dw_or (dt_cmp (op_neA (hu_of64 hr)) opd_eqA (de_ix ix_seq opd_ix (de_var (pv 4)) de_int (fun _ _ => rfl)) de_str rfl) (dw_or1 (dt_not (dt_tru (dc (takes_of rfl rfl rfl rfl) (G_law_so 24) (hr.mono (by decide)) rfl rfl ((aCons_len (aCons_len aNil_len))) (da_cons (de_ix ix_seq opd_ix (de_var (pv 4)) de_int (fun _ _ => rfl)) (da_cons (dc (takes_of rfl rfl rfl rfl) G_law_long_run (hr.mono (by decide)) rfl rfl ((aCons_len aNil_len)) (da_cons (de_var (pv 3)) da_nil)) da_nil))))))))
    (dss_one (ds_ret de_bl))
    dss_nil)
  (dss_cons (ds_set (ps_set (i := 5) scm_law.nd rfl (by first | exact .inl rfl | exact .inr rfl) (de_tup (da_cons de_int (da_cons de_int da_nil)))))
  (dss_cons (ds_for (ps_for (passes_of rfl) rfl (di_rg1 (pi_range1 rfl T.b_range (da_cons (de_cb (pe_callB call_lenA rfl T.b_len (by decide +kernel) (da_cons (de_var (pv 3)) da_nil)) cd_len) da_nil))) (dg_n (pg_name (i := 6) scm_law.nd rfl (by first | exact .inl rfl | exact .inr rfl)))
    (dss_cons (ds_set (ps_set (i := 7) scm_law.nd rfl (by first | exact .inl rfl | exact .inr rfl) (de_tup (da_cons de_int (da_cons de_int da_nil)))))
    (dss_cons (ds_for (ps_for (passes_of rfl) rfl (di_rg1 (pi_range1 rfl T.b_range (da_cons (de_cb (pe_callB call_lenA rfl T.b_len (by decide +kernel) (da_cons (de_var (pv 3)) da_nil)) cd_len) da_nil))) (dg_n (pg_name (i := 8) scm_law.nd rfl (by first | exact .inl rfl | exact .inr rfl)))
      (dss_one (ds_set (ps_set (i := 7) scm_law.nd rfl (by first | exact .inl rfl | exact .inr rfl) (dc (takes_of rfl rfl rfl rfl) G_law_add (hr.mono (by decide)) rfl rfl ((aCons_len (aCons_len aNil_len))) (da_cons (de_var (pv 7)) (da_cons (dc (takes_of rfl rfl rfl rfl) G_law_mul (hr.mono (by decide)) rfl rfl ((aCons_len (aCons_len aNil_len))) (da_cons (de_ix ix_seq opd_ix (de_ix ix_seq opd_ix (de_var (pv 4)) de_int (fun _ _ => rfl)) (de_var (pv 8)) (fun _ _ => rfl)) (da_cons (de_ix ix_seq opd_ix (dc (takes_of rfl rfl rfl rfl) G_law_shares (hr.mono (by decide)) rfl rfl ((aCons_len (aCons_len aNil_len))) (da_cons (de_var (pv 3)) (da_cons (de_var (pv 8)) da_nil))) (de_var (pv 6)) (fun _ _ => rfl)) da_nil))) da_nil))))))))
    (dss_cons (ds_if (PW.pt (dw_or (dt_cmp (op_neA (hu_of64 hr)) opd_eqA (de_var (pv 7)) (de_ix ix_seq opd_ix (de_ix ix_seq opd_ix (de_var (pv 4)) de_int (fun _ _ => rfl)) (de_var (pv 6)) (fun _ _ => rfl)) rfl) (dw_or1 (dt_cmp op_ltA opd_ord (de_ix ix_seq opd_ix (de_ix ix_seq opd_ix (de_ix ix_seq opd_ix (de_var (pv 4)) de_int (fun _ _ => rfl)) (de_var (pv 6)) (fun _ _ => rfl)) de_int (fun _ _ => rfl)) de_int rfl))))
      (dss_one (ds_ret de_bl))
      dss_nil)
    (dss_one (ds_set (ps_set (i := 5) scm_law.nd rfl (by first | exact .inl rfl | exact .inr rfl) (dc (takes_of rfl rfl rfl rfl) G_law_add (hr.mono (by decide)) rfl rfl ((aCons_len (aCons_len aNil_len))) (da_cons (de_var (pv 5)) (da_cons (de_ix ix_seq opd_ix (de_ix ix_seq opd_ix (de_var (pv 4)) de_int (fun _ _ => rfl)) (de_var (pv 6)) (fun _ _ => rfl)) da_nil)))))))))))
  (dss_one (ds_ret (de_cmp (op_eqA (hu_of64 hr)) opd_eqA (de_var (pv 5)) (de_tup (da_cons de_int (da_cons de_int da_nil))) rfl))))))))))))
end
end Mp
namespace Mp
open PySem PySem.Spec PyProof.Rows L2
theorem all_mk {l : PySem.W.OpenLaw} {w : World} {K : PySem.W.Frag} {h : Heap} {mg : Str → Option Value} {fa cL PL f1 f2 f3 f4 f5 f6 f7 f8 f9 f10 f11 f12 f13 f14 f15 f16 f17 f18 f19 f20 f21 f22 f23 f24 f25 f26 f27 f28 f29 f30 f31 f32 f33 f34 f35 f36 f37 f38 : Addr} (X : K.In h) (G : h.Ns mainGlobals mg) (hfa : mg "law" = some (.ref fa))
    {od1 an1 od2 an2 od3 an3 od4 an4 od5 an5 od6 an6 od7 an7 od8 an8 od9 an9 od10 an10 od11 an11 od12 an12 od13 an13 od14 an14 od15 an15 od16 an16 od17 an17 od18 an18 od19 an19 od20 an20 od21 an21 od22 an22 od23 an23 od24 an24 od25 an25 od26 an26 od27 an27 od28 an28 od29 an29 od30 an30 od31 an31 od32 an32 od33 an33 od34 an34 od35 an35 od36 an36 od37 an37 od38 an38 odL : Option Addr} {sl1 sl2 sl3 sl4 sl5 sl6 sl7 sl8 sl9 sl10 sl11 sl12 sl13 sl14 sl15 sl16 sl17 sl18 sl19 sl20 sl21 sl22 sl23 sl24 sl25 sl26 sl27 sl28 sl29 sl30 sl31 sl32 sl33 sl34 sl35 sl36 sl37 sl38 slL : Array (Option Value)} {oc1 kV1 dc1 pm1 ct1 oc2 kV2 dc2 pm2 ct2 oc3 kV3 dc3 pm3 ct3 oc4 kV4 dc4 pm4 ct4 oc5 kV5 dc5 pm5 ct5 oc6 kV6 dc6 pm6 ct6 oc7 kV7 dc7 pm7 ct7 oc8 kV8 dc8 pm8 ct8 oc9 kV9 dc9 pm9 ct9 oc10 kV10 dc10 pm10 ct10 oc11 kV11 dc11 pm11 ct11 oc12 kV12 dc12 pm12 ct12 oc13 kV13 dc13 pm13 ct13 oc14 kV14 dc14 pm14 ct14 oc15 kV15 dc15 pm15 ct15 oc16 kV16 dc16 pm16 ct16 oc17 kV17 dc17 pm17 ct17 oc18 kV18 dc18 pm18 ct18 oc19 kV19 dc19 pm19 ct19 oc20 kV20 dc20 pm20 ct20 oc21 kV21 dc21 pm21 ct21 oc22 kV22 dc22 pm22 ct22 oc23 kV23 dc23 pm23 ct23 oc24 kV24 dc24 pm24 ct24 oc25 kV25 dc25 pm25 ct25 oc26 kV26 dc26 pm26 ct26 oc27 kV27 dc27 pm27 ct27 oc28 kV28 dc28 pm28 ct28 oc29 kV29 dc29 pm29 ct29 oc30 kV30 dc30 pm30 ct30 oc31 kV31 dc31 pm31 ct31 oc32 kV32 dc32 pm32 ct32 oc33 kV33 dc33 pm33 ct33 oc34 kV34 dc34 pm34 ct34 oc35 kV35 dc35 pm35 ct35 oc36 kV36 dc36 pm36 ct36 oc37 kV37 dc37 pm37 ct37 oc38 kV38 dc38 pm38 ct38 cd1 cd2 cd3 cd4 cd5 cd6 cd7 cd8 cd9 cd10 cd11 cd12 cd13 cd14 cd15 cd16 cd17 cd18 cd19 cd20 cd21 cd22 cd23 cd24 cd25 cd26 cd27 cd28 cd29 cd30 cd31 cd32 cd33 cd34 cd35 cd36 cd38 ocL : Value} {vsL : Array Value} {t_MOST_WEIGHT : Tok} {t_MOST_STATES : Tok} {Cx_BadValue : Addr} {fx_BadValue Nx_BadValue : Addr} {nmx_BadValue qx_BadValue : Str} {bsx_BadValue mrx_BadValue sbx_BadValue : List Value} {snx_BadValue : List Str} {abx_BadValue : Bool} {colx_BadValue : Option Bool} {ddx_BadValue odx_BadValue anx_BadValue : Option Addr} {k0x_BadValue k1x_BadValue k2x_BadValue k3x_BadValue k5x_BadValue : Option Value} {ocx_BadValue kVx_BadValue dcx_BadValue pmx_BadValue cdx_BadValue ctx_BadValue : Value} {slx_BadValue : Array (Option Value)} {Cx_NoChance : Addr} {fx_NoChance Nx_NoChance : Addr} {nmx_NoChance qx_NoChance : Str} {bsx_NoChance mrx_NoChance sbx_NoChance : List Value} {snx_NoChance : List Str} {abx_NoChance : Bool} {colx_NoChance : Option Bool} {ddx_NoChance odx_NoChance anx_NoChance : Option Addr} {k0x_NoChance k1x_NoChance k2x_NoChance k3x_NoChance k5x_NoChance : Option Value} {ocx_NoChance kVx_NoChance dcx_NoChance pmx_NoChance cdx_NoChance ctx_NoChance : Value} {slx_NoChance : Array (Option Value)} {Cx_BadText : Addr} {Cx_Unknown : Addr} {Cx_Crowded : Addr} {Cx_NoDay : Addr} {Cx_Missing : Addr} {Cx_TakenName : Addr} {Cx_Short : Addr}
    (a1 : PySem.W.nsIn K mainGlobals "_law_numbers" = some (some (.ref f1))) (l1 : K.lookup f1 = some ⟨oc1, od1, .func (PySem.W.fnOf "_law_numbers" "_law_numbers" (defArgs sm_law_numbers) (defBody sm_law_numbers) (defScope sm_law_numbers) .none kV1 dc1 pm1 an1 cd1 ct1), sl1⟩) (c1 : PySem.W.codeIn K cd1 "_law_numbers" = true) (k1 : PySem.W.keepIn K (.ref f1) = true)
    (a2 : PySem.W.nsIn K mainGlobals "_law_draw" = some (some (.ref f2))) (l2 : K.lookup f2 = some ⟨oc2, od2, .func (PySem.W.fnOf "_law_draw" "_law_draw" (defArgs sm_law_draw) (defBody sm_law_draw) (defScope sm_law_draw) .none kV2 dc2 pm2 an2 cd2 ct2), sl2⟩) (c2 : PySem.W.codeIn K cd2 "_law_draw" = true) (k2 : PySem.W.keepIn K (.ref f2) = true)
    (a3 : PySem.W.nsIn K mainGlobals "_law_take" = some (some (.ref f3))) (l3 : K.lookup f3 = some ⟨oc3, od3, .func (PySem.W.fnOf "_law_take" "_law_take" (defArgs sm_law_take) (defBody sm_law_take) (defScope sm_law_take) .none kV3 dc3 pm3 an3 cd3 ct3), sl3⟩) (c3 : PySem.W.codeIn K cd3 "_law_take" = true) (k3 : PySem.W.keepIn K (.ref f3) = true)
    (a4 : PySem.W.nsIn K mainGlobals "_law_pick" = some (some (.ref f4))) (l4 : K.lookup f4 = some ⟨oc4, od4, .func (PySem.W.fnOf "_law_pick" "_law_pick" (defArgs sm_law_pick) (defBody sm_law_pick) (defScope sm_law_pick) .none kV4 dc4 pm4 an4 cd4 ct4), sl4⟩) (c4 : PySem.W.codeIn K cd4 "_law_pick" = true) (k4 : PySem.W.keepIn K (.ref f4) = true)
    (a5 : PySem.W.nsIn K mainGlobals "_law_chain" = some (some (.ref f5))) (l5 : K.lookup f5 = some ⟨oc5, od5, .func (PySem.W.fnOf "_law_chain" "_law_chain" (defArgs sm_law_chain) (defBody sm_law_chain) (defScope sm_law_chain) .none kV5 dc5 pm5 an5 cd5 ct5), sl5⟩) (c5 : PySem.W.codeIn K cd5 "_law_chain" = true) (k5 : PySem.W.keepIn K (.ref f5) = true)
    (a6 : PySem.W.nsIn K mainGlobals "_law_gcd" = some (some (.ref f6))) (l6 : K.lookup f6 = some ⟨oc6, od6, .func (PySem.W.fnOf "_law_gcd" "_law_gcd" (defArgs sm_law_gcd) (defBody sm_law_gcd) (defScope sm_law_gcd) .none kV6 dc6 pm6 an6 cd6 ct6), sl6⟩) (c6 : PySem.W.codeIn K cd6 "_law_gcd" = true) (k6 : PySem.W.keepIn K (.ref f6) = true)
    (a7 : PySem.W.nsIn K mainGlobals "_law_red" = some (some (.ref f7))) (l7 : K.lookup f7 = some ⟨oc7, od7, .func (PySem.W.fnOf "_law_red" "_law_red" (defArgs sm_law_red) (defBody sm_law_red) (defScope sm_law_red) .none kV7 dc7 pm7 an7 cd7 ct7), sl7⟩) (c7 : PySem.W.codeIn K cd7 "_law_red" = true) (k7 : PySem.W.keepIn K (.ref f7) = true)
    (a8 : PySem.W.nsIn K mainGlobals "_law_add" = some (some (.ref f8))) (l8 : K.lookup f8 = some ⟨oc8, od8, .func (PySem.W.fnOf "_law_add" "_law_add" (defArgs sm_law_add) (defBody sm_law_add) (defScope sm_law_add) .none kV8 dc8 pm8 an8 cd8 ct8), sl8⟩) (c8 : PySem.W.codeIn K cd8 "_law_add" = true) (k8 : PySem.W.keepIn K (.ref f8) = true)
    (a9 : PySem.W.nsIn K mainGlobals "reached" = some (some (.ref f9))) (l9 : K.lookup f9 = some ⟨oc9, od9, .func (PySem.W.fnOf "reached" "reached" (defArgs sm_reached) (defBody sm_reached) (defScope sm_reached) .none kV9 dc9 pm9 an9 cd9 ct9), sl9⟩) (c9 : PySem.W.codeIn K cd9 "reached" = true) (k9 : PySem.W.keepIn K (.ref f9) = true)
    (a10 : PySem.W.nsIn K mainGlobals "closed_parts" = some (some (.ref f10))) (l10 : K.lookup f10 = some ⟨oc10, od10, .func (PySem.W.fnOf "closed_parts" "closed_parts" (defArgs sm_closed_parts) (defBody sm_closed_parts) (defScope sm_closed_parts) .none kV10 dc10 pm10 an10 cd10 ct10), sl10⟩) (c10 : PySem.W.codeIn K cd10 "closed_parts" = true) (k10 : PySem.W.keepIn K (.ref f10) = true)
    (a11 : PySem.W.nsIn K mainGlobals "is_sequence" = some (some (.ref f11))) (l11 : K.lookup f11 = some ⟨oc11, od11, .func (PySem.W.fnOf "is_sequence" "is_sequence" (defArgs sm_is_sequence) (defBody sm_is_sequence) (defScope sm_is_sequence) .none kV11 dc11 pm11 an11 cd11 ct11), sl11⟩) (c11 : PySem.W.codeIn K cd11 "is_sequence" = true) (k11 : PySem.W.keepIn K (.ref f11) = true)
    (a12 : PySem.W.nsIn K mainGlobals "is_row" = some (some (.ref f12))) (l12 : K.lookup f12 = some ⟨oc12, od12, .func (PySem.W.fnOf "is_row" "is_row" (defArgs sm_is_row) (defBody sm_is_row) (defScope sm_is_row) .none kV12 dc12 pm12 an12 cd12 ct12), sl12⟩) (c12 : PySem.W.codeIn K cd12 "is_row" = true) (k12 : PySem.W.keepIn K (.ref f12) = true)
    (a13 : PySem.W.nsIn K mainGlobals "is_integer" = some (some (.ref f13))) (l13 : K.lookup f13 = some ⟨oc13, od13, .func (PySem.W.fnOf "is_integer" "is_integer" (defArgs sm_is_integer) (defBody sm_is_integer) (defScope sm_is_integer) .none kV13 dc13 pm13 an13 cd13 ct13), sl13⟩) (c13 : PySem.W.codeIn K cd13 "is_integer" = true) (k13 : PySem.W.keepIn K (.ref f13) = true)
    (a14 : PySem.W.nsIn K mainGlobals "is_within" = some (some (.ref f14))) (l14 : K.lookup f14 = some ⟨oc14, od14, .func (PySem.W.fnOf "is_within" "is_within" (defArgs sm_is_within) (defBody sm_is_within) (defScope sm_is_within) .none kV14 dc14 pm14 an14 cd14 ct14), sl14⟩) (c14 : PySem.W.codeIn K cd14 "is_within" = true) (k14 : PySem.W.keepIn K (.ref f14) = true)
    (a15 : PySem.W.nsIn K mainGlobals "is_weights" = some (some (.ref f15))) (l15 : K.lookup f15 = some ⟨oc15, od15, .func (PySem.W.fnOf "is_weights" "is_weights" (defArgs sm_is_weights) (defBody sm_is_weights) (defScope sm_is_weights) .none kV15 dc15 pm15 an15 cd15 ct15), sl15⟩) (c15 : PySem.W.codeIn K cd15 "is_weights" = true) (k15 : PySem.W.keepIn K (.ref f15) = true)
    (a16 : PySem.W.nsIn K mainGlobals "is_chain" = some (some (.ref f16))) (l16 : K.lookup f16 = some ⟨oc16, od16, .func (PySem.W.fnOf "is_chain" "is_chain" (defArgs sm_is_chain) (defBody sm_is_chain) (defScope sm_is_chain) .none kV16 dc16 pm16 an16 cd16 ct16), sl16⟩) (c16 : PySem.W.codeIn K cd16 "is_chain" = true) (k16 : PySem.W.keepIn K (.ref f16) = true)
    (a17 : PySem.W.nsIn K mainGlobals "shared_factor" = some (some (.ref f17))) (l17 : K.lookup f17 = some ⟨oc17, od17, .func (PySem.W.fnOf "shared_factor" "shared_factor" (defArgs sm_shared_factor) (defBody sm_shared_factor) (defScope sm_shared_factor) .none kV17 dc17 pm17 an17 cd17 ct17), sl17⟩) (c17 : PySem.W.codeIn K cd17 "shared_factor" = true) (k17 : PySem.W.keepIn K (.ref f17) = true)
    (a18 : PySem.W.nsIn K mainGlobals "lowered" = some (some (.ref f18))) (l18 : K.lookup f18 = some ⟨oc18, od18, .func (PySem.W.fnOf "lowered" "lowered" (defArgs sm_lowered) (defBody sm_lowered) (defScope sm_lowered) .none kV18 dc18 pm18 an18 cd18 ct18), sl18⟩) (c18 : PySem.W.codeIn K cd18 "lowered" = true) (k18 : PySem.W.keepIn K (.ref f18) = true)
    (a19 : PySem.W.nsIn K mainGlobals "lead_place" = some (some (.ref f19))) (l19 : K.lookup f19 = some ⟨oc19, od19, .func (PySem.W.fnOf "lead_place" "lead_place" (defArgs sm_lead_place) (defBody sm_lead_place) (defScope sm_lead_place) .none kV19 dc19 pm19 an19 cd19 ct19), sl19⟩) (c19 : PySem.W.codeIn K cd19 "lead_place" = true) (k19 : PySem.W.keepIn K (.ref f19) = true)
    (a20 : PySem.W.nsIn K mainGlobals "lowest" = some (some (.ref f20))) (l20 : K.lookup f20 = some ⟨oc20, od20, .func (PySem.W.fnOf "lowest" "lowest" (defArgs sm_lowest) (defBody sm_lowest) (defScope sm_lowest) .none kV20 dc20 pm20 an20 cd20 ct20), sl20⟩) (c20 : PySem.W.codeIn K cd20 "lowest" = true) (k20 : PySem.W.keepIn K (.ref f20) = true)
    (a21 : PySem.W.nsIn K mainGlobals "reduced" = some (some (.ref f21))) (l21 : K.lookup f21 = some ⟨oc21, od21, .func (PySem.W.fnOf "reduced" "reduced" (defArgs sm_reduced) (defBody sm_reduced) (defScope sm_reduced) .none kV21 dc21 pm21 an21 cd21 ct21), sl21⟩) (c21 : PySem.W.codeIn K cd21 "reduced" = true) (k21 : PySem.W.keepIn K (.ref f21) = true)
    (a22 : PySem.W.nsIn K mainGlobals "cleared" = some (some (.ref f22))) (l22 : K.lookup f22 = some ⟨oc22, od22, .func (PySem.W.fnOf "cleared" "cleared" (defArgs sm_cleared) (defBody sm_cleared) (defScope sm_cleared) .none kV22 dc22 pm22 an22 cd22 ct22), sl22⟩) (c22 : PySem.W.codeIn K cd22 "cleared" = true) (k22 : PySem.W.keepIn K (.ref f22) = true)
    (a23 : PySem.W.nsIn K mainGlobals "solved" = some (some (.ref f23))) (l23 : K.lookup f23 = some ⟨oc23, od23, .func (PySem.W.fnOf "solved" "solved" (defArgs sm_solved) (defBody sm_solved) (defScope sm_solved) .none kV23 dc23 pm23 an23 cd23 ct23), sl23⟩) (c23 : PySem.W.codeIn K cd23 "solved" = true) (k23 : PySem.W.keepIn K (.ref f23) = true)
    (a24 : PySem.W.nsIn K mainGlobals "balance" = some (some (.ref f24))) (l24 : K.lookup f24 = some ⟨oc24, od24, .func (PySem.W.fnOf "balance" "balance" (defArgs sm_balance) (defBody sm_balance) (defScope sm_balance) .none kV24 dc24 pm24 an24 cd24 ct24), sl24⟩) (c24 : PySem.W.codeIn K cd24 "balance" = true) (k24 : PySem.W.keepIn K (.ref f24) = true)
    (a25 : PySem.W.nsIn K mainGlobals "long_run" = some (some (.ref f25))) (l25 : K.lookup f25 = some ⟨oc25, od25, .func (PySem.W.fnOf "long_run" "long_run" (defArgs sm_long_run) (defBody sm_long_run) (defScope sm_long_run) .none kV25 dc25 pm25 an25 cd25 ct25), sl25⟩) (c25 : PySem.W.codeIn K cd25 "long_run" = true) (k25 : PySem.W.keepIn K (.ref f25) = true)
    (a26 : PySem.W.nsIn K mainGlobals "_law_reach" = some (some (.ref f26))) (l26 : K.lookup f26 = some ⟨oc26, od26, .func (PySem.W.fnOf "_law_reach" "_law_reach" (defArgs sm_law_reach) (defBody sm_law_reach) (defScope sm_law_reach) .none kV26 dc26 pm26 an26 cd26 ct26), sl26⟩) (c26 : PySem.W.codeIn K cd26 "_law_reach" = true) (k26 : PySem.W.keepIn K (.ref f26) = true)
    (a27 : PySem.W.nsIn K mainGlobals "_law_closed_parts" = some (some (.ref f27))) (l27 : K.lookup f27 = some ⟨oc27, od27, .func (PySem.W.fnOf "_law_closed_parts" "_law_closed_parts" (defArgs sm_law_closed_parts) (defBody sm_law_closed_parts) (defScope sm_law_closed_parts) .none kV27 dc27 pm27 an27 cd27 ct27), sl27⟩) (c27 : PySem.W.codeIn K cd27 "_law_closed_parts" = true) (k27 : PySem.W.keepIn K (.ref f27) = true)
    (a28 : PySem.W.nsIn K mainGlobals "_law_so" = some (some (.ref f28))) (l28 : K.lookup f28 = some ⟨oc28, od28, .func (PySem.W.fnOf "_law_so" "_law_so" (defArgs sm_law_so) (defBody sm_law_so) (defScope sm_law_so) .none kV28 dc28 pm28 an28 cd28 ct28), sl28⟩) (c28 : PySem.W.codeIn K cd28 "_law_so" = true) (k28 : PySem.W.keepIn K (.ref f28) = true)
    (a29 : PySem.W.nsIn K mainGlobals "_law_listed" = some (some (.ref f29))) (l29 : K.lookup f29 = some ⟨oc29, od29, .func (PySem.W.fnOf "_law_listed" "_law_listed" (defArgs sm_law_listed) (defBody sm_law_listed) (defScope sm_law_listed) .none kV29 dc29 pm29 an29 cd29 ct29), sl29⟩) (c29 : PySem.W.codeIn K cd29 "_law_listed" = true) (k29 : PySem.W.keepIn K (.ref f29) = true)
    (a30 : PySem.W.nsIn K mainGlobals "_law_handed" = some (some (.ref f30))) (l30 : K.lookup f30 = some ⟨oc30, od30, .func (PySem.W.fnOf "_law_handed" "_law_handed" (defArgs sm_law_handed) (defBody sm_law_handed) (defScope sm_law_handed) .none kV30 dc30 pm30 an30 cd30 ct30), sl30⟩) (c30 : PySem.W.codeIn K cd30 "_law_handed" = true) (k30 : PySem.W.keepIn K (.ref f30) = true)
    (a31 : PySem.W.nsIn K mainGlobals "_law_div" = some (some (.ref f31))) (l31 : K.lookup f31 = some ⟨oc31, od31, .func (PySem.W.fnOf "_law_div" "_law_div" (defArgs sm_law_div) (defBody sm_law_div) (defScope sm_law_div) .none kV31 dc31 pm31 an31 cd31 ct31), sl31⟩) (c31 : PySem.W.codeIn K cd31 "_law_div" = true) (k31 : PySem.W.keepIn K (.ref f31) = true)
    (a32 : PySem.W.nsIn K mainGlobals "_law_sub" = some (some (.ref f32))) (l32 : K.lookup f32 = some ⟨oc32, od32, .func (PySem.W.fnOf "_law_sub" "_law_sub" (defArgs sm_law_sub) (defBody sm_law_sub) (defScope sm_law_sub) .none kV32 dc32 pm32 an32 cd32 ct32), sl32⟩) (c32 : PySem.W.codeIn K cd32 "_law_sub" = true) (k32 : PySem.W.keepIn K (.ref f32) = true)
    (a33 : PySem.W.nsIn K mainGlobals "_law_mul" = some (some (.ref f33))) (l33 : K.lookup f33 = some ⟨oc33, od33, .func (PySem.W.fnOf "_law_mul" "_law_mul" (defArgs sm_law_mul) (defBody sm_law_mul) (defScope sm_law_mul) .none kV33 dc33 pm33 an33 cd33 ct33), sl33⟩) (c33 : PySem.W.codeIn K cd33 "_law_mul" = true) (k33 : PySem.W.keepIn K (.ref f33) = true)
    (a34 : PySem.W.nsIn K mainGlobals "_law_solve" = some (some (.ref f34))) (l34 : K.lookup f34 = some ⟨oc34, od34, .func (PySem.W.fnOf "_law_solve" "_law_solve" (defArgs sm_law_solve) (defBody sm_law_solve) (defScope sm_law_solve) .none kV34 dc34 pm34 an34 cd34 ct34), sl34⟩) (c34 : PySem.W.codeIn K cd34 "_law_solve" = true) (k34 : PySem.W.keepIn K (.ref f34) = true)
    (a35 : PySem.W.nsIn K mainGlobals "_law_shares" = some (some (.ref f35))) (l35 : K.lookup f35 = some ⟨oc35, od35, .func (PySem.W.fnOf "_law_shares" "_law_shares" (defArgs sm_law_shares) (defBody sm_law_shares) (defScope sm_law_shares) .none kV35 dc35 pm35 an35 cd35 ct35), sl35⟩) (c35 : PySem.W.codeIn K cd35 "_law_shares" = true) (k35 : PySem.W.keepIn K (.ref f35) = true)
    (a36 : PySem.W.nsIn K mainGlobals "_law_long_run" = some (some (.ref f36))) (l36 : K.lookup f36 = some ⟨oc36, od36, .func (PySem.W.fnOf "_law_long_run" "_law_long_run" (defArgs sm_law_long_run) (defBody sm_law_long_run) (defScope sm_law_long_run) .none kV36 dc36 pm36 an36 cd36 ct36), sl36⟩) (c36 : PySem.W.codeIn K cd36 "_law_long_run" = true) (k36 : PySem.W.keepIn K (.ref f36) = true)
    (a37 : PySem.W.nsIn K mainGlobals "law" = some (some (.ref f37))) (l37 : K.lookup f37 = some ⟨oc37, od37, .func (PySem.W.fnOf "law" "law" (defArgs sm_law) (defBody sm_law) (defScope sm_law) .none kV37 dc37 pm37 an37 (.ref cL) ct37), sl37⟩) (c37 : PySem.W.codeIn K (.ref cL) "law" = true) (k37 : PySem.W.keepIn K (.ref f37) = true)
    (a38 : PySem.W.nsIn K mainGlobals "_law_told" = some (some (.ref f38))) (l38 : K.lookup f38 = some ⟨oc38, od38, .func (PySem.W.fnOf "_law_told" "_law_told" (defArgs sm_law_told) (defBody sm_law_told) (defScope sm_law_told) .none kV38 dc38 pm38 an38 cd38 ct38), sl38⟩) (c38 : PySem.W.codeIn K cd38 "_law_told" = true) (k38 : PySem.W.keepIn K (.ref f38) = true)
    (lL : K.lookup cL = some ⟨ocL, odL, .fields vsL, slL⟩) (vL : vsL[11]? = some (.ref PL)) (nL : K.lookup PL = none)
    (zb_range : PySem.W.nsIn K mainGlobals "range" = some none)
    (zb_int : PySem.W.nsIn K mainGlobals "int" = some none)
    (zb_len : PySem.W.nsIn K mainGlobals "len" = some none)
    (zb_sum : PySem.W.nsIn K mainGlobals "sum" = some none)
    (zb_tuple : PySem.W.nsIn K mainGlobals "tuple" = some none)
    (zb_enumerate : PySem.W.nsIn K mainGlobals "enumerate" = some none)
    (zb_sorted : PySem.W.nsIn K mainGlobals "sorted" = some none)
    (zb_all : PySem.W.nsIn K mainGlobals "all" = some none)
    (zb_isinstance : PySem.W.nsIn K mainGlobals "isinstance" = some none)
    (zb_list : PySem.W.nsIn K mainGlobals "list" = some none)
    (zb_bool : PySem.W.nsIn K mainGlobals "bool" = some none)
    (zb_max : PySem.W.nsIn K mainGlobals "max" = some none)
    (zb_zip : PySem.W.nsIn K mainGlobals "zip" = some none)
    (zb_str : PySem.W.nsIn K mainGlobals "str" = some none)
    (zi_gcd : PySem.W.nsIn K mainGlobals "gcd" = some (some (.builtin "math.gcd")))
    (zc_MOST_WEIGHT : PySem.W.nsIn K mainGlobals "MOST_WEIGHT" = some (some (.int 9 t_MOST_WEIGHT)))
    (zc_MOST_STATES : PySem.W.nsIn K mainGlobals "MOST_STATES" = some (some (.int 6 t_MOST_STATES)))
    (ax_BadValue : PySem.W.nsIn K mainGlobals "BadValue" = some (some (.ref Cx_BadValue))) (ex_BadValue : PySem.W.subIn K (.ref Cx_BadValue) (.type "BaseException") = some true)
    (nx_BadValue_at : PySem.W.findIn K (.ref Cx_BadValue) "at" = some none)
    (lx_BadValue : K.lookup Cx_BadValue = some (excClassObj nmx_BadValue qx_BadValue Cx_BadValue Nx_BadValue bsx_BadValue mrx_BadValue true snx_BadValue sbx_BadValue abx_BadValue colx_BadValue ddx_BadValue k0x_BadValue k1x_BadValue k2x_BadValue k3x_BadValue k5x_BadValue "Exception.__new__")) (mx_BadValue : refsE mrx_BadValue = true) (sx__BadValue : PySem.W.findIn K (.ref Cx_BadValue) "__setattr__" = some (some (.builtin "object.__setattr__"))) (tx_BadValue : PySem.W.typeIn K (.ref Cx_BadValue) = some (.type "type")) (kx_BadValue : PySem.W.keepIn K (.ref Cx_BadValue) = true)
    (ix_BadValue : PySem.W.findIn K (.ref Cx_BadValue) "__init__" = some (some (.ref fx_BadValue))) (jx_BadValue : PySem.W.typeIn K (.ref fx_BadValue) = some (.type "function")) (ux_BadValue : K.lookup fx_BadValue = some ⟨ocx_BadValue, odx_BadValue, .func (PySem.W.fnOf "__init__" "BadValue.__init__" (defArgs sx_BadValue) (defBody sx_BadValue) (defScope sx_BadValue) .none kVx_BadValue dcx_BadValue pmx_BadValue anx_BadValue cdx_BadValue ctx_BadValue), slx_BadValue⟩) (cx_BadValue : PySem.W.codeIn K cdx_BadValue "BadValue.__init__" = true) (wx_BadValue : PySem.W.keepIn K (.ref fx_BadValue) = true)
    (gx_BadValue : PySem.W.findIn K (.ref Cx_BadValue) "__getattribute__" = some (some (.builtin "BaseException.__getattribute__"))) (hx_BadValue : PySem.W.findIn K (.ref Cx_BadValue) "__getattr__" = some none) (dx_BadValue : PySem.W.hasDictIn K Cx_BadValue = true)
    (ax_NoChance : PySem.W.nsIn K mainGlobals "NoChance" = some (some (.ref Cx_NoChance))) (ex_NoChance : PySem.W.subIn K (.ref Cx_NoChance) (.type "BaseException") = some true)
    (nx_NoChance_word : PySem.W.findIn K (.ref Cx_NoChance) "word" = some none)
    (lx_NoChance : K.lookup Cx_NoChance = some (excClassObj nmx_NoChance qx_NoChance Cx_NoChance Nx_NoChance bsx_NoChance mrx_NoChance true snx_NoChance sbx_NoChance abx_NoChance colx_NoChance ddx_NoChance k0x_NoChance k1x_NoChance k2x_NoChance k3x_NoChance k5x_NoChance "Exception.__new__")) (mx_NoChance : refsE mrx_NoChance = true) (sx__NoChance : PySem.W.findIn K (.ref Cx_NoChance) "__setattr__" = some (some (.builtin "object.__setattr__"))) (tx_NoChance : PySem.W.typeIn K (.ref Cx_NoChance) = some (.type "type")) (kx_NoChance : PySem.W.keepIn K (.ref Cx_NoChance) = true)
    (ix_NoChance : PySem.W.findIn K (.ref Cx_NoChance) "__init__" = some (some (.ref fx_NoChance))) (jx_NoChance : PySem.W.typeIn K (.ref fx_NoChance) = some (.type "function")) (ux_NoChance : K.lookup fx_NoChance = some ⟨ocx_NoChance, odx_NoChance, .func (PySem.W.fnOf "__init__" "NoChance.__init__" (defArgs sx_NoChance) (defBody sx_NoChance) (defScope sx_NoChance) .none kVx_NoChance dcx_NoChance pmx_NoChance anx_NoChance cdx_NoChance ctx_NoChance), slx_NoChance⟩) (cx_NoChance : PySem.W.codeIn K cdx_NoChance "NoChance.__init__" = true) (wx_NoChance : PySem.W.keepIn K (.ref fx_NoChance) = true)
    (gx_NoChance : PySem.W.findIn K (.ref Cx_NoChance) "__getattribute__" = some (some (.builtin "BaseException.__getattribute__"))) (hx_NoChance : PySem.W.findIn K (.ref Cx_NoChance) "__getattr__" = some none) (dx_NoChance : PySem.W.hasDictIn K Cx_NoChance = true)
    (ax_BadText : PySem.W.nsIn K mainGlobals "BadText" = some (some (.ref Cx_BadText))) (ex_BadText : PySem.W.subIn K (.ref Cx_BadText) (.type "BaseException") = some true)
    (nx_BadText_at : PySem.W.findIn K (.ref Cx_BadText) "at" = some none)
    (gx_BadText : PySem.W.findIn K (.ref Cx_BadText) "__getattribute__" = some (some (.builtin "BaseException.__getattribute__"))) (hx_BadText : PySem.W.findIn K (.ref Cx_BadText) "__getattr__" = some none) (dx_BadText : PySem.W.hasDictIn K Cx_BadText = true)
    (ax_Unknown : PySem.W.nsIn K mainGlobals "Unknown" = some (some (.ref Cx_Unknown))) (ex_Unknown : PySem.W.subIn K (.ref Cx_Unknown) (.type "BaseException") = some true)
    (nx_Unknown_name : PySem.W.findIn K (.ref Cx_Unknown) "name" = some none)
    (gx_Unknown : PySem.W.findIn K (.ref Cx_Unknown) "__getattribute__" = some (some (.builtin "BaseException.__getattribute__"))) (hx_Unknown : PySem.W.findIn K (.ref Cx_Unknown) "__getattr__" = some none) (dx_Unknown : PySem.W.hasDictIn K Cx_Unknown = true)
    (ax_Crowded : PySem.W.nsIn K mainGlobals "Crowded" = some (some (.ref Cx_Crowded))) (ex_Crowded : PySem.W.subIn K (.ref Cx_Crowded) (.type "BaseException") = some true)
    (nx_Crowded_first : PySem.W.findIn K (.ref Cx_Crowded) "first" = some none)
    (nx_Crowded_last : PySem.W.findIn K (.ref Cx_Crowded) "last" = some none)
    (gx_Crowded : PySem.W.findIn K (.ref Cx_Crowded) "__getattribute__" = some (some (.builtin "BaseException.__getattribute__"))) (hx_Crowded : PySem.W.findIn K (.ref Cx_Crowded) "__getattr__" = some none) (dx_Crowded : PySem.W.hasDictIn K Cx_Crowded = true)
    (ax_NoDay : PySem.W.nsIn K mainGlobals "NoDay" = some (some (.ref Cx_NoDay))) (ex_NoDay : PySem.W.subIn K (.ref Cx_NoDay) (.type "BaseException") = some true)
    (nx_NoDay_name : PySem.W.findIn K (.ref Cx_NoDay) "name" = some none)
    (gx_NoDay : PySem.W.findIn K (.ref Cx_NoDay) "__getattribute__" = some (some (.builtin "BaseException.__getattribute__"))) (hx_NoDay : PySem.W.findIn K (.ref Cx_NoDay) "__getattr__" = some none) (dx_NoDay : PySem.W.hasDictIn K Cx_NoDay = true)
    (ax_Missing : PySem.W.nsIn K mainGlobals "Missing" = some (some (.ref Cx_Missing))) (ex_Missing : PySem.W.subIn K (.ref Cx_Missing) (.type "BaseException") = some true)
    (nx_Missing_at : PySem.W.findIn K (.ref Cx_Missing) "at" = some none)
    (gx_Missing : PySem.W.findIn K (.ref Cx_Missing) "__getattribute__" = some (some (.builtin "BaseException.__getattribute__"))) (hx_Missing : PySem.W.findIn K (.ref Cx_Missing) "__getattr__" = some none) (dx_Missing : PySem.W.hasDictIn K Cx_Missing = true)
    (ax_TakenName : PySem.W.nsIn K mainGlobals "TakenName" = some (some (.ref Cx_TakenName))) (ex_TakenName : PySem.W.subIn K (.ref Cx_TakenName) (.type "BaseException") = some true)
    (nx_TakenName_name : PySem.W.findIn K (.ref Cx_TakenName) "name" = some none)
    (gx_TakenName : PySem.W.findIn K (.ref Cx_TakenName) "__getattribute__" = some (some (.builtin "BaseException.__getattribute__"))) (hx_TakenName : PySem.W.findIn K (.ref Cx_TakenName) "__getattr__" = some none) (dx_TakenName : PySem.W.hasDictIn K Cx_TakenName = true)
    (ax_Short : PySem.W.nsIn K mainGlobals "Short" = some (some (.ref Cx_Short))) (ex_Short : PySem.W.subIn K (.ref Cx_Short) (.type "BaseException") = some true)
    (nx_Short_rows : PySem.W.findIn K (.ref Cx_Short) "rows" = some none)
    (gx_Short : PySem.W.findIn K (.ref Cx_Short) "__getattribute__" = some (some (.builtin "BaseException.__getattribute__"))) (hx_Short : PySem.W.findIn K (.ref Cx_Short) "__getattr__" = some none) (dx_Short : PySem.W.hasDictIn K Cx_Short = true)
    (hexm : exmAll K [(Cx_BadValue, "BadValue", ["at"]), (Cx_BadText, "BadText", ["at"]), (Cx_Unknown, "Unknown", ["name"]), (Cx_NoChance, "NoChance", ["word"]), (Cx_Crowded, "Crowded", ["first", "last"]), (Cx_NoDay, "NoDay", ["name"]), (Cx_Missing, "Missing", ["at"]), (Cx_TakenName, "TakenName", ["name"]), (Cx_Short, "Short", ["rows"])] = true)
    (hlaw : ∀ (b : Bool) (ns : List Int), ns.length ≤ 63 → ∃ h, m_law [scD b (ns.map D.int)] [] = .ok (.bl true) h) :
    ∃ (fd : FuncData) (c P : Addr), PySem.W.tabIn K "law" = some (c, P) ∧ K.lookup P = none ∧ (∀ (s : Shared) (v : Value), BindsTo s fd ⟨[v], []⟩ [("script", v)]) ∧ ∀ base : Heap, K.In base → base.Ns mainGlobals mg → LawTab K mg base c P → FnOk l.prog w K mg base (L2.CX l.prog w) 32 fa fd ["script"] (spTrue K) := by
  have e : fa = f37 := by
    have z := hfa.symm.trans (PySem.W.mg_of X G a37)
    cases z; rfl
  rw [e]
  have Fx_BadValue := fun_mk (st := sx_BadValue) ux_BadValue cx_BadValue wx_BadValue
  have rx_BadValue : XRd K mg "BadValue" Cx_BadValue ["at"] := ⟨PySem.W.mg_of X G ax_BadValue, ⟨gx_BadValue, hx_BadValue, ex_BadValue, dx_BadValue⟩, (fun f hf => (List.mem_singleton.mp hf) ▸ nx_BadValue_at)⟩
  have Fx_NoChance := fun_mk (st := sx_NoChance) ux_NoChance cx_NoChance wx_NoChance
  have rx_NoChance : XRd K mg "NoChance" Cx_NoChance ["word"] := ⟨PySem.W.mg_of X G ax_NoChance, ⟨gx_NoChance, hx_NoChance, ex_NoChance, dx_NoChance⟩, (fun f hf => (List.mem_singleton.mp hf) ▸ nx_NoChance_word)⟩
  have rx_BadText : XRd K mg "BadText" Cx_BadText ["at"] := ⟨PySem.W.mg_of X G ax_BadText, ⟨gx_BadText, hx_BadText, ex_BadText, dx_BadText⟩, (fun f hf => (List.mem_singleton.mp hf) ▸ nx_BadText_at)⟩
  have rx_Unknown : XRd K mg "Unknown" Cx_Unknown ["name"] := ⟨PySem.W.mg_of X G ax_Unknown, ⟨gx_Unknown, hx_Unknown, ex_Unknown, dx_Unknown⟩, (fun f hf => (List.mem_singleton.mp hf) ▸ nx_Unknown_name)⟩
  have rx_Crowded : XRd K mg "Crowded" Cx_Crowded ["first", "last"] := ⟨PySem.W.mg_of X G ax_Crowded, ⟨gx_Crowded, hx_Crowded, ex_Crowded, dx_Crowded⟩, (fun f hf => (List.mem_cons.mp hf).elim (fun e => e ▸ nx_Crowded_first) fun hf => (List.mem_singleton.mp hf) ▸ nx_Crowded_last)⟩
  have rx_NoDay : XRd K mg "NoDay" Cx_NoDay ["name"] := ⟨PySem.W.mg_of X G ax_NoDay, ⟨gx_NoDay, hx_NoDay, ex_NoDay, dx_NoDay⟩, (fun f hf => (List.mem_singleton.mp hf) ▸ nx_NoDay_name)⟩
  have rx_Missing : XRd K mg "Missing" Cx_Missing ["at"] := ⟨PySem.W.mg_of X G ax_Missing, ⟨gx_Missing, hx_Missing, ex_Missing, dx_Missing⟩, (fun f hf => (List.mem_singleton.mp hf) ▸ nx_Missing_at)⟩
  have rx_TakenName : XRd K mg "TakenName" Cx_TakenName ["name"] := ⟨PySem.W.mg_of X G ax_TakenName, ⟨gx_TakenName, hx_TakenName, ex_TakenName, dx_TakenName⟩, (fun f hf => (List.mem_singleton.mp hf) ▸ nx_TakenName_name)⟩
  have rx_Short : XRd K mg "Short" Cx_Short ["rows"] := ⟨PySem.W.mg_of X G ax_Short, ⟨gx_Short, hx_Short, ex_Short, dx_Short⟩, (fun f hf => (List.mem_singleton.mp hf) ▸ nx_Short_rows)⟩
  have T : Tx l.prog w K mg := { ok := trivial, b_range := PySem.W.mg_none_of X G zb_range, b_int := PySem.W.mg_none_of X G zb_int, b_len := PySem.W.mg_none_of X G zb_len, b_sum := PySem.W.mg_none_of X G zb_sum, b_tuple := PySem.W.mg_none_of X G zb_tuple, b_enumerate := PySem.W.mg_none_of X G zb_enumerate, b_sorted := PySem.W.mg_none_of X G zb_sorted, b_all := PySem.W.mg_none_of X G zb_all, b_isinstance := PySem.W.mg_none_of X G zb_isinstance, b_list := PySem.W.mg_none_of X G zb_list, b_bool := PySem.W.mg_none_of X G zb_bool, b_max := PySem.W.mg_none_of X G zb_max, b_zip := PySem.W.mg_none_of X G zb_zip, b_str := PySem.W.mg_none_of X G zb_str, i_gcd := PySem.W.mg_of X G zi_gcd, c_MOST_WEIGHT := ⟨_, .int 9, PySem.W.mg_of X G zc_MOST_WEIGHT, ⟨_, rfl⟩, fun _ => int_rd⟩, c_MOST_STATES := ⟨_, .int 6, PySem.W.mg_of X G zc_MOST_STATES, ⟨_, rfl⟩, fun _ => int_rd⟩, x_BadValue := ⟨Cx_BadValue, fx_BadValue, _, PySem.W.mg_of X G ax_BadValue, ⟨⟨_, _, _, _, _, _, _, _, _, _, _, _, _, _, _, lx_BadValue, mx_BadValue⟩, sx__BadValue, ex_BadValue, tx_BadValue, kx_BadValue⟩, ix_BadValue, jx_BadValue, Fx_BadValue.binds (ps := ["self", "at"]) (fun _ _ _ _ _ _ us hl => match us, hl with | [_, _], _ => rfl), fun base => init_BadValue Fx_BadValue, (fun f hf => (List.mem_singleton.mp hf) ▸ nx_BadValue_at)⟩, x_NoChance := ⟨Cx_NoChance, fx_NoChance, _, PySem.W.mg_of X G ax_NoChance, ⟨⟨_, _, _, _, _, _, _, _, _, _, _, _, _, _, _, lx_NoChance, mx_NoChance⟩, sx__NoChance, ex_NoChance, tx_NoChance, kx_NoChance⟩, ix_NoChance, jx_NoChance, Fx_NoChance.binds (ps := ["self", "word"]) (fun _ _ _ _ _ _ us hl => match us, hl with | [_, _], _ => rfl), fun base => init_NoChance Fx_NoChance, (fun f hf => (List.mem_singleton.mp hf) ▸ nx_NoChance_word)⟩ }
  have F1 := fun_mk (st := sm_law_numbers) l1 c1 k1
  have D1 : DefAt K mg "_law_numbers" "_law_numbers" sm_law_numbers ["script"] := ⟨f1, _, PySem.W.mg_of X G a1, F1, F1.binds (ps := ["script"]) fun _ _ _ _ _ _ us hl => match us, hl with | [_], _ => rfl⟩
  have F2 := fun_mk (st := sm_law_draw) l2 c2 k2
  have D2 : DefAt K mg "_law_draw" "_law_draw" sm_law_draw ["row", "at", "limit"] := ⟨f2, _, PySem.W.mg_of X G a2, F2, F2.binds (ps := ["row", "at", "limit"]) fun _ _ _ _ _ _ us hl => match us, hl with | [_, _, _], _ => rfl⟩
  have F3 := fun_mk (st := sm_law_take) l3 c3 k3
  have D3 : DefAt K mg "_law_take" "_law_take" sm_law_take ["row", "spot", "limit"] := ⟨f3, _, PySem.W.mg_of X G a3, F3, F3.binds (ps := ["row", "spot", "limit"]) fun _ _ _ _ _ _ us hl => match us, hl with | [_, _, _], _ => rfl⟩
  have F4 := fun_mk (st := sm_law_pick) l4 c4 k4
  have D4 : DefAt K mg "_law_pick" "_law_pick" sm_law_pick ["row", "spot", "things"] := ⟨f4, _, PySem.W.mg_of X G a4, F4, F4.binds (ps := ["row", "spot", "things"]) fun _ _ _ _ _ _ us hl => match us, hl with | [_, _, _], _ => rfl⟩
  have F5 := fun_mk (st := sm_law_chain) l5 c5 k5
  have D5 : DefAt K mg "_law_chain" "_law_chain" sm_law_chain ["row", "spot", "most"] := ⟨f5, _, PySem.W.mg_of X G a5, F5, F5.binds (ps := ["row", "spot", "most"]) fun _ _ _ _ _ _ us hl => match us, hl with | [_, _, _], _ => rfl⟩
  have F6 := fun_mk (st := sm_law_gcd) l6 c6 k6
  have D6 : DefAt K mg "_law_gcd" "_law_gcd" sm_law_gcd ["one", "other"] := ⟨f6, _, PySem.W.mg_of X G a6, F6, F6.binds (ps := ["one", "other"]) fun _ _ _ _ _ _ us hl => match us, hl with | [_, _], _ => rfl⟩
  have F7 := fun_mk (st := sm_law_red) l7 c7 k7
  have D7 : DefAt K mg "_law_red" "_law_red" sm_law_red ["n", "d"] := ⟨f7, _, PySem.W.mg_of X G a7, F7, F7.binds (ps := ["n", "d"]) fun _ _ _ _ _ _ us hl => match us, hl with | [_, _], _ => rfl⟩
  have F8 := fun_mk (st := sm_law_add) l8 c8 k8
  have D8 : DefAt K mg "_law_add" "_law_add" sm_law_add ["one", "other"] := ⟨f8, _, PySem.W.mg_of X G a8, F8, F8.binds (ps := ["one", "other"]) fun _ _ _ _ _ _ us hl => match us, hl with | [_, _], _ => rfl⟩
  have F9 := fun_mk (st := sm_reached) l9 c9 k9
  have D9 : DefAt K mg "reached" "reached" sm_reached ["chain", "start", "walls"] := ⟨f9, _, PySem.W.mg_of X G a9, F9, F9.binds (ps := ["chain", "start", "walls"]) fun _ _ _ _ _ _ us hl => match us, hl with | [_, _, _], _ => rfl⟩
  have F10 := fun_mk (st := sm_closed_parts) l10 c10 k10
  have D10 : DefAt K mg "closed_parts" "closed_parts" sm_closed_parts ["chain"] := ⟨f10, _, PySem.W.mg_of X G a10, F10, F10.binds (ps := ["chain"]) fun _ _ _ _ _ _ us hl => match us, hl with | [_], _ => rfl⟩
  have F11 := fun_mk (st := sm_is_sequence) l11 c11 k11
  have D11 : DefAt K mg "is_sequence" "is_sequence" sm_is_sequence ["x"] := ⟨f11, _, PySem.W.mg_of X G a11, F11, F11.binds (ps := ["x"]) fun _ _ _ _ _ _ us hl => match us, hl with | [_], _ => rfl⟩
  have F12 := fun_mk (st := sm_is_row) l12 c12 k12
  have D12 : DefAt K mg "is_row" "is_row" sm_is_row ["x", "least", "most"] := ⟨f12, _, PySem.W.mg_of X G a12, F12, F12.binds (ps := ["x", "least", "most"]) fun _ _ _ _ _ _ us hl => match us, hl with | [_, _, _], _ => rfl⟩
  have F13 := fun_mk (st := sm_is_integer) l13 c13 k13
  have D13 : DefAt K mg "is_integer" "is_integer" sm_is_integer ["x"] := ⟨f13, _, PySem.W.mg_of X G a13, F13, F13.binds (ps := ["x"]) fun _ _ _ _ _ _ us hl => match us, hl with | [_], _ => rfl⟩
  have F14 := fun_mk (st := sm_is_within) l14 c14 k14
  have D14 : DefAt K mg "is_within" "is_within" sm_is_within ["x", "low", "high"] := ⟨f14, _, PySem.W.mg_of X G a14, F14, F14.binds (ps := ["x", "low", "high"]) fun _ _ _ _ _ _ us hl => match us, hl with | [_, _, _], _ => rfl⟩
  have F15 := fun_mk (st := sm_is_weights) l15 c15 k15
  have D15 : DefAt K mg "is_weights" "is_weights" sm_is_weights ["row", "many"] := ⟨f15, _, PySem.W.mg_of X G a15, F15, F15.binds (ps := ["row", "many"]) fun _ _ _ _ _ _ us hl => match us, hl with | [_, _], _ => rfl⟩
  have F16 := fun_mk (st := sm_is_chain) l16 c16 k16
  have D16 : DefAt K mg "is_chain" "is_chain" sm_is_chain ["chain"] := ⟨f16, _, PySem.W.mg_of X G a16, F16, F16.binds (ps := ["chain"]) fun _ _ _ _ _ _ us hl => match us, hl with | [_], _ => rfl⟩
  have F17 := fun_mk (st := sm_shared_factor) l17 c17 k17
  have D17 : DefAt K mg "shared_factor" "shared_factor" sm_shared_factor ["row"] := ⟨f17, _, PySem.W.mg_of X G a17, F17, F17.binds (ps := ["row"]) fun _ _ _ _ _ _ us hl => match us, hl with | [_], _ => rfl⟩
  have F18 := fun_mk (st := sm_lowered) l18 c18 k18
  have D18 : DefAt K mg "lowered" "lowered" sm_lowered ["row"] := ⟨f18, _, PySem.W.mg_of X G a18, F18, F18.binds (ps := ["row"]) fun _ _ _ _ _ _ us hl => match us, hl with | [_], _ => rfl⟩
  have F19 := fun_mk (st := sm_lead_place) l19 c19 k19
  have D19 : DefAt K mg "lead_place" "lead_place" sm_lead_place ["rows", "at"] := ⟨f19, _, PySem.W.mg_of X G a19, F19, F19.binds (ps := ["rows", "at"]) fun _ _ _ _ _ _ us hl => match us, hl with | [_, _], _ => rfl⟩
  have F20 := fun_mk (st := sm_lowest) l20 c20 k20
  have D20 : DefAt K mg "lowest" "lowest" sm_lowest ["n", "d"] := ⟨f20, _, PySem.W.mg_of X G a20, F20, F20.binds (ps := ["n", "d"]) fun _ _ _ _ _ _ us hl => match us, hl with | [_, _], _ => rfl⟩
  have F21 := fun_mk (st := sm_reduced) l21 c21 k21
  have D21 : DefAt K mg "reduced" "reduced" sm_reduced ["n", "d"] := ⟨f21, _, PySem.W.mg_of X G a21, F21, F21.binds (ps := ["n", "d"]) fun _ _ _ _ _ _ us hl => match us, hl with | [_, _], _ => rfl⟩
  have F22 := fun_mk (st := sm_cleared) l22 c22 k22
  have D22 : DefAt K mg "cleared" "cleared" sm_cleared ["row", "lead", "at"] := ⟨f22, _, PySem.W.mg_of X G a22, F22, F22.binds (ps := ["row", "lead", "at"]) fun _ _ _ _ _ _ us hl => match us, hl with | [_, _, _], _ => rfl⟩
  have F23 := fun_mk (st := sm_solved) l23 c23 k23
  have D23 : DefAt K mg "solved" "solved" sm_solved ["rows"] := ⟨f23, _, PySem.W.mg_of X G a23, F23, F23.binds (ps := ["rows"]) fun _ _ _ _ _ _ us hl => match us, hl with | [_], _ => rfl⟩
  have F24 := fun_mk (st := sm_balance) l24 c24 k24
  have D24 : DefAt K mg "balance" "balance" sm_balance ["chain", "part"] := ⟨f24, _, PySem.W.mg_of X G a24, F24, F24.binds (ps := ["chain", "part"]) fun _ _ _ _ _ _ us hl => match us, hl with | [_, _], _ => rfl⟩
  have F25 := fun_mk (st := sm_long_run) l25 c25 k25
  have D25 : DefAt K mg "long_run" "long_run" sm_long_run ["chain"] := ⟨f25, _, PySem.W.mg_of X G a25, F25, F25.binds (ps := ["chain"]) fun _ _ _ _ _ _ us hl => match us, hl with | [_], _ => rfl⟩
  have F26 := fun_mk (st := sm_law_reach) l26 c26 k26
  have D26 : DefAt K mg "_law_reach" "_law_reach" sm_law_reach ["chain", "start", "stops"] := ⟨f26, _, PySem.W.mg_of X G a26, F26, F26.binds (ps := ["chain", "start", "stops"]) fun _ _ _ _ _ _ us hl => match us, hl with | [_, _, _], _ => rfl⟩
  have F27 := fun_mk (st := sm_law_closed_parts) l27 c27 k27
  have D27 : DefAt K mg "_law_closed_parts" "_law_closed_parts" sm_law_closed_parts ["chain"] := ⟨f27, _, PySem.W.mg_of X G a27, F27, F27.binds (ps := ["chain"]) fun _ _ _ _ _ _ us hl => match us, hl with | [_], _ => rfl⟩
  have F28 := fun_mk (st := sm_law_so) l28 c28 k28
  have D28 : DefAt K mg "_law_so" "_law_so" sm_law_so ["found", "meant"] := ⟨f28, _, PySem.W.mg_of X G a28, F28, F28.binds (ps := ["found", "meant"]) fun _ _ _ _ _ _ us hl => match us, hl with | [_, _], _ => rfl⟩
  have F29 := fun_mk (st := sm_law_listed) l29 c29 k29
  have D29 : DefAt K mg "_law_listed" "_law_listed" sm_law_listed ["value"] := ⟨f29, _, PySem.W.mg_of X G a29, F29, F29.binds (ps := ["value"]) fun _ _ _ _ _ _ us hl => match us, hl with | [_], _ => rfl⟩
  have F30 := fun_mk (st := sm_law_handed) l30 c30 k30
  have D30 : DefAt K mg "_law_handed" "_law_handed" sm_law_handed ["row", "spot", "value"] := ⟨f30, _, PySem.W.mg_of X G a30, F30, F30.binds (ps := ["row", "spot", "value"]) fun _ _ _ _ _ _ us hl => match us, hl with | [_, _, _], _ => rfl⟩
  have F31 := fun_mk (st := sm_law_div) l31 c31 k31
  have D31 : DefAt K mg "_law_div" "_law_div" sm_law_div ["one", "other"] := ⟨f31, _, PySem.W.mg_of X G a31, F31, F31.binds (ps := ["one", "other"]) fun _ _ _ _ _ _ us hl => match us, hl with | [_, _], _ => rfl⟩
  have F32 := fun_mk (st := sm_law_sub) l32 c32 k32
  have D32 : DefAt K mg "_law_sub" "_law_sub" sm_law_sub ["one", "other"] := ⟨f32, _, PySem.W.mg_of X G a32, F32, F32.binds (ps := ["one", "other"]) fun _ _ _ _ _ _ us hl => match us, hl with | [_, _], _ => rfl⟩
  have F33 := fun_mk (st := sm_law_mul) l33 c33 k33
  have D33 : DefAt K mg "_law_mul" "_law_mul" sm_law_mul ["one", "other"] := ⟨f33, _, PySem.W.mg_of X G a33, F33, F33.binds (ps := ["one", "other"]) fun _ _ _ _ _ _ us hl => match us, hl with | [_, _], _ => rfl⟩
  have F34 := fun_mk (st := sm_law_solve) l34 c34 k34
  have D34 : DefAt K mg "_law_solve" "_law_solve" sm_law_solve ["rows"] := ⟨f34, _, PySem.W.mg_of X G a34, F34, F34.binds (ps := ["rows"]) fun _ _ _ _ _ _ us hl => match us, hl with | [_], _ => rfl⟩
  have F35 := fun_mk (st := sm_law_shares) l35 c35 k35
  have D35 : DefAt K mg "_law_shares" "_law_shares" sm_law_shares ["chain", "s"] := ⟨f35, _, PySem.W.mg_of X G a35, F35, F35.binds (ps := ["chain", "s"]) fun _ _ _ _ _ _ us hl => match us, hl with | [_, _], _ => rfl⟩
  have F36 := fun_mk (st := sm_law_long_run) l36 c36 k36
  have D36 : DefAt K mg "_law_long_run" "_law_long_run" sm_law_long_run ["chain"] := ⟨f36, _, PySem.W.mg_of X G a36, F36, F36.binds (ps := ["chain"]) fun _ _ _ _ _ _ us hl => match us, hl with | [_], _ => rfl⟩
  have F37 := fun_mk (st := sm_law) l37 c37 k37
  have D37 : DefAtC K mg "law" "law" sm_law ["script"] cL := ⟨f37, _, PySem.W.mg_of X G a37, F37, F37.binds (ps := ["script"]) (fun _ _ _ _ _ _ us hl => match us, hl with | [_], _ => rfl), rfl⟩
  have F38 := fun_mk (st := sm_law_told) l38 c38 k38
  have D38 : DefAt K mg "_law_told" "_law_told" sm_law_told ["deed"] := ⟨f38, _, PySem.W.mg_of X G a38, F38, F38.binds (ps := ["deed"]) fun _ _ _ _ _ _ us hl => match us, hl with | [_], _ => rfl⟩
  have TT : TellTxt K mg sm_law_told := tell_mk D38 rx_BadValue rx_BadText rx_Unknown rx_NoChance rx_Crowded rx_NoDay rx_Missing rx_TakenName rx_Short hexm
  refine ⟨PySem.W.fnOf "law" "law" (defArgs sm_law) (defBody sm_law) (defScope sm_law) .none kV37 dc37 pm37 an37 (.ref cL) ct37, cL, PL, tabIn_mk a37 l37 rfl lL vL, nL, fun s v => .of_eq rfl, fun base _ _ TB => ?_⟩
  have GL : Good l.prog w K mg base "law" 32 ["script"] m_law := by
    have gm_law_numbers : Good l.prog w K mg base "_law_numbers" 1 ["script"] m_law_numbers := goodm_law_numbers T D1 
    have gm_law_draw : Good l.prog w K mg base "_law_draw" 1 ["row", "at", "limit"] m_law_draw := goodm_law_draw T D2 
    have gm_law_take : Good l.prog w K mg base "_law_take" 2 ["row", "spot", "limit"] m_law_take := goodm_law_take T D3 gm_law_draw
    have gm_law_pick : Good l.prog w K mg base "_law_pick" 3 ["row", "spot", "things"] m_law_pick := goodm_law_pick T D4 gm_law_take
    have gm_law_chain : Good l.prog w K mg base "_law_chain" 4 ["row", "spot", "most"] m_law_chain := goodm_law_chain T D5 gm_law_take gm_law_pick
    have gm_law_gcd : Good l.prog w K mg base "_law_gcd" 1 ["one", "other"] m_law_gcd := goodm_law_gcd T D6 
    have gm_law_red : ∀ n, Good l.prog w K mg base "_law_red" (2 + n) ["n", "d"] (m_law_red n) := goodm_law_red T D7 gm_law_gcd
    have gm_law_add : Good l.prog w K mg base "_law_add" 27 ["one", "other"] m_law_add := goodm_law_add T D8 gm_law_red
    have gm_reached : Good l.prog w K mg base "reached" 1 ["chain", "start", "walls"] m_reached := goodm_reached T D9 
    have gm_closed_parts : Good l.prog w K mg base "closed_parts" 2 ["chain"] m_closed_parts := goodm_closed_parts T D10 gm_reached
    have gm_is_sequence : Good l.prog w K mg base "is_sequence" 1 ["x"] m_is_sequence := goodm_is_sequence T D11 
    have gm_is_row : Good l.prog w K mg base "is_row" 2 ["x", "least", "most"] m_is_row := goodm_is_row T D12 gm_is_sequence
    have gm_is_integer : Good l.prog w K mg base "is_integer" 1 ["x"] m_is_integer := goodm_is_integer T D13 
    have gm_is_within : Good l.prog w K mg base "is_within" 2 ["x", "low", "high"] m_is_within := goodm_is_within T D14 gm_is_integer
    have gm_is_weights : Good l.prog w K mg base "is_weights" 3 ["row", "many"] m_is_weights := goodm_is_weights T D15 gm_is_row gm_is_within
    have gm_is_chain : Good l.prog w K mg base "is_chain" 4 ["chain"] m_is_chain := goodm_is_chain T D16 gm_is_row gm_is_weights
    have gm_shared_factor : Good l.prog w K mg base "shared_factor" 1 ["row"] m_shared_factor := goodm_shared_factor T D17 
    have gm_lowered : Good l.prog w K mg base "lowered" 2 ["row"] m_lowered := goodm_lowered T D18 gm_shared_factor
    have gm_lead_place : Good l.prog w K mg base "lead_place" 1 ["rows", "at"] m_lead_place := goodm_lead_place T D19 
    have gm_lowest : Good l.prog w K mg base "lowest" 1 ["n", "d"] m_lowest := goodm_lowest T D20 
    have gm_reduced : Good l.prog w K mg base "reduced" 3 ["n", "d"] m_reduced := goodm_reduced T D21 gm_lowest gm_is_integer
    have gm_cleared : Good l.prog w K mg base "cleared" 3 ["row", "lead", "at"] m_cleared := goodm_cleared T D22 gm_lowered
    have gm_solved : Good l.prog w K mg base "solved" 4 ["rows"] m_solved := goodm_solved T D23 gm_lowered gm_lead_place gm_reduced gm_cleared
    have gm_balance : Good l.prog w K mg base "balance" 5 ["chain", "part"] m_balance := goodm_balance T D24 gm_solved gm_reduced
    have gm_long_run : Good l.prog w K mg base "long_run" 6 ["chain"] m_long_run := goodm_long_run T D25 gm_closed_parts gm_is_chain gm_balance
    have gm_law_reach : Good l.prog w K mg base "_law_reach" 1 ["chain", "start", "stops"] m_law_reach := goodm_law_reach T D26 
    have gm_law_closed_parts : Good l.prog w K mg base "_law_closed_parts" 2 ["chain"] m_law_closed_parts := goodm_law_closed_parts T D27 gm_law_reach
    have gm_law_so : ∀ n, Good l.prog w K mg base "_law_so" (1 + n) ["found", "meant"] (m_law_so n) := goodm_law_so T D28 
    have gm_law_listed : ∀ n, Good l.prog w K mg base "_law_listed" (1 + n) ["value"] (m_law_listed n) := goodm_law_listed T D29 
    have gm_law_handed : Good l.prog w K mg base "_law_handed" 26 ["row", "spot", "value"] m_law_handed := goodm_law_handed T D30 gm_law_listed gm_law_take
    have gm_law_div : Good l.prog w K mg base "_law_div" 27 ["one", "other"] m_law_div := goodm_law_div T D31 gm_law_red
    have gm_law_sub : Good l.prog w K mg base "_law_sub" 27 ["one", "other"] m_law_sub := goodm_law_sub T D32 gm_law_red
    have gm_law_mul : Good l.prog w K mg base "_law_mul" 27 ["one", "other"] m_law_mul := goodm_law_mul T D33 gm_law_red
    have gm_law_solve : Good l.prog w K mg base "_law_solve" 28 ["rows"] m_law_solve := goodm_law_solve T D34 gm_law_div gm_law_sub gm_law_mul
    have gm_law_shares : Good l.prog w K mg base "_law_shares" 27 ["chain", "s"] m_law_shares := goodm_law_shares T D35 gm_law_red
    have gm_law_long_run : Good l.prog w K mg base "_law_long_run" 29 ["chain"] m_law_long_run := goodm_law_long_run T D36 gm_law_solve gm_law_closed_parts gm_law_shares gm_law_sub
    exact goodm_law T D37 TT TB gm_law_numbers gm_law_chain gm_law_add gm_long_run gm_law_closed_parts gm_law_so gm_law_handed gm_law_long_run gm_law_mul gm_law_shares
  obtain ⟨fz, fdz, gz, _, _, ⟨o1, o2, o3, lk⟩, Fz⟩ := GL
  have e1 : fz = f37 := by
    have z := gz.symm.trans (PySem.W.mg_of X G a37)
    cases z; rfl
  rw [e1] at lk Fz
  have e2 := lk.symm.trans l37
  cases e2
  exact Fz.imp fun vs H Q E z => law_sp hlaw z
end Mp
open PySem PySem.W PyProof.Rows
set_option maxRecDepth 100000 in
set_option maxHeartbeats 0 in
theorem PySem.Challenge.cw_mendplan_k41_whole_long_runs_holds : PySem.Challenge.rw_mendplan_k41_whole_long_runs.Holds := by
  w_on; o_law; k_head; (case hw => w_witness2)
  k_fill
  refine Mp.walk_law (l := PySem.Challenge.rw_mendplan_k41_whole_long_runs) (k := 32) rfl rfl ⟨rfl, by decide, by decide⟩ (fun w h Y => PySem.W.km_in_of Y) ⟨_, rfl⟩ ?F
  case F =>
    intro w mg fa h KX G hmg
    refine' Mp.all_mk KX G hmg ?a1 ?l1 ?c1 ?k1 ?a2 ?l2 ?c2 ?k2 ?a3 ?l3 ?c3 ?k3 ?a4 ?l4 ?c4 ?k4 ?a5 ?l5 ?c5 ?k5 ?a6 ?l6 ?c6 ?k6 ?a7 ?l7 ?c7 ?k7 ?a8 ?l8 ?c8 ?k8 ?a9 ?l9 ?c9 ?k9 ?a10 ?l10 ?c10 ?k10 ?a11 ?l11 ?c11 ?k11 ?a12 ?l12 ?c12 ?k12 ?a13 ?l13 ?c13 ?k13 ?a14 ?l14 ?c14 ?k14 ?a15 ?l15 ?c15 ?k15 ?a16 ?l16 ?c16 ?k16 ?a17 ?l17 ?c17 ?k17 ?a18 ?l18 ?c18 ?k18 ?a19 ?l19 ?c19 ?k19 ?a20 ?l20 ?c20 ?k20 ?a21 ?l21 ?c21 ?k21 ?a22 ?l22 ?c22 ?k22 ?a23 ?l23 ?c23 ?k23 ?a24 ?l24 ?c24 ?k24 ?a25 ?l25 ?c25 ?k25 ?a26 ?l26 ?c26 ?k26 ?a27 ?l27 ?c27 ?k27 ?a28 ?l28 ?c28 ?k28 ?a29 ?l29 ?c29 ?k29 ?a30 ?l30 ?c30 ?k30 ?a31 ?l31 ?c31 ?k31 ?a32 ?l32 ?c32 ?k32 ?a33 ?l33 ?c33 ?k33 ?a34 ?l34 ?c34 ?k34 ?a35 ?l35 ?c35 ?k35 ?a36 ?l36 ?c36 ?k36 ?a37 ?l37 ?c37 ?k37 ?a38 ?l38 ?c38 ?k38 ?lL ?vL ?nL ?zb_range ?zb_int ?zb_len ?zb_sum ?zb_tuple ?zb_enumerate ?zb_sorted ?zb_all ?zb_isinstance ?zb_list ?zb_bool ?zb_max ?zb_zip ?zb_str ?zi_gcd ?zc_MOST_WEIGHT ?zc_MOST_STATES ?ax_BadValue ?ex_BadValue ?nx_BadValue_at ?lx_BadValue ?mx_BadValue ?sx__BadValue ?tx_BadValue ?kx_BadValue ?ix_BadValue ?jx_BadValue ?ux_BadValue ?cx_BadValue ?wx_BadValue ?gx_BadValue ?hx_BadValue ?dx_BadValue ?ax_NoChance ?ex_NoChance ?nx_NoChance_word ?lx_NoChance ?mx_NoChance ?sx__NoChance ?tx_NoChance ?kx_NoChance ?ix_NoChance ?jx_NoChance ?ux_NoChance ?cx_NoChance ?wx_NoChance ?gx_NoChance ?hx_NoChance ?dx_NoChance ?ax_BadText ?ex_BadText ?nx_BadText_at ?gx_BadText ?hx_BadText ?dx_BadText ?ax_Unknown ?ex_Unknown ?nx_Unknown_name ?gx_Unknown ?hx_Unknown ?dx_Unknown ?ax_Crowded ?ex_Crowded ?nx_Crowded_first ?nx_Crowded_last ?gx_Crowded ?hx_Crowded ?dx_Crowded ?ax_NoDay ?ex_NoDay ?nx_NoDay_name ?gx_NoDay ?hx_NoDay ?dx_NoDay ?ax_Missing ?ex_Missing ?nx_Missing_at ?gx_Missing ?hx_Missing ?dx_Missing ?ax_TakenName ?ex_TakenName ?nx_TakenName_name ?gx_TakenName ?hx_TakenName ?dx_TakenName ?ax_Short ?ex_Short ?nx_Short_rows ?gx_Short ?hx_Short ?dx_Short ?hexm Mp.law_ok
    (case a1 => k_is)
    (case l1 => k_is)
    (case c1 => k_is)
    (case k1 => k_is)
    (case a2 => k_is)
    (case l2 => k_is)
    (case c2 => k_is)
    (case k2 => k_is)
    (case a3 => k_is)
    (case l3 => k_is)
    (case c3 => k_is)
    (case k3 => k_is)
    (case a4 => k_is)
    (case l4 => k_is)
    (case c4 => k_is)
    (case k4 => k_is)
    (case a5 => k_is)
    (case l5 => k_is)
    (case c5 => k_is)
    (case k5 => k_is)
    (case a6 => k_is)
    (case l6 => k_is)
    (case c6 => k_is)
    (case k6 => k_is)
    (case a7 => k_is)
    (case l7 => k_is)
    (case c7 => k_is)
    (case k7 => k_is)
    (case a8 => k_is)
    (case l8 => k_is)
    (case c8 => k_is)
    (case k8 => k_is)
    (case a9 => k_is)
    (case l9 => k_is)
    (case c9 => k_is)
    (case k9 => k_is)
    (case a10 => k_is)
    (case l10 => k_is)
    (case c10 => k_is)
    (case k10 => k_is)
    (case a11 => k_is)
    (case l11 => k_is)
    (case c11 => k_is)
    (case k11 => k_is)
    (case a12 => k_is)
    (case l12 => k_is)
    (case c12 => k_is)
    (case k12 => k_is)
    (case a13 => k_is)
    (case l13 => k_is)
    (case c13 => k_is)
    (case k13 => k_is)
    (case a14 => k_is)
    (case l14 => k_is)
    (case c14 => k_is)
    (case k14 => k_is)
    (case a15 => k_is)
    (case l15 => k_is)
    (case c15 => k_is)
    (case k15 => k_is)
    (case a16 => k_is)
    (case l16 => k_is)
    (case c16 => k_is)
    (case k16 => k_is)
    (case a17 => k_is)
    (case l17 => k_is)
    (case c17 => k_is)
    (case k17 => k_is)
    (case a18 => k_is)
    (case l18 => k_is)
    (case c18 => k_is)
    (case k18 => k_is)
    (case a19 => k_is)
    (case l19 => k_is)
    (case c19 => k_is)
    (case k19 => k_is)
    (case a20 => k_is)
    (case l20 => k_is)
    (case c20 => k_is)
    (case k20 => k_is)
    (case a21 => k_is)
    (case l21 => k_is)
    (case c21 => k_is)
    (case k21 => k_is)
    (case a22 => k_is)
    (case l22 => k_is)
    (case c22 => k_is)
    (case k22 => k_is)
    (case a23 => k_is)
    (case l23 => k_is)
    (case c23 => k_is)
    (case k23 => k_is)
    (case a24 => k_is)
    (case l24 => k_is)
    (case c24 => k_is)
    (case k24 => k_is)
    (case a25 => k_is)
    (case l25 => k_is)
    (case c25 => k_is)
    (case k25 => k_is)
    (case a26 => k_is)
    (case l26 => k_is)
    (case c26 => k_is)
    (case k26 => k_is)
    (case a27 => k_is)
    (case l27 => k_is)
    (case c27 => k_is)
    (case k27 => k_is)
    (case a28 => k_is)
    (case l28 => k_is)
    (case c28 => k_is)
    (case k28 => k_is)
    (case a29 => k_is)
    (case l29 => k_is)
    (case c29 => k_is)
    (case k29 => k_is)
    (case a30 => k_is)
    (case l30 => k_is)
    (case c30 => k_is)
    (case k30 => k_is)
    (case a31 => k_is)
    (case l31 => k_is)
    (case c31 => k_is)
    (case k31 => k_is)
    (case a32 => k_is)
    (case l32 => k_is)
    (case c32 => k_is)
    (case k32 => k_is)
    (case a33 => k_is)
    (case l33 => k_is)
    (case c33 => k_is)
    (case k33 => k_is)
    (case a34 => k_is)
    (case l34 => k_is)
    (case c34 => k_is)
    (case k34 => k_is)
    (case a35 => k_is)
    (case l35 => k_is)
    (case c35 => k_is)
    (case k35 => k_is)
    (case a36 => k_is)
    (case l36 => k_is)
    (case c36 => k_is)
    (case k36 => k_is)
    (case a37 => k_is)
    (case l37 => k_is)
    (case c37 => k_is)
    (case k37 => k_is)
    (case a38 => k_is)
    (case l38 => k_is)
    (case c38 => k_is)
    (case k38 => k_is)
    (case lL => k_is)
    (case vL => exact rfl)
    (case nL => exact rfl)
    (case zb_range => k_is)
    (case zb_int => k_is)
    (case zb_len => k_is)
    (case zb_sum => k_is)
    (case zb_tuple => k_is)
    (case zb_enumerate => k_is)
    (case zb_sorted => k_is)
    (case zb_all => k_is)
    (case zb_isinstance => k_is)
    (case zb_list => k_is)
    (case zb_bool => k_is)
    (case zb_max => k_is)
    (case zb_zip => k_is)
    (case zb_str => k_is)
    (case zi_gcd => k_is)
    (case zc_MOST_WEIGHT => k_is)
    (case zc_MOST_STATES => k_is)
    (case ax_BadValue => k_is)
    (case ex_BadValue => k_is)
    (case nx_BadValue_at => k_is)
    (case lx_BadValue => k_is)
    (case mx_BadValue => exact (by decide +kernel))
    (case sx__BadValue => k_is)
    (case tx_BadValue => k_is)
    (case kx_BadValue => k_is)
    (case ix_BadValue => k_is)
    (case jx_BadValue => k_is)
    (case ux_BadValue => k_is)
    (case cx_BadValue => k_is)
    (case wx_BadValue => k_is)
    (case gx_BadValue => k_is)
    (case hx_BadValue => k_is)
    (case dx_BadValue => k_is)
    (case ax_NoChance => k_is)
    (case ex_NoChance => k_is)
    (case nx_NoChance_word => k_is)
    (case lx_NoChance => k_is)
    (case mx_NoChance => exact (by decide +kernel))
    (case sx__NoChance => k_is)
    (case tx_NoChance => k_is)
    (case kx_NoChance => k_is)
    (case ix_NoChance => k_is)
    (case jx_NoChance => k_is)
    (case ux_NoChance => k_is)
    (case cx_NoChance => k_is)
    (case wx_NoChance => k_is)
    (case gx_NoChance => k_is)
    (case hx_NoChance => k_is)
    (case dx_NoChance => k_is)
    (case ax_BadText => k_is)
    (case ex_BadText => k_is)
    (case nx_BadText_at => k_is)
    (case gx_BadText => k_is)
    (case hx_BadText => k_is)
    (case dx_BadText => k_is)
    (case ax_Unknown => k_is)
    (case ex_Unknown => k_is)
    (case nx_Unknown_name => k_is)
    (case gx_Unknown => k_is)
    (case hx_Unknown => k_is)
    (case dx_Unknown => k_is)
    (case ax_Crowded => k_is)
    (case ex_Crowded => k_is)
    (case nx_Crowded_first => k_is)
    (case nx_Crowded_last => k_is)
    (case gx_Crowded => k_is)
    (case hx_Crowded => k_is)
    (case dx_Crowded => k_is)
    (case ax_NoDay => k_is)
    (case ex_NoDay => k_is)
    (case nx_NoDay_name => k_is)
    (case gx_NoDay => k_is)
    (case hx_NoDay => k_is)
    (case dx_NoDay => k_is)
    (case ax_Missing => k_is)
    (case ex_Missing => k_is)
    (case nx_Missing_at => k_is)
    (case gx_Missing => k_is)
    (case hx_Missing => k_is)
    (case dx_Missing => k_is)
    (case ax_TakenName => k_is)
    (case ex_TakenName => k_is)
    (case nx_TakenName_name => k_is)
    (case gx_TakenName => k_is)
    (case hx_TakenName => k_is)
    (case dx_TakenName => k_is)
    (case ax_Short => k_is)
    (case ex_Short => k_is)
    (case nx_Short_rows => k_is)
    (case gx_Short => k_is)
    (case hx_Short => k_is)
    (case dx_Short => k_is)
    (case hexm => exact (by kernel_rfl))
