import PyProof.Rows.All
import Wide.All
import OpenK.AllK
import Wide.FinOn
import HandS.ForMost
import HandS.ForExc
import HandS.Lambda
import KE.KNest
import HandS.Wide
import HandS.WideBits
import HandS.IsInst
import HandS.Gcd
import HandS.TupAny
import HandS.Codes
import HandS.Zip
import HandS.SortInts
import HandS.EndTab
import KE.GoesEnum
import KE.KMathGC
import KE.GoesZip
import HandS.DictComp
import HandS.More
import HandS.Iter
import HandS.ExcInit
import HandS.ExcSuper
import HandS.ExcField
import HandS.TryMany
import HandS.Flow
import HandS.Style
import KE.GoesMore
import HandS.Deep
import HandS.SortKw
import KE.DataMinMax
import PySem.Challenge.RW_mendplan_k60_whole_hands
set_option Elab.async false
set_option linter.all false
set_option maxRecDepth 100000
set_option maxHeartbeats 4000000
/-! LayA: data, cells, worlds; what a value of the program stands for. -/
namespace Mp
open PySem PySem.Spec PyProof.Rows L2

inductive D where
  | non | bl (b : Bool) | int (i : Int) | str (x : Str) | tup (xs : List D) | lst (xs : List D) | scr (xs : List D) | dct (ks : List Key) (ds : List D) | ref (n : Nat) | ty (n : String)
  deriving Inhabited
inductive C where
  | lst (xs : List D) | dct (ks : List Key) (ds : List D)
  deriving Inhabited
abbrev Hc := List C
abbrev Sl := List (Option D)
/-- what an expression comes to -/
inductive R (α : Type) where
  | ok (a : α) (h : Hc) | ex (x : Str) (fs : List Str) (ds : List D) (h : Hc) | bad
def R.bd {α β : Type} (r : R α) (f : α → Hc → R β) : R β := match r with
  | .ok a h => f a h
  | .ex x fs ds h => .ex x fs ds h
  | .bad => .bad
@[simp] theorem R.bd_ok {α β : Type} (a : α) (h : Hc) (f : α → Hc → R β) : (R.ok a h).bd f = f a h := Eq.trans rfl rfl
/-- where the law's table of code objects stands -/
def tabT (K : PySem.W.Frag) : List (Addr × Str) := match PySem.W.tabIn K "law" with
  | some (_, P) => [(P, "law.<locals>.<lambda>")]
  | none => []
abbrev TabsK (K : PySem.W.Frag) (H : Hp) : Prop := LamX.Tabs (tabT K) H
/-- a world: the addresses that may change, where the cells stand, how many, the tracked heap -/
structure Wo where
  A : Addr → Prop
  β : Nat → Addr
  n : Nat
  H : Hp
structure Ext (ω ω' : Wo) : Prop where
  n : ω.n ≤ ω'.n
  b : ∀ i, i < ω.n → ω'.β i = ω.β i
  a : ∀ q, ω.A q → ω'.A q
  aN : ∀ q, ω'.A q → ω.A q ∨ ω.H q = none
  nw : ∀ i, ω.n ≤ i → i < ω'.n → ω.H (ω'.β i) = none
  dom : ∀ q, ω'.H q = none → ω.H q = none
  keep : ∀ q o, ω.H q = some o → (∀ ps, o ≠ .tbl ps) → (∀ i, i < ω.n → ω.β i ≠ q) → ω'.H q = some o
theorem Ext.refl (ω : Wo) : Ext ω ω := ⟨Nat.le_refl _, fun _ _ => rfl, fun _ h => h, fun _ h => .inl h, fun i h1 h2 => absurd h2 (Nat.not_lt.mpr h1), fun _ h => h, fun _ _ h _ _ => h⟩
theorem Ext.trans {ω ω1 ω2 : Wo} (x : Ext ω ω1) (y : Ext ω1 ω2) : Ext ω ω2 where
  n := Nat.le_trans x.n y.n
  b := fun i h => (y.b i (Nat.lt_of_lt_of_le h x.n)).trans (x.b i h)
  a := fun q h => y.a q (x.a q h)
  aN := fun q h => by
    rcases y.aN q h with z | z
    · exact x.aN q z
    · exact .inr (x.dom q z)
  nw := fun i h1 h2 => by
    by_cases h : i < ω1.n
    · rw [y.b i h]; exact x.nw i h1 h
    · exact x.dom _ (y.nw i (Nat.not_lt.mp h) h2)
  dom := fun q h => x.dom q (y.dom q h)
  keep := fun q o h nt hb => y.keep q o (x.keep q o h nt hb) nt fun i hi e => by
    by_cases h' : i < ω.n
    · rw [x.b i h'] at e; exact hb i h' e
    · have z := x.nw i (Nat.not_lt.mp h') hi
      rw [e, h] at z; cases z

section
variable (K : PySem.W.Frag)
/-- a written list -/
def WrL (p : Addr) (vs : List V) : Prop :=
  ∃ (o : Obj) (its : Array Value) (n : Nat), K.lookup p = some o ∧ o.cls = .type "list" ∧ o.dict = none ∧ o.data = .seq its n ∧ its.size ≤ sizeLine ∧ Vals vs its.toList
/-- a list that nobody changes any more; one that is locked or written -/
def FzL (ω : Wo) (p : Addr) (vs : List V) : Prop := ω.H p = some (.lst vs) ∧ ¬ ω.A p
def LkL (ω : Wo) (p : Addr) (vs : List V) : Prop := (∃ o, ω.H p = some (.frz o (.lst vs))) ∨ WrL K p vs
theorem LkL.sq {K : PySem.W.Frag} {ω : Wo} {p : Addr} {vs : List V} (h : LkL K ω p vs) : SqL K ω.H p vs := by
  rcases h with ⟨o, h⟩ | h
  · exact .inl (.inr ⟨o, h⟩)
  · exact .inr h
mutual
def RelD (ω : Wo) : D → V → Prop
  | .non, v => v = .non
  | .bl b, v => v = .bl b
  | .int i, v => v = .int i
  | .str x, v => v = .str x
  | .ty t, v => v = .ty t
  | .tup ds, v => ∃ p vs, v = .ref p ∧ SqT K ω.H p vs ∧ RelL ω ds vs
  | .lst ds, v => ∃ p vs, v = .ref p ∧ FzL ω p vs ∧ RelL ω ds vs
  | .scr ds, v => ∃ p vs, v = .ref p ∧ LkL K ω p vs ∧ RelL ω ds vs
  | .dct ks ds, v => ∃ p vs, v = .ref p ∧ (ω.H p = some (.dK (ks.zip vs)) ∧ ¬ ω.A p) ∧ ks.length = vs.length ∧ RelL ω ds vs
  | .ref i, v => i < ω.n ∧ v = .ref (ω.β i)
def RelL (ω : Wo) : List D → List V → Prop
  | [], vs => vs = []
  | d :: ds, vs => ∃ v ws, vs = v :: ws ∧ RelD ω d v ∧ RelL ω ds ws
end
def RelC (ω : Wo) (p : Addr) : C → Prop
  | .lst ds => ∃ vs, ω.H p = some (.lst vs) ∧ RelL K ω ds vs
  | .dct ks ds => ∃ vs, ω.H p = some (.dK (ks.zip vs)) ∧ ks.length = vs.length ∧ RelL K ω ds vs
structure Rel (ω : Wo) (h : Hc) : Prop where
  n : ω.n = h.length
  inj : ∀ i j, i < ω.n → j < ω.n → ω.β i = ω.β j → i = j
  inA : ∀ i, i < ω.n → ω.A (ω.β i)
  sub : ∀ q, ω.A q → ω.H q ≠ none
  cel : ∀ i c, h[i]? = some c → RelC K ω (ω.β i) c
  tabs : TabsK K ω.H
def RelS (ω : Wo) (ds : Sl) (σ : L2.St) : Prop := ds.length = σ.length ∧ ∀ (i : Nat) (d : D), ds[i]? = some (some d) → ∃ v, σ[i]? = some (some v) ∧ RelD K ω d v
end
section
variable {K : PySem.W.Frag} {ω ω' : Wo} {h h' : Hc} {d : D} {v : V} {ds : List D} {vs : List V} {p : Addr}
theorem Rel.mut (r : Rel K ω h) {i : Nat} (hi : i < ω.n) : ∃ o, ω.H (ω.β i) = some o ∧ ((∃ xs, o = .lst xs) ∨ ∃ xs, o = .dK xs) := by
  rw [r.n] at hi
  have c := r.cel i h[i] (List.getElem?_eq_getElem hi)
  cases e : h[i] with
  | lst xs => rw [e] at c; obtain ⟨vs, e, _⟩ := c; exact ⟨_, e, .inl ⟨_, rfl⟩⟩
  | dct ks xs => rw [e] at c; obtain ⟨vs, e, _⟩ := c; exact ⟨_, e, .inr ⟨_, rfl⟩⟩
theorem Rel.kept (r : Rel K ω h) (e : Ext ω ω') {p : Addr} {o : HO} (h1 : ω.H p = some o) (h2 : ¬ ω.A p ∨ ¬ ((∃ xs, o = .lst xs) ∨ ∃ xs, o = .dK xs)) (nt : ∀ ps, o ≠ .tbl ps := by intro _ z; cases z) : ω'.H p = some o :=
  e.keep p o h1 nt fun i hi eq => by
    rcases h2 with h2 | h2
    · exact h2 (eq ▸ r.inA i hi)
    · obtain ⟨o', e1, e2⟩ := r.mut hi
      rw [eq, h1] at e1; cases e1
      exact h2 e2
theorem Rel.offA (r : Rel K ω h) (e : Ext ω ω') {p : Addr} {o : HO} (h1 : ω.H p = some o) (h2 : ¬ ω.A p) : ¬ ω'.A p := fun z => by
  rcases e.aN p z with z | z
  · exact h2 z
  · rw [h1] at z; cases z
theorem Rel.sqT (r : Rel K ω h) (e : Ext ω ω') (x : SqT K ω.H p vs) : SqT K ω'.H p vs := by
  rcases x with (x | ⟨o, x⟩) | x
  · exact .inl (.inl (r.kept e x (.inr (by rintro (⟨_, q⟩ | ⟨_, q⟩) <;> cases q))))
  · exact .inl (.inr ⟨o, r.kept e x (.inr (by rintro (⟨_, q⟩ | ⟨_, q⟩) <;> cases q))⟩)
  · exact .inr x
theorem Rel.fzd (r : Rel K ω h) (e : Ext ω ω') {o : HO} (x : ω.H p = some o) (n : ¬ ω.A p) (nt : ∀ ps, o ≠ .tbl ps := by intro _ z; cases z) : ω'.H p = some o ∧ ¬ ω'.A p := ⟨r.kept e x (.inl n) nt, r.offA e x n⟩
theorem Rel.lk (r : Rel K ω h) (e : Ext ω ω') (x : LkL K ω p vs) : LkL K ω' p vs := by
  rcases x with ⟨o, x⟩ | x
  · exact .inl ⟨o, r.kept e x (.inr (by rintro (⟨_, q⟩ | ⟨_, q⟩) <;> cases q))⟩
  · exact .inr x
mutual
theorem mono (r : Rel K ω h) (e : Ext ω ω') : ∀ (d : D) (v : V), RelD K ω d v → RelD K ω' d v
  | .non, v, x => by unfold RelD at x ⊢; exact x
  | .bl b, v, x => by unfold RelD at x ⊢; exact x
  | .int i, v, x => by unfold RelD at x ⊢; exact x
  | .str s, v, x => by unfold RelD at x ⊢; exact x
  | .ty t, v, x => by unfold RelD at x ⊢; exact x
  | .tup ds, v, x => by
    unfold RelD at x ⊢
    obtain ⟨p, vs, e1, e2, e3⟩ := x
    exact ⟨p, vs, e1, r.sqT e e2, monoL r e ds vs e3⟩
  | .lst ds, v, x => by
    unfold RelD at x ⊢
    obtain ⟨p, vs, e1, e2, e3⟩ := x
    exact ⟨p, vs, e1, r.fzd e e2.1 e2.2, monoL r e ds vs e3⟩
  | .scr ds, v, x => by
    unfold RelD at x ⊢
    obtain ⟨p, vs, e1, e2, e3⟩ := x
    exact ⟨p, vs, e1, r.lk e e2, monoL r e ds vs e3⟩
  | .dct ks ds, v, x => by
    unfold RelD at x ⊢
    obtain ⟨p, vs, e1, e2, e3, e4⟩ := x
    exact ⟨p, vs, e1, r.fzd e e2.1 e2.2, e3, monoL r e ds vs e4⟩
  | .ref i, v, x => by
    unfold RelD at x ⊢
    exact ⟨Nat.lt_of_lt_of_le x.1 e.n, by rw [x.2, e.b i x.1]⟩
theorem monoL (r : Rel K ω h) (e : Ext ω ω') : ∀ (ds : List D) (vs : List V), RelL K ω ds vs → RelL K ω' ds vs
  | [], vs, x => by unfold RelL at x ⊢; exact x
  | d :: ds, vs, x => by
    unfold RelL at x ⊢
    obtain ⟨v, ws, e1, e2, e3⟩ := x
    exact ⟨v, ws, e1, mono r e d v e2, monoL r e ds ws e3⟩
end
theorem monoS (r : Rel K ω h) (e : Ext ω ω') {ds : Sl} {σ : L2.St} (x : RelS K ω ds σ) : RelS K ω' ds σ :=
  ⟨x.1, fun i d hd => let ⟨v, e1, e2⟩ := x.2 i d hd; ⟨v, e1, mono r e d v e2⟩⟩
/-! ### lists of data -/
theorem RelL.nil : RelL K ω [] [] := by unfold RelL; rfl
theorem RelL.cons (a : RelD K ω d v) (b : RelL K ω ds vs) : RelL K ω (d :: ds) (v :: vs) := by
  show RelL K ω (d :: ds) (v :: vs)
  unfold RelL; exact ⟨v, vs, rfl, a, b⟩
theorem RelL.len : ∀ {ds : List D} {vs : List V}, RelL K ω ds vs → ds.length = vs.length
  | [], vs, x => by unfold RelL at x; subst x; rfl
  | d :: ds, vs, x => by
    unfold RelL at x
    obtain ⟨v, ws, e1, e2, e3⟩ := x
    rw [e1, List.length_cons, List.length_cons, RelL.len e3]
theorem RelL.get : ∀ {ds : List D} {vs : List V} {i : Nat} {d : D}, RelL K ω ds vs → ds[i]? = some d → ∃ v, vs[i]? = some v ∧ RelD K ω d v
  | [], vs, i, d, x, e => by simp at e
  | d :: ds, vs, 0, d', x, e => by
    unfold RelL at x
    obtain ⟨v, ws, rfl, e2, e3⟩ := x
    have e' : d = d' := by simpa using e
    subst e'
    exact ⟨v, rfl, e2⟩
  | d :: ds, vs, i + 1, d', x, e => by
    unfold RelL at x
    obtain ⟨v, ws, rfl, e2, e3⟩ := x
    obtain ⟨v', q1, q2⟩ := RelL.get (i := i) e3 (by simpa using e)
    exact ⟨v', by simpa using q1, q2⟩
theorem RelL.append : ∀ {ds es : List D} {vs ws : List V}, RelL K ω ds vs → RelL K ω es ws → RelL K ω (ds ++ es) (vs ++ ws)
  | [], es, vs, ws, x, y => by unfold RelL at x; subst x; exact y
  | d :: ds, es, vs, ws, x, y => by
    unfold RelL at x
    obtain ⟨v, us, rfl, e2, e3⟩ := x
    exact RelL.cons e2 (RelL.append e3 y)
theorem RelL.take : ∀ {ds : List D} {vs : List V} (n : Nat), RelL K ω ds vs → RelL K ω (ds.take n) (vs.take n)
  | _, _, 0, _ => by simpa using RelL.nil
  | [], vs, n + 1, x => by unfold RelL at x; subst x; simpa using RelL.nil
  | d :: ds, vs, n + 1, x => by
    unfold RelL at x
    obtain ⟨v, us, rfl, e2, e3⟩ := x
    exact RelL.cons e2 (RelL.take n e3)
theorem RelL.drop : ∀ {ds : List D} {vs : List V} (n : Nat), RelL K ω ds vs → RelL K ω (ds.drop n) (vs.drop n)
  | _, _, 0, x => by simpa using x
  | [], vs, n + 1, x => by unfold RelL at x; subst x; simpa using RelL.nil
  | d :: ds, vs, n + 1, x => by
    unfold RelL at x
    obtain ⟨v, us, rfl, e2, e3⟩ := x
    simpa using RelL.drop n e3
theorem RelL.set {d : D} {v : V} (r : RelD K ω d v) : ∀ {ds : List D} {vs : List V} (i : Nat), RelL K ω ds vs → RelL K ω (ds.set i d) (vs.set i v)
  | [], vs, i, x => by unfold RelL at x; subst x; simpa using RelL.nil
  | d' :: ds, vs, 0, x => by
    unfold RelL at x
    obtain ⟨v', us, rfl, e2, e3⟩ := x
    exact RelL.cons r e3
  | d' :: ds, vs, i + 1, x => by
    unfold RelL at x
    obtain ⟨v', us, rfl, e2, e3⟩ := x
    exact RelL.cons e2 (RelL.set r i e3)
theorem RelL.inv {vs : List V} (x : RelL K ω (d :: ds) vs) : ∃ v ws, vs = v :: ws ∧ RelD K ω d v ∧ RelL K ω ds ws := by unfold RelL at x; exact x
theorem RelL.inv0 {vs : List V} (x : RelL K ω [] vs) : vs = [] := by unfold RelL at x; exact x
theorem RelL.ints : ∀ {ns : List Int} {vs : List V}, RelL K ω (ns.map D.int) vs → vs = ns.map V.int
  | [], vs, x => x.inv0
  | n :: ns, vs, x => by
    obtain ⟨v, ws, rfl, e2, e3⟩ := x.inv
    unfold RelD at e2
    rw [e2, RelL.ints e3]; rfl
theorem RelL.of_ints : ∀ (ns : List Int), RelL K ω (ns.map D.int) (ns.map V.int)
  | [] => RelL.nil
  | n :: ns => RelL.cons (by unfold RelD; rfl) (RelL.of_ints ns)
theorem RelL.strs : ∀ {ns : List Str} {vs : List V}, RelL K ω (ns.map D.str) vs → vs = ns.map V.str
  | [], vs, x => x.inv0
  | n :: ns, vs, x => by
    obtain ⟨v, ws, rfl, e2, e3⟩ := x.inv
    unfold RelD at e2
    rw [e2, RelL.strs e3]; rfl
theorem RelL.of_strs : ∀ (ns : List Str), RelL K ω (ns.map D.str) (ns.map V.str)
  | [] => RelL.nil
  | n :: ns => RelL.cons (by unfold RelD; rfl) (RelL.of_strs ns)
theorem RelL.bls : ∀ {ns : List Bool} {vs : List V}, RelL K ω (ns.map D.bl) vs → vs = ns.map V.bl
  | [], vs, x => x.inv0
  | n :: ns, vs, x => by
    obtain ⟨v, ws, rfl, e2, e3⟩ := x.inv
    unfold RelD at e2
    rw [e2, RelL.bls e3]; rfl
/-- the tables stay where all but lists and dicts stay -/
theorem tabs_keep {K : PySem.W.Frag} {H H' : Hp} (t : TabsK K H) (k : ∀ b o, H b = some o → ¬ ((∃ xs, o = .lst xs) ∨ ∃ xs, o = .dK xs) → H' b = some o) : TabsK K H' := fun p hp => by
  obtain ⟨ps, h1, h2, h3⟩ := t p hp
  refine ⟨ps, k _ _ h1 (by rintro (⟨_, z⟩ | ⟨_, z⟩) <;> cases z), h2, fun pos cv hc => ?_⟩
  obtain ⟨c, e1, e2⟩ := h3 pos cv hc
  exact ⟨c, e1, k _ _ e2 (by unfold LamX.CodeO; rintro (⟨_, z⟩ | ⟨_, z⟩) <;> cases z)⟩
/-! ### new objects, changed cells -/
def Wo.up (ω : Wo) (p : Addr) (o : HO) : Wo := { ω with H := upd ω.H p o }
theorem Ext.up {o : HO} (hp : ω.H p = none) : Ext ω (ω.up p o) where
  n := Nat.le_refl _
  b := fun _ _ => rfl
  a := fun _ x => x
  aN := fun _ x => .inl x
  nw := fun i h1 h2 => absurd h2 (Nat.not_lt.mpr h1)
  dom := fun q x => by
    by_cases e : q = p
    · rw [e]; exact hp
    · have x' : upd ω.H p o q = none := x
      rw [upd_ne e] at x'; exact x'
  keep := fun q u x _ _ => by
    show upd ω.H p o q = some u
    rw [upd_ne (ne_of_none x hp)]; exact x
theorem Rel.ext1 (r : Rel K ω h) (e : Ext ω ω') (hn : ω'.n = ω.n) (hA : ∀ q, ω'.A q → ω'.H q ≠ none) (hc : ∀ i, i < ω.n → ω'.H (ω.β i) = ω.H (ω.β i)) (ht : TabsK K ω'.H) : Rel K ω' h where
  tabs := ht
  n := hn.trans r.n
  inj := fun i j hi hj q => by
    rw [hn] at hi hj
    rw [e.b i hi, e.b j hj] at q
    exact r.inj i j hi hj q
  inA := fun i hi => by rw [hn] at hi; rw [e.b i hi]; exact e.a _ (r.inA i hi)
  sub := hA
  cel := fun i c hi => by
    have hl : i < ω.n := by rw [r.n]; exact (List.getElem?_eq_some_iff.mp hi).1
    rw [e.b i hl]
    have x := r.cel i c hi
    cases c with
    | lst xs =>
      obtain ⟨vs, e1, e2⟩ := x
      exact ⟨vs, (hc i hl).trans e1, monoL r e _ _ e2⟩
    | dct ks xs =>
      obtain ⟨vs, e1, e3, e2⟩ := x
      exact ⟨vs, (hc i hl).trans e1, e3, monoL r e _ _ e2⟩
theorem Rel.ext0 (r : Rel K ω h) (e : Ext ω ω') (hn : ω'.n = ω.n) (hA : ∀ q, ω'.A q → ω.A q) (hc : ∀ i, i < ω.n → ω'.H (ω.β i) = ω.H (ω.β i)) (ht : TabsK K ω'.H) : Rel K ω' h :=
  r.ext1 e hn (fun q hq z => r.sub q (hA q hq) (e.dom q z)) hc ht
theorem Rel.up {o : HO} (r : Rel K ω h) (hp : ω.H p = none) : Rel K (ω.up p o) h :=
  r.ext0 (Ext.up hp) rfl (fun _ x => x) (fun i hi => by
    obtain ⟨u, e, _⟩ := r.mut hi
    show upd ω.H p o _ = _
    rw [upd_ne (ne_of_none e hp)]) (tabs_keep r.tabs fun b u e _ => by
    show upd ω.H p o b = some u
    rw [upd_ne (ne_of_none e hp)]; exact e)
theorem Rel.free (r : Rel K ω h) (hp : ω.H p = none) : ¬ ω.A p := fun z => r.sub p z hp
/-- a new cell at p -/
def Wo.cell (ω : Wo) (p : Addr) (o : HO) : Wo := ⟨fun q => ω.A q ∨ q = p, fun i => if i = ω.n then p else ω.β i, ω.n + 1, upd ω.H p o⟩
theorem Ext.cell {o : HO} (hp : ω.H p = none) : Ext ω (ω.cell p o) where
  n := Nat.le_succ _
  b := fun i hi => if_neg (Nat.ne_of_lt hi)
  a := fun _ x => .inl x
  aN := fun q x => by
    rcases x with x | x
    · exact .inl x
    · rw [x]; exact .inr hp
  nw := fun i h1 h2 => by
    have h2' : i < ω.n + 1 := h2
    have e : i = ω.n := Nat.le_antisymm (Nat.le_of_lt_succ h2') h1
    show ω.H (if i = ω.n then p else ω.β i) = none
    rw [if_pos e]; exact hp
  dom := (Ext.up (o := o) hp).dom
  keep := (Ext.up (o := o) hp).keep
theorem Wo.cell_at {o : HO} : (ω.cell p o).β ω.n = p := if_pos rfl
theorem Rel.cell {o : HO} {c : C} (r : Rel K ω h) (hp : ω.H p = none) (hc : RelC K (ω.cell p o) p c) : Rel K (ω.cell p o) (h ++ [c]) where
  tabs := tabs_keep r.tabs fun b u e _ => by
    show upd ω.H p o b = some u
    rw [upd_ne (ne_of_none e hp)]; exact e
  n := by rw [List.length_append, ← r.n]; rfl
  inj := fun i j hi hj q => by
    have hi' : i < ω.n + 1 := hi
    have hj' : j < ω.n + 1 := hj
    have q' : (if i = ω.n then p else ω.β i) = (if j = ω.n then p else ω.β j) := q
    by_cases e1 : i = ω.n
    · by_cases e2 : j = ω.n
      · omega
      · rw [if_pos e1, if_neg e2] at q'
        obtain ⟨u, z, _⟩ := r.mut (show j < ω.n by omega)
        rw [← q', hp] at z; cases z
    · by_cases e2 : j = ω.n
      · rw [if_neg e1, if_pos e2] at q'
        obtain ⟨u, z, _⟩ := r.mut (show i < ω.n by omega)
        rw [q', hp] at z; cases z
      · rw [if_neg e1, if_neg e2] at q'
        exact r.inj i j (by omega) (by omega) q'
  inA := fun i hi => by
    have hi' : i < ω.n + 1 := hi
    by_cases e1 : i = ω.n
    · exact .inr (if_pos e1)
    · refine .inl ?_
      show ω.A (if i = ω.n then p else ω.β i)
      rw [if_neg e1]; exact r.inA i (by omega)
  sub := fun q x z => by
    have z' : upd ω.H p o q = none := z
    by_cases e : q = p
    · rw [e, upd_same] at z'; cases z'
    · rw [upd_ne e] at z'
      rcases x with x | x
      · exact r.sub q x z'
      · exact e x
  cel := fun i c' hi => by
    by_cases e1 : i = ω.n
    · have e2 : i = h.length := e1.trans r.n
      rw [List.getElem?_append_right (by omega), e2, Nat.sub_self] at hi
      have e3 : c = c' := by simpa using hi
      subst e3
      have e4 : (ω.cell p o).β i = p := if_pos e1
      rw [e4]; exact hc
    · have hlt : i < ω.n := by
        have := (List.getElem?_eq_some_iff.mp hi).1
        rw [List.length_append, ← r.n] at this
        simp at this; omega
      rw [List.getElem?_append_left (by rw [← r.n]; exact hlt)] at hi
      have e4 : (ω.cell p o).β i = ω.β i := if_neg e1
      rw [e4]
      obtain ⟨u, z, _⟩ := r.mut hlt
      have ne : ω.β i ≠ p := ne_of_none z hp
      have x := r.cel i c' hi
      have e := Ext.cell (ω := ω) (p := p) (o := o) hp
      cases c' with
      | lst xs =>
        obtain ⟨vs, e1, e2⟩ := x
        exact ⟨vs, (upd_ne ne).trans e1, monoL r e _ _ e2⟩
      | dct ks xs =>
        obtain ⟨vs, e1, e3, e2⟩ := x
        exact ⟨vs, (upd_ne ne).trans e1, e3, monoL r e _ _ e2⟩
/-- cell i is changed -/
theorem Ext.put {o u : HO} {i : Nat} (hi : i < ω.n) (hu : ω.H (ω.β i) = some u) : Ext ω (ω.up (ω.β i) o) where
  n := Nat.le_refl _
  b := fun _ _ => rfl
  a := fun _ x => x
  aN := fun _ x => .inl x
  nw := fun i h1 h2 => absurd h2 (Nat.not_lt.mpr h1)
  dom := fun q x => by
    have x' : upd ω.H (ω.β i) o q = none := x
    by_cases e : q = ω.β i
    · rw [e, upd_same] at x'; cases x'
    · rw [upd_ne e] at x'; exact x'
  keep := fun q w x _ hb => by
    show upd ω.H (ω.β i) o q = some w
    rw [upd_ne (fun e => hb i hi e.symm)]; exact x
theorem Rel.put {o : HO} {c : C} {i : Nat} (r : Rel K ω h) (hi : i < ω.n) (hc : RelC K (ω.up (ω.β i) o) (ω.β i) c) : Rel K (ω.up (ω.β i) o) (h.set i c) := by
  obtain ⟨u, hu, _⟩ := r.mut hi
  have e := Ext.put (o := o) hi hu
  refine ⟨by rw [List.length_set]; exact r.n, r.inj, r.inA, fun q x z => r.sub q x (e.dom q z), fun j c' hj => ?_, tabs_keep r.tabs fun b w e1 nm => by
    show upd ω.H (ω.β i) o b = some w
    rw [upd_ne (fun z => nm (by
      obtain ⟨w', e2, m⟩ := r.mut hi
      rw [z, e2] at e1; cases e1
      exact m))]; exact e1⟩
  by_cases ej : j = i
  · subst ej
    rw [List.getElem?_set_self (by rw [← r.n]; exact hi)] at hj
    have e3 : c = c' := by simpa using hj
    subst e3
    exact hc
  · rw [List.getElem?_set_ne (Ne.symm ej)] at hj
    have hl : j < ω.n := by rw [r.n]; exact (List.getElem?_eq_some_iff.mp hj).1
    have ne : ω.β j ≠ ω.β i := fun q => ej (r.inj j i hl hi q)
    have x := r.cel j c' hj
    show RelC K (ω.up (ω.β i) o) (ω.β j) c'
    cases c' with
    | lst xs =>
      obtain ⟨vs, e1, e2⟩ := x
      exact ⟨vs, (upd_ne ne).trans e1, monoL r e _ _ e2⟩
    | dct ks xs =>
      obtain ⟨vs, e1, e3, e2⟩ := x
      exact ⟨vs, (upd_ne ne).trans e1, e3, monoL r e _ _ e2⟩
end
end Mp
/-! LayB: what an expression, a test, a statement means over data. -/
namespace Mp
open PySem PySem.Spec PyProof.Rows L2
abbrev SE := Sl → Hc → R D
abbrev SB := Sl → Hc → R Bool
abbrev SA := Sl → Hc → R (List D)
/-- an exception over data -/
def RelX (K : PySem.W.Frag) (mg : Str → Option Value) (ω : Wo) (x : Str) (fs : List Str) (ds : List D) (cls : Value) (dx : Option Addr) : Prop :=
  ∃ (C d : Addr) (vs : List V), cls = .ref C ∧ dx = some d ∧ mg x = some (.ref C) ∧ ω.H d = some (.xd (fs.zip vs)) ∧ fs.length = vs.length ∧ RelL K ω ds vs
def Post {α β : Type} (K : PySem.W.Frag) (mg : Str → Option Value) (W : WX) (σ : L2.St) (ω : Wo) (rel : Wo → α → β → Prop) (Q : β → Hp → Prop) : R α → Prop
  | .ok a h => ∀ b ω', Ext ω ω' → Rel K ω' h → rel ω' a b → Q b ω'.H
  | .ex x fs ds h => ∀ cls dx ω', Ext ω ω' → Rel K ω' h → RelX K mg ω' x fs ds cls dx → W cls dx σ ω'.H
  | .bad => False
section
variable {α β α' β' : Type} {K : PySem.W.Frag} {mg : Str → Option Value} {W : WX} {σ : L2.St} {ω ω' : Wo} {rel : Wo → α → β → Prop} {Q : β → Hp → Prop} {rel' : Wo → α' → β' → Prop} {Q' : β' → Hp → Prop}
theorem Post.bd {r : R α} {f : α → Hc → R α'} (hp : Post K mg W σ ω rel' Q' (r.bd f))
    (hq : ∀ a h b ω', Ext ω ω' → Rel K ω' h → rel ω' a b → Post K mg W σ ω' rel' Q' (f a h) → Q b ω'.H) : Post K mg W σ ω rel Q r := by
  cases r with
  | ok a h =>
    intro b ω' e r1 ra
    refine hq a h b ω' e r1 ra ?_
    have hp' : Post K mg W σ ω rel' Q' (f a h) := hp
    cases q : f a h with
    | ok a2 h2 => rw [q] at hp'; exact fun b2 ω2 e2 => hp' b2 ω2 (e.trans e2)
    | ex x fs ds h2 => rw [q] at hp'; exact fun c d ω2 e2 => hp' c d ω2 (e.trans e2)
    | bad => rw [q] at hp'; exact hp'
  | ex x fs ds h => exact hp
  | bad => exact hp
theorem Post.mono {r : R α} (hp : Post K mg W σ ω rel Q r) (e : Ext ω ω') : Post K mg W σ ω' rel Q r := by
  cases r with
  | ok a h => exact fun b2 ω2 e2 => hp b2 ω2 (e.trans e2)
  | ex x fs ds h2 => exact fun c d ω2 e2 => hp c d ω2 (e.trans e2)
  | bad => exact hp
end
/-- a reading by data -/
def tOf {α β : Type} (K : PySem.W.Frag) (mg : Str → Option Value) (W : WX) (rel : Wo → α → β → Prop) (m : Sl → Hc → R α) : L2.St → Hp → (β → Hp → Prop) → Prop := fun σ H Q =>
  ∃ ω h ds, ω.H = H ∧ Rel K ω h ∧ RelS K ω ds σ ∧ Post K mg W σ ω rel Q (m ds h)
def relB : Wo → Bool → Bool → Prop := fun _ a b => a = b
abbrev tE (X : Cx) (W : WX) (m : SE) : TE := tOf X.K X.mg W (RelD X.K) m
abbrev tT (X : Cx) (W : WX) (m : SB) : TT := tOf X.K X.mg W relB m
abbrev tA (X : Cx) (W : WX) (m : SA) : TA := tOf X.K X.mg W (RelL X.K) m
abbrev DE (X : Cx) (W : WX) (e : Expr) (m : SE) : Prop := PE X e (tE X W m)
abbrev DT (X : Cx) (W : WX) (e : Expr) (m : SB) : Prop := PT X e (tT X W m)
abbrev DW (X : Cx) (W : WX) (e : Expr) (m : SB) : Prop := PW X e (tT X W m)
abbrev DA (X : Cx) (W : WX) (es : List Expr) (m : SA) : Prop := PA X es (tA X W m)
section
variable {X : Cx} {W : WX} {e a b : Expr} {es : List Expr} {pos : Pos} {ma mb m : SE} {t u : SB} {as : SA} {t1 : TE}
theorem de_of (h : PE X e t1) (hw : ∀ σ H Q, tE X W m σ H Q → t1 σ H Q) : DE X W e m := ⟨fun pins s σ H Q I q => h.run pins s σ H Q I (hw σ H Q q)⟩
theorem dt_of {t1 : TT} (h : PT X e t1) (hw : ∀ σ H Q, tT X W t σ H Q → t1 σ H Q) : DT X W e t := ⟨fun pins s σ H Q I q => h.run pins s σ H Q I (hw σ H Q q)⟩
theorem dw_of {t1 : TT} (h : PW X e t1) (hw : ∀ σ H Q, tT X W t σ H Q → t1 σ H Q) : DW X W e t := ⟨fun wh pins s σ H Q I q => h.run wh pins s σ H Q I (hw σ H Q q)⟩
theorem da_of {t1 : TA} (h : PA X es t1) (hw : ∀ σ H Q, tA X W as σ H Q → t1 σ H Q) : DA X W es as := ⟨fun pos pins s σ H Q I q => h.run pos pins s σ H Q I (hw σ H Q q)⟩
/-! ### names, constants -/
def eVar (i : Nat) : SE := fun ds h => match ds[i]? with
  | some (some d) => .ok d h
  | _ => .bad
def eC (d : D) : SE := fun _ h => .ok d h
theorem de_var {i : Nat} (h : PE X e (tVar i)) : DE X W e (eVar i) := de_of h fun σ H Q ⟨ω, h, ds, e1, r, s, p⟩ => by
  subst e1
  unfold eVar at p
  cases q : ds[i]? with
  | none => rw [q] at p; exact False.elim p
  | some o =>
    cases o with
    | none => rw [q] at p; exact False.elim p
    | some d =>
      rw [q] at p
      obtain ⟨v, e2, rd⟩ := s.2 i d q
      exact ⟨v, e2, p v ω (Ext.refl ω) r rd⟩
/-- a constant: it stands for d in every world -/
theorem de_c {v : V} {d : D} (h : PE X e (tC v)) (hd : ∀ ω, RelD X.K ω d v) : DE X W e (eC d) := de_of h fun σ H Q ⟨ω, h, ds, e1, r, s, p⟩ => by
  subst e1
  exact p v ω (Ext.refl ω) r (hd ω)
theorem de_int {i : Int} {j : Nat} : DE X W (.Constant (.int i) j pos) (eC (.int i)) := de_c pe_int fun _ => by unfold RelD; rfl
theorem de_bl {b : Bool} {j : Nat} : DE X W (.Constant (.bool b) j pos) (eC (.bl b)) := de_c pe_bl fun _ => by unfold RelD; rfl
theorem de_non {j : Nat} : DE X W (.Constant .none j pos) (eC .non) := de_c pe_non fun _ => by unfold RelD; rfl
theorem de_str {x : Str} {j : Nat} : DE X W (.Constant (.str x) j pos) (eC (.str x)) := de_c pe_str fun _ => by unfold RelD; rfl
/-! ### operators by values -/
def OpD (X : Cx) (r : R2) (f : D → D → Hc → R D) : Prop := ∀ (W : WX) (σ : L2.St) (ω : Wo) (h : Hc) (x y : D) (v u : V) (Q : VK), Rel X.K ω h → RelD X.K ω x v → RelD X.K ω y u → Post X.K X.mg W σ ω (RelD X.K) Q (f x y h) → r v u ω.H Q
def eOp (f : D → D → Hc → R D) (ma mb : SE) : SE := fun ds h => (ma ds h).bd fun x h1 => (mb ds h1).bd fun y h2 => f x y h2
theorem opw {r : R2} {f : D → D → Hc → R D} (ho : OpD X r f) : ∀ σ H Q, tE X W (eOp f ma mb) σ H Q → tOp r (tE X W ma) (tE X W mb) σ H Q := fun σ H Q ⟨ω, h, ds, e1, r, s, p⟩ => by
  subst e1
  exact ⟨ω, h, ds, rfl, r, s, p.bd fun x h1 v ω1 e1 r1 d1 p1 => ⟨ω1, h1, ds, rfl, r1, monoS r e1 s, p1.bd fun y h2 u ω2 e2 r2 d2 p2 => ho W σ ω2 h2 x y v u Q r2 (mono r1 e2 _ _ d1) d2 p2⟩⟩
theorem de_op {op : Operator} {r : R2} {f : D → D → Hc → R D} (ho : OpR X (binaryOp op) r) (hd : OpD X r f) (ha : DE X W a ma) (hb : DE X W b mb) : DE X W (.BinOp a op b pos) (eOp f ma mb) := de_of (pe_op ho ha hb) (opw hd)
theorem de_cmp {op : CmpOp} {r : R2} {f : D → D → Hc → R D} (ho : OpR X (compareOp op) r) (hd : OpD X r f) (ha : DE X W a ma) (hb : DE X W b mb) (hm : behindInMarks op b = false) : DE X W (.Compare a [op] [b] pos) (eOp f ma mb) := de_of (pe_cmpR ho ha hb hm) (opw hd)
theorem de_ix {r : R2} {f : D → D → Hc → R D} (hr : IxR X r) (hd : OpD X r f) (ha : DE X W a ma) (hb : DE X W b mb) (hs : PlainIx b) : DE X W (.Subscript a b pos) (eOp f ma mb) := de_of (pe_ix hr ha hb hs) (opw hd)
def UnD (X : Cx) (r : V → Hp → VK → Prop) (f : D → Hc → R D) : Prop := ∀ (W : WX) (σ : L2.St) (ω : Wo) (h : Hc) (x : D) (v : V) (Q : VK), Rel X.K ω h → RelD X.K ω x v → Post X.K X.mg W σ ω (RelD X.K) Q (f x h) → r v ω.H Q
def eUn (f : D → Hc → R D) (ma : SE) : SE := fun ds h => (ma ds h).bd fun x h1 => f x h1
/-! ### and, or, not, if as values -/
def isBl : D → Option Bool
  | .bl b => some b
  | _ => none
theorem isBl_rel {K : PySem.W.Frag} {ω : Wo} {d : D} {v : V} {b : Bool} (h : isBl d = some b) (r : RelD K ω d v) : v = .bl b := by
  cases d <;> simp [isBl] at h
  subst h
  unfold RelD at r; exact r
def eAnd (ma mb : SE) : SE := fun ds h => (ma ds h).bd fun x h1 => match isBl x with
  | some true => mb ds h1
  | some false => .ok (.bl false) h1
  | none => .bad
def eOr (ma mb : SE) : SE := fun ds h => (ma ds h).bd fun x h1 => match isBl x with
  | some true => .ok (.bl true) h1
  | some false => mb ds h1
  | none => .bad
def eNot (ma : SE) : SE := fun ds h => (ma ds h).bd fun x h1 => match isBl x with
  | some b => .ok (.bl (!b)) h1
  | none => .bad
theorem de_one {op : BoolOp} (ha : DE X W a ma) : DE X W (.BoolOp op [a] pos) ma := pe_one ha
theorem de_and (ha : DE X W a ma) (hb : DE X W (.BoolOp .And (b :: es) pos) mb) : DE X W (.BoolOp .And (a :: b :: es) pos) (eAnd ma mb) := de_of (pe_and ha hb) fun σ H Q ⟨ω, h, ds, e1, r, s, p⟩ => by
  subst e1
  refine ⟨ω, h, ds, rfl, r, s, p.bd fun x h1 v ω1 e1 r1 d1 p1 => ?_⟩
  cases q : isBl x with
  | none => rw [q] at p1; exact False.elim p1
  | some b =>
    rw [q] at p1
    refine ⟨b, isBl_rel q d1, ?_⟩
    cases b with
    | true => rw [if_pos rfl]; exact ⟨ω1, h1, ds, rfl, r1, monoS r e1 s, p1⟩
    | false => rw [if_neg Bool.false_ne_true]; exact p1 _ ω1 (Ext.refl _) r1 (by unfold RelD; rfl)
theorem de_not (ha : DE X W a ma) : DE X W (.UnaryOp .Not a pos) (eNot ma) := de_of (pe_not ha) fun σ H Q ⟨ω, h, ds, e1, r, s, p⟩ => by
  subst e1
  refine ⟨ω, h, ds, rfl, r, s, p.bd fun x h1 v ω1 e1 r1 d1 p1 => ?_⟩
  cases q : isBl x with
  | none => rw [q] at p1; exact False.elim p1
  | some b => rw [q] at p1; exact ⟨b, isBl_rel q d1, p1 _ ω1 (Ext.refl _) r1 (by unfold RelD; rfl)⟩
def eIf (t : SB) (ma mb : SE) : SE := fun ds h => (t ds h).bd fun b h1 => if b = true then ma ds h1 else mb ds h1
theorem de_if {c : Expr} (hc : DT X W c t) (ha : DE X W a ma) (hb : DE X W b mb) : DE X W (.IfExp c a b pos) (eIf t ma mb) := de_of (pe_ifExp hc ha hb) fun σ H Q ⟨ω, h, ds, e1, r, s, p⟩ => by
  subst e1
  refine ⟨ω, h, ds, rfl, r, s, p.bd fun x h1 v ω1 e1 r1 d1 p1 => ?_⟩
  have d1' : x = v := d1
  subst d1'
  cases x with
  | true => exact ⟨ω1, h1, ds, rfl, r1, monoS r e1 s, p1⟩
  | false => exact ⟨ω1, h1, ds, rfl, r1, monoS r e1 s, p1⟩
/-! ### tests -/
def bEx (m : SE) : SB := fun ds h => (m ds h).bd fun x h1 => match isBl x with
  | some b => .ok b h1
  | none => .bad
theorem tBw : ∀ σ H Q, tT X W (bEx m) σ H Q → tB (tE X W m) σ H Q := fun σ H Q ⟨ω, h, ds, e1, r, s, p⟩ => by
  subst e1
  refine ⟨ω, h, ds, rfl, r, s, p.bd fun x h1 v ω1 e1 r1 d1 p1 => ?_⟩
  cases q : isBl x with
  | none => rw [q] at p1; exact False.elim p1
  | some b => rw [q] at p1; exact ⟨b, isBl_rel q d1, p1 b ω1 (Ext.refl _) r1 rfl⟩
theorem dt_cmp {op : CmpOp} {r : R2} {f : D → D → Hc → R D} (ho : OpR X (compareOp op) r) (hd : OpD X r f) (ha : DE X W a ma) (hb : DE X W b mb) (hm : behindInMarks op b = false) : DT X W (.Compare a [op] [b] pos) (bEx (eOp f ma mb)) :=
  dt_of (pt_cmpR ho ha hb hm) fun σ H Q h => by
    obtain ⟨ω, h, ds, e1, r, s, p⟩ := h
    subst e1
    have p' : Post X.K X.mg W σ ω relB Q ((ma ds h).bd fun x h1 => (mb ds h1).bd fun y h2 => (f x y h2).bd fun x h1 => match isBl x with
      | some b => .ok b h1
      | none => .bad) := by
      unfold bEx eOp at p
      cases q : ma ds h with
      | ok x h1 =>
        rw [q] at p
        simp only [R.bd_ok] at p ⊢
        cases q2 : mb ds h1 with
        | ok y h2 => rw [q2] at p; exact p
        | ex _ _ _ _ => rw [q2] at p; exact p
        | bad => rw [q2] at p; exact p
      | ex _ _ _ _ => rw [q] at p; exact p
      | bad => rw [q] at p; exact p
    refine ⟨ω, h, ds, rfl, r, s, p'.bd fun x h1 v ω1 e1 r1 d1 p1 => ⟨ω1, h1, ds, rfl, r1, monoS r e1 s, p1.bd fun y h2 u ω2 e2 r2 d2 p2 => hd W σ ω2 h2 x y v u _ r2 (mono r1 e2 _ _ d1) d2 ?_⟩⟩
    refine p2.bd fun z h3 w ω3 e3 r3 d3 p3 => ?_
    cases q : isBl z with
    | none => rw [q] at p3; exact False.elim p3
    | some b => rw [q] at p3; exact ⟨b, isBl_rel q d3, p3 b ω3 (Ext.refl _) r3 rfl⟩
def bAnd (t u : SB) : SB := fun ds h => (t ds h).bd fun b h1 => if b = true then u ds h1 else .ok false h1
def bOr (t u : SB) : SB := fun ds h => (t ds h).bd fun b h1 => if b = true then .ok true h1 else u ds h1
def bNot (t : SB) : SB := fun ds h => (t ds h).bd fun b h1 => .ok (!b) h1
theorem dw_and1 (ha : DT X W a t) : DW X W (.BoolOp .And [a] pos) t := pw_and1 ha
theorem dw_or1 (ha : DT X W a t) : DW X W (.BoolOp .Or [a] pos) t := pw_or1 ha
theorem dw_and (ha : DT X W a t) (hb : DW X W (.BoolOp .And (b :: es) pos) u) : DW X W (.BoolOp .And (a :: b :: es) pos) (bAnd t u) := dw_of (pw_and ha hb) fun σ H Q ⟨ω, h, ds, e1, r, s, p⟩ => by
  subst e1
  refine ⟨ω, h, ds, rfl, r, s, p.bd fun x h1 v ω1 e1 r1 d1 p1 => ?_⟩
  have d1' : x = v := d1
  subst d1'
  cases x with
  | true => exact ⟨ω1, h1, ds, rfl, r1, monoS r e1 s, p1⟩
  | false => exact p1 _ ω1 (Ext.refl _) r1 rfl
theorem dw_or (ha : DT X W a t) (hb : DW X W (.BoolOp .Or (b :: es) pos) u) : DW X W (.BoolOp .Or (a :: b :: es) pos) (bOr t u) := dw_of (pw_or ha hb) fun σ H Q ⟨ω, h, ds, e1, r, s, p⟩ => by
  subst e1
  refine ⟨ω, h, ds, rfl, r, s, p.bd fun x h1 v ω1 e1 r1 d1 p1 => ?_⟩
  have d1' : x = v := d1
  subst d1'
  cases x with
  | true => exact p1 _ ω1 (Ext.refl _) r1 rfl
  | false => exact ⟨ω1, h1, ds, rfl, r1, monoS r e1 s, p1⟩
theorem dt_not (ha : DT X W a t) : DT X W (.UnaryOp .Not a pos) (bNot t) := dt_of (pt_not ha) fun σ H Q ⟨ω, h, ds, e1, r, s, p⟩ => by
  subst e1
  refine ⟨ω, h, ds, rfl, r, s, p.bd fun x h1 v ω1 e1 r1 d1 p1 => ?_⟩
  have d1' : x = v := d1
  subst d1'
  exact p1 _ ω1 (Ext.refl _) r1 rfl
/-! ### arguments, displays -/
def aNil : SA := fun _ h => .ok [] h
def aCons (m : SE) (as : SA) : SA := fun ds h => (m ds h).bd fun x h1 => (as ds h1).bd fun xs h2 => .ok (x :: xs) h2
theorem da_nil : DA X W [] aNil := da_of pa_nil fun σ H Q ⟨ω, h, ds, e1, r, s, p⟩ => by
  subst e1
  exact p _ ω (Ext.refl _) r RelL.nil
theorem da_cons (ha : DE X W e m) (hr : DA X W es as) (hs : starEach (e :: es) X.env = (false, eval e X.env) :: starEach es X.env := by rfl) : DA X W (e :: es) (aCons m as) := da_of (pa_cons ha hr hs) fun σ H Q ⟨ω, h, ds, e1, r, s, p⟩ => by
  subst e1
  exact ⟨ω, h, ds, rfl, r, s, p.bd fun x h1 v ω1 e1 r1 d1 p1 => ⟨ω1, h1, ds, rfl, r1, monoS r e1 s, p1.bd fun xs h2 vs ω2 e2 r2 d2 p2 => p2 _ ω2 (Ext.refl _) r2 (RelL.cons (mono r1 e2 _ _ d1) d2)⟩⟩
def lim : Nat := 1000000
theorem lim_le {n : Nat} (h : n ≤ lim) : n ≤ sizeLine := Nat.le_trans h (by rw [sizeLine_eq]; decide)
theorem lim_lt {n : Nat} (h : n < lim) : n < sizeLine := Nat.lt_of_lt_of_le h (by rw [sizeLine_eq]; decide)
def eTup (as : SA) : SE := fun ds h => (as ds h).bd fun xs h1 => if xs.length ≤ lim then .ok (.tup xs) h1 else .bad
/-- a list display whose list is never changed -/
def eLst (as : SA) : SE := fun ds h => (as ds h).bd fun xs h1 => if xs.length ≤ lim then .ok (.lst xs) h1 else .bad
/-- a list display: a new cell -/
def eCell (as : SA) : SE := fun ds h => (as ds h).bd fun xs h1 => if xs.length ≤ lim then .ok (.ref h1.length) (h1 ++ [.lst xs]) else .bad
theorem de_tup {x1} (ha : DA X W es as) : DE X W (.Tuple es x1 pos) (eTup as) := de_of (pe_tup ha) fun σ H Q ⟨ω, h, ds, e1, r, s, p⟩ => by
  subst e1
  refine ⟨ω, h, ds, rfl, r, s, p.bd fun xs h1 vs ω1 e1 r1 d1 p1 => ?_⟩
  by_cases hl : xs.length ≤ lim
  · rw [if_pos hl] at p1
    refine ⟨by rw [← d1.len]; exact lim_le hl, fun q hq => p1 _ (ω1.up q (.tup vs)) (Ext.up hq) (r1.up hq) ?_⟩
    unfold RelD
    exact ⟨q, vs, rfl, .inl (.inl upd_same), monoL r1 (Ext.up hq) _ _ d1⟩
  · rw [if_neg hl] at p1; exact False.elim p1
theorem fz_new {K : PySem.W.Frag} {ω : Wo} {h : Hc} {q : Addr} {xs : List D} {vs : List V} (r : Rel K ω h) (hq : ω.H q = none) (d : RelL K ω xs vs) : RelD K (ω.up q (.lst vs)) (.lst xs) (.ref q) := by
  unfold RelD
  exact ⟨q, vs, rfl, ⟨upd_same, r.free hq⟩, monoL r (Ext.up hq) _ _ d⟩
theorem cell_new {K : PySem.W.Frag} {ω : Wo} {h : Hc} {q : Addr} {xs : List D} {vs : List V} (r : Rel K ω h) (hq : ω.H q = none) (d : RelL K ω xs vs) :
    Rel K (ω.cell q (.lst vs)) (h ++ [.lst xs]) ∧ RelD K (ω.cell q (.lst vs)) (.ref h.length) (.ref q) := by
  refine ⟨r.cell hq ⟨vs, upd_same, monoL r (Ext.cell hq) _ _ d⟩, ?_⟩
  unfold RelD
  rw [← r.n]
  exact ⟨Nat.lt_succ_self _, by rw [Wo.cell_at]⟩
theorem de_lst (ha : DA X W es as) : DE X W (.List es pos) (eLst as) := de_of (pe_lst ha) fun σ H Q ⟨ω, h, ds, e1, r, s, p⟩ => by
  subst e1
  refine ⟨ω, h, ds, rfl, r, s, p.bd fun xs h1 vs ω1 e1 r1 d1 p1 => ?_⟩
  by_cases hl : xs.length ≤ lim
  · rw [if_pos hl] at p1
    exact ⟨by rw [← d1.len]; exact lim_le hl, fun q hq => p1 _ (ω1.up q (.lst vs)) (Ext.up hq) (r1.up hq) (fz_new r1 hq d1)⟩
  · rw [if_neg hl] at p1; exact False.elim p1
theorem de_cell (ha : DA X W es as) : DE X W (.List es pos) (eCell as) := de_of (pe_lst ha) fun σ H Q ⟨ω, h, ds, e1, r, s, p⟩ => by
  subst e1
  refine ⟨ω, h, ds, rfl, r, s, p.bd fun xs h1 vs ω1 e1 r1 d1 p1 => ?_⟩
  by_cases hl : xs.length ≤ lim
  · rw [if_pos hl] at p1
    exact ⟨by rw [← d1.len]; exact lim_le hl, fun q hq => p1 _ (ω1.cell q (.lst vs)) (Ext.cell hq) (cell_new r1 hq d1).1 (cell_new r1 hq d1).2⟩
  · rw [if_neg hl] at p1; exact False.elim p1
end
/-! ### statements -/
inductive O where
  | nx (ds : Sl) (h : Hc) | rt (d : D) (h : Hc) | bk (ds : Sl) (h : Hc) | ct (ds : Sl) (h : Hc) | ex (x : Str) (fs : List Str) (vs : List D) (ds : Sl) (h : Hc) | bad
abbrev SS := Sl → Hc → O
def PostO (K : PySem.W.Frag) (mg : Str → Option Value) (W : WX) (ω : Wo) (E : Ends) : O → Prop
  | .nx ds h => ∀ σ' ω', Ext ω ω' → Rel K ω' h → RelS K ω' ds σ' → E.nx σ' ω'.H
  | .rt d h => ∀ v ω', Ext ω ω' → Rel K ω' h → RelD K ω' d v → E.rt v ω'.H
  | .bk ds h => ∀ σ' ω', Ext ω ω' → Rel K ω' h → RelS K ω' ds σ' → E.bk σ' ω'.H
  | .ct ds h => ∀ σ' ω', Ext ω ω' → Rel K ω' h → RelS K ω' ds σ' → E.ct σ' ω'.H
  | .ex x fs vs ds h => ∀ cls dx σ' ω', Ext ω ω' → Rel K ω' h → RelS K ω' ds σ' → RelX K mg ω' x fs vs cls dx → W cls dx σ' ω'.H
  | .bad => False
def tS (X : Cx) (W : WX) (m : SS) : TS := fun E σ H => ∃ ω h ds, ω.H = H ∧ Rel X.K ω h ∧ RelS X.K ω ds σ ∧ PostO X.K X.mg W ω E (m ds h)
abbrev DS (X : Cx) (W : WX) (st : Stmt) (m : SS) : Prop := PS X st (tS X W m)
abbrev DSs (X : Cx) (W : WX) (st : List Stmt) (m : SS) : Prop := PSs X st (tS X W m)
/-- behind an expression -/
def sBd {α : Type} (r : R α) (ds : Sl) (f : α → Hc → O) : O := match r with
  | .ok a h => f a h
  | .ex x fs vs h => .ex x fs vs ds h
  | .bad => .bad
@[simp] theorem sBd_ok {α : Type} (a : α) (h : Hc) (ds : Sl) (f : α → Hc → O) : sBd (.ok a h) ds f = f a h := Eq.trans rfl rfl
section
variable {X : Cx} {W : WX} {K : PySem.W.Frag} {mg : Str → Option Value} {E : Ends} {ω ω' : Wo} {σ : L2.St} {ds : Sl} {h : Hc}
theorem PostO.mono {o : O} (p : PostO K mg W ω E o) (e : Ext ω ω') : PostO K mg W ω' E o := by
  cases o with
  | nx ds h => exact fun s w x => p s w (e.trans x)
  | rt d h => exact fun s w x => p s w (e.trans x)
  | bk ds h => exact fun s w x => p s w (e.trans x)
  | ct ds h => exact fun s w x => p s w (e.trans x)
  | ex x fs vs ds h => exact fun c d s w x => p c d s w (e.trans x)
  | bad => exact p
theorem PostO.bd {α β : Type} {r : R α} {f : α → Hc → O} {rel : Wo → α → β → Prop} {Q : β → Hp → Prop} (hr : Rel K ω h) (hs : RelS K ω ds σ) (hp : PostO K mg W ω E (sBd r ds f))
    (hq : ∀ a h b ω', Ext ω ω' → Rel K ω' h → rel ω' a b → RelS K ω' ds σ → PostO K mg W ω' E (f a h) → Q b ω'.H) : Post K mg W σ ω rel Q r := by
  cases r with
  | ok a h1 => exact fun b ω' e r1 ra => hq a h1 b ω' e r1 ra (monoS hr e hs) (PostO.mono (o := f a h1) hp e)
  | ex x fs vs h1 => exact fun c d ω' e r1 rx => hp c d σ ω' e r1 (monoS hr e hs) rx
  | bad => exact hp
end
def sSeq (a b : SS) : SS := fun ds h => match a ds h with
  | .nx ds' h' => b ds' h'
  | o => o
def sNext : SS := fun ds h => .nx ds h
def sRet (m : SE) : SS := fun ds h => sBd (m ds h) ds fun d h1 => .rt d h1
def sDrop (m : SE) : SS := fun ds h => sBd (m ds h) ds fun _ h1 => .nx ds h1
def sIf (t : SB) (a b : SS) : SS := fun ds h => sBd (t ds h) ds fun c h1 => if c = true then a ds h1 else b ds h1
def sBad : SS := fun _ _ => .bad
section
variable {X : Cx} {W : WX} {st : Stmt} {rest sts : List Stmt} {a b m : SS} {me : SE} {t : SB} {e c : Expr} {pos : Pos}
theorem ds_of {t1 : TS} (h : PS X st t1) (hw : ∀ E σ H, tS X W m E σ H → t1 E σ H) : DS X W st m := ⟨fun pins s σ H E I q => h.run pins s σ H E I (hw E σ H q)⟩
theorem dss_of {t1 : TS} (h : PSs X sts t1) (hw : ∀ E σ H, tS X W m E σ H → t1 E σ H) : DSs X W sts m := ⟨fun pins s σ H E I q => h.run pins s σ H E I (hw E σ H q)⟩
theorem dss_nil : DSs X W [] sNext := dss_of pss_nil fun E σ H ⟨ω, h, ds, e1, r, s, p⟩ => by
  subst e1
  exact p σ ω (Ext.refl _) r s
theorem dss_one (h : DS X W st m) : DSs X W [st] m := pss_one h
theorem dss_cons (ha : DS X W st a) (hb : DSs X W rest b) : DSs X W (st :: rest) (sSeq a b) := dss_of (pss_cons ha hb) fun E σ H ⟨ω, h, ds, e1, r, s, p⟩ => by
  subst e1
  refine ⟨ω, h, ds, rfl, r, s, ?_⟩
  unfold sSeq at p
  cases q : a ds h with
  | nx ds' h' =>
    rw [q] at p
    exact fun σ' ω' e r' s' => ⟨ω', h', ds', rfl, r', s', PostO.mono (o := b ds' h') p e⟩
  | rt d h' => rw [q] at p; exact p
  | bk ds' h' => rw [q] at p; exact p
  | ct ds' h' => rw [q] at p; exact p
  | ex x fs vs ds' h' => rw [q] at p; exact p
  | bad => rw [q] at p; exact p
theorem ds_break : DS X W (.Break pos) (fun ds h => .bk ds h) := ds_of ps_break fun E σ H ⟨ω, h, ds, e1, r, s, p⟩ => by
  subst e1
  exact p σ ω (Ext.refl _) r s
theorem ds_ret (he : DE X W e me) : DS X W (.Return (some e) pos) (sRet me) := ds_of (ps_ret he) fun E σ H ⟨ω, h, ds, e1, r, s, p⟩ => by
  subst e1
  exact ⟨ω, h, ds, rfl, r, s, PostO.bd r s p fun d h1 v ω' e r1 rd s1 p1 => p1 v ω' (Ext.refl _) r1 rd⟩
theorem ds_drop (he : DE X W e me) (hs : swapsWith e none pos.line X.env = pure false := by rfl) : DS X W (.Expr e pos) (sDrop me) := ds_of (ps_expr he hs) fun E σ H ⟨ω, h, ds, e1, r, s, p⟩ => by
  subst e1
  exact ⟨ω, h, ds, rfl, r, s, PostO.bd r s p fun d h1 v ω' e r1 rd s1 p1 => p1 σ ω' (Ext.refl _) r1 s1⟩
theorem ds_if (hc : DT X W c t) (ha : DSs X W sts a) (hb : DSs X W rest b) : DS X W (.If c sts rest pos) (sIf t a b) := ds_of (ps_if hc ha hb) fun E σ H ⟨ω, h, ds, e1, r, s, p⟩ => by
  subst e1
  refine ⟨ω, h, ds, rfl, r, s, PostO.bd r s p fun x h1 v ω' e r1 rd s1 p1 => ?_⟩
  have rd' : x = v := rd
  subst rd'
  cases x with
  | true => exact ⟨ω', h1, ds, rfl, r1, s1, p1⟩
  | false => exact ⟨ω', h1, ds, rfl, r1, s1, p1⟩
/-! ### stores -/
theorem RelS.set {K : PySem.W.Frag} {ω : Wo} {ds : Sl} {σ : L2.St} {d : D} {v : V} (s : RelS K ω ds σ) (i : Nat) (r : RelD K ω d v) : RelS K ω (ds.set i (some d)) (σ.set i (some v)) := by
  refine ⟨by rw [List.length_set, List.length_set]; exact s.1, fun j d' hj => ?_⟩
  by_cases hi : i = j
  · subst hi
    have hl : i < ds.length := by
      have := (List.getElem?_eq_some_iff.mp hj).1
      rw [List.length_set] at this; exact this
    rw [List.getElem?_set_self hl] at hj
    have : d = d' := by simpa using hj
    subst this
    exact ⟨v, by rw [List.getElem?_set_self (by rw [← s.1]; exact hl)], r⟩
  · rw [List.getElem?_set_ne hi] at hj
    obtain ⟨v', e1, e2⟩ := s.2 j d' hj
    exact ⟨v', by rw [List.getElem?_set_ne hi]; exact e1, e2⟩
def sSet (i : Nat) (m : SE) : SS := fun ds h => sBd (m ds h) ds fun d h1 => .nx (ds.set i (some d)) h1
theorem ds_set {i : Nat} {tg : Expr} (h : PS X (.Assign [tg] e pos) (tAsg (tE X W me) (gName i))) : DS X W (.Assign [tg] e pos) (sSet i me) := ds_of h fun E σ H ⟨ω, h, ds, e1, r, s, p⟩ => by
  subst e1
  exact ⟨ω, h, ds, rfl, r, s, PostO.bd r s p fun d h1 v ω' e r1 rd s1 p1 => p1 _ ω' (Ext.refl _) r1 (s1.set i rd)⟩
end
end Mp
/-! LayC: loops, targets, comprehensions, calls, defs. -/
namespace Mp
open PySem PySem.Spec PyProof.Rows L2
/-! ### while -/
def wl (t : SB) (b : SS) : Nat → SS
  | 0 => sBad
  | n + 1 => fun ds h => sBd (t ds h) ds fun c h1 => if c = true then (match b ds h1 with
      | .nx ds' h' => wl t b n ds' h'
      | .ct ds' h' => wl t b n ds' h'
      | .bk ds' h' => .nx ds' h'
      | o => o) else .nx ds h1
section
variable {X : Cx} {W : WX} {sts : List Stmt} {b : SS} {t : SB} {c : Expr} {pos : Pos}
theorem ds_while (n : Nat) (hp : PassesOwn (model X.prog X.w) X.A X.env X.xe) (hc : DT X W c t) (hb : DSs X W sts b) : DS X W (.While c sts [] pos) (wl t b n) := ds_of (ps_while hp hc hb) fun E σ H ⟨ω, h, ds, e1, r, s, p⟩ => by
  subst e1
  refine ⟨fun m σ' H' => ∃ ω1 h1 ds1, ω1.H = H' ∧ Rel X.K ω1 h1 ∧ RelS X.K ω1 ds1 σ' ∧ PostO X.K X.mg W ω1 E (wl t b m ds1 h1), ⟨n, ω, h, ds, rfl, r, s, p⟩, ?_⟩
  rintro m σ' H' ⟨ω1, h1, ds1, rfl, r1, s1, p1⟩
  cases m with
  | zero => exact False.elim p1
  | succ m =>
    refine ⟨ω1, h1, ds1, rfl, r1, s1, PostO.bd r1 s1 p1 fun x h2 v ω2 e2 r2 d2 s2 p2 => ?_⟩
    have d2' : x = v := d2
    subst d2'
    cases x with
    | false => exact p2 σ' ω2 (Ext.refl _) r2 s2
    | true =>
      rw [if_pos rfl] at p2 ⊢
      refine ⟨fun σ3 H3 => ∃ ω3 h3 ds3, ω3.H = H3 ∧ Rel X.K ω3 h3 ∧ RelS X.K ω3 ds3 σ3 ∧ PostO X.K X.mg W ω3 E (wl t b m ds3 h3), fun σ3 H3 z => ⟨m, Nat.lt_succ_self m, z⟩, ω2, h2, ds1, rfl, r2, s2, ?_⟩
      cases q : b ds1 h2 with
      | nx ds' h' => rw [q] at p2; exact fun σ3 ω3 e3 r3 s3 => ⟨ω3, h', ds', rfl, r3, s3, PostO.mono (o := wl t b m ds' h') p2 e3⟩
      | ct ds' h' => rw [q] at p2; exact fun σ3 ω3 e3 r3 s3 => ⟨ω3, h', ds', rfl, r3, s3, PostO.mono (o := wl t b m ds' h') p2 e3⟩
      | bk ds' h' => rw [q] at p2; exact p2
      | rt d h' => rw [q] at p2; exact p2
      | ex x fs vs ds' h' => rw [q] at p2; exact p2
      | bad => rw [q] at p2; exact p2
end
/-! ### targets -/
inductive Pt where
  | n (i : Nat) | t (ps : List Pt)
mutual
def Pt.slots : Pt → List Nat
  | .n i => [i]
  | .t ps => Pt.slotsL ps
def Pt.slotsL : List Pt → List Nat
  | [] => []
  | p :: ps => p.slots ++ Pt.slotsL ps
end
/-- the items of a sequence -/
def seqD (h : Hc) : D → Option (List D)
  | .tup xs => some xs
  | .lst xs => some xs
  | .scr xs => some xs
  | .ref i => match h[i]? with
    | some (.lst xs) => some xs
    | _ => none
  | _ => none
mutual
def bindP (h : Hc) : Pt → D → Sl → Option Sl
  | .n i, d, ds => some (ds.set i (some d))
  | .t ps, d, ds => match seqD h d with
    | some xs => bindPs h ps xs ds
    | none => none
def bindPs (h : Hc) : List Pt → List D → Sl → Option Sl
  | [], [], ds => some ds
  | p :: ps, x :: xs, ds => match bindP h p x ds with
    | some ds1 => bindPs h ps xs ds1
    | none => none
  | _, _, _ => none
end
section
variable {K : PySem.W.Frag} {ω ω' : Wo} {h h' : Hc} {d : D} {v : V}
theorem seqD_rel {xs : List D} (r : Rel K ω h) (e : seqD h d = some xs) (x : RelD K ω d v) : ∃ p vs, v = .ref p ∧ (SqT K ω.H p vs ∨ SqL K ω.H p vs) ∧ RelL K ω xs vs := by
  cases d with
  | tup ys =>
    simp [seqD] at e; subst e
    unfold RelD at x
    obtain ⟨p, vs, e1, e2, e3⟩ := x
    exact ⟨p, vs, e1, .inl e2, e3⟩
  | lst ys =>
    simp [seqD] at e; subst e
    unfold RelD at x
    obtain ⟨p, vs, e1, e2, e3⟩ := x
    exact ⟨p, vs, e1, .inr (.inl (.inl e2.1)), e3⟩
  | scr ys =>
    simp [seqD] at e; subst e
    unfold RelD at x
    obtain ⟨p, vs, e1, e2, e3⟩ := x
    exact ⟨p, vs, e1, .inr e2.sq, e3⟩
  | ref i =>
    unfold RelD at x
    obtain ⟨hi, e1⟩ := x
    unfold seqD at e
    cases q : h[i]? with
    | none => simp [q] at e
    | some c =>
      cases c with
      | lst ys =>
        simp [q] at e; subst e
        obtain ⟨vs, e2, e3⟩ := r.cel i _ q
        exact ⟨_, vs, e1, .inr (.inl (.inl e2)), e3⟩
      | dct ks ys => simp [q] at e
  | _ => simp [seqD] at e
theorem wipe_set_out {σ : L2.St} {i : Nat} {x : Option V} : ∀ {ws : List Nat}, i ∉ ws → wipe (σ.set i x) ws = (wipe σ ws).set i x
  | [], _ => rfl
  | w :: ws, hn => by
    have h1 : i ≠ w := fun e => hn (by simp [e])
    have h2 : i ∉ ws := fun e => hn (by simp [e])
    unfold wipe
    rw [wipe_set_out h2, List.set_comm _ _ h1]
theorem wipe_set_in {σ : L2.St} {i : Nat} {x : Option V} : ∀ {ws : List Nat}, i ∈ ws → wipe (σ.set i x) ws = wipe σ ws
  | [], hi => by simp at hi
  | w :: ws, hi => by
    unfold wipe
    by_cases h2 : i ∈ ws
    · rw [wipe_set_in h2]
    · have e : i = w := by simpa [h2] using hi
      subst e
      rw [wipe_set_out h2, List.set_set]
end
/-- a target's reading -/
def tP (K : PySem.W.Frag) (p : Pt) : TG := fun v σ H Q => ∃ ω h ds d ds', ω.H = H ∧ Rel K ω h ∧ RelS K ω ds σ ∧ RelD K ω d v ∧ bindP h p d ds = some ds' ∧ ∀ σ', RelS K ω ds' σ' → (∀ ws, (∀ i ∈ p.slots, i ∈ ws) → wipe σ' ws = wipe σ ws) → Q σ' H
def tPs (K : PySem.W.Frag) (ps : List Pt) : TGs := fun vs σ H Q => ∃ ω h ds xs ds', ω.H = H ∧ Rel K ω h ∧ RelS K ω ds σ ∧ RelL K ω xs vs ∧ bindPs h ps xs ds = some ds' ∧ ∀ σ', RelS K ω ds' σ' → (∀ ws, (∀ i ∈ Pt.slotsL ps, i ∈ ws) → wipe σ' ws = wipe σ ws) → Q σ' H
abbrev DG (X : Cx) (tg : Expr) (p : Pt) : Prop := PG X tg (tP X.K p)
abbrev DGs (X : Cx) (tgs : List Expr) (ps : List Pt) : Prop := PGs X tgs (tPs X.K ps)
section
variable {X : Cx} {tg : Expr} {tgs es : List Expr} {p : Pt} {ps : List Pt} {pos : Pos} {k : Nat}
theorem dg_of {t1 : TG} (h : PG X tg t1) (hw : ∀ v σ H Q, tP X.K p v σ H Q → t1 v σ H Q) : DG X tg p := ⟨fun pins s σ H v u Q I r q => h.run pins s σ H v u Q I r (hw v σ H Q q)⟩
theorem dgs_of {t1 : TGs} (h : PGs X tgs t1) (hw : ∀ v σ H Q, tPs X.K ps v σ H Q → t1 v σ H Q) : DGs X tgs ps := ⟨fun pins s σ H v u Q I r q => h.run pins s σ H v u Q I r (hw v σ H Q q)⟩
theorem dg_n {i : Nat} (h : PG X tg (gName i)) : DG X tg (.n i) := dg_of h fun v σ H Q ⟨ω, h, ds, d, ds', e1, r, s, rd, eb, q⟩ => by
  subst e1
  simp [bindP] at eb; subst eb
  exact q _ (s.set i rd) fun ws hw => wipe_set_in (hw i (by simp [Pt.slots]))
theorem dgs_nil : DGs X [] [] := dgs_of pgs_nil fun v σ H Q ⟨ω, h, ds, xs, ds', e1, r, s, rd, eb, q⟩ => by
  subst e1
  cases xs with
  | nil =>
    simp [bindPs] at eb; subst eb
    exact ⟨rd.inv0, q σ s fun _ _ => rfl⟩
  | cons x xs => simp [bindPs] at eb
theorem dgs_cons {e : Expr} (h1 : DG X e p) (h2 : DGs X es ps) (h : PGs X (e :: es) (gCons (tP X.K p) (tPs X.K ps))) : DGs X (e :: es) (p :: ps) := dgs_of h fun v σ H Q ⟨ω, h, ds, xs, ds', e1, r, s, rd, eb, q⟩ => by
  subst e1
  cases xs with
  | nil => simp [bindPs] at eb
  | cons x xs =>
    obtain ⟨v1, ws, rfl, ra, rb⟩ := rd.inv
    unfold bindPs at eb
    cases q1 : bindP h p x ds with
    | none => simp [q1] at eb
    | some ds1 =>
      simp [q1] at eb
      exact ⟨v1, ws, rfl, ω, h, ds, x, ds1, rfl, r, s, ra, q1, fun σ' s' w' => ⟨ω, h, ds1, xs, ds', rfl, r, s', rb, eb, fun σ'' s'' w'' => q σ'' s'' fun ws' hw => (w'' ws' fun i hi => hw i (by simp [Pt.slotsL, hi])).trans (w' ws' fun i hi => hw i (by simp [Pt.slotsL, hi]))⟩⟩
theorem bindPs_len : ∀ {h : Hc} {ps : List Pt} {xs : List D} {ds ds' : Sl}, bindPs h ps xs ds = some ds' → xs.length = ps.length
  | _, [], [], _, _, _ => rfl
  | _, [], x :: xs, _, _, e => by simp [bindPs] at e
  | _, p :: ps, [], _, _, e => by simp [bindPs] at e
  | h, p :: ps, x :: xs, ds, ds', e => by
    unfold bindPs at e
    cases q1 : bindP h p x ds with
    | none => simp [q1] at e
    | some ds1 => simp [q1] at e; rw [List.length_cons, List.length_cons, bindPs_len e]
theorem pg_or {t1 t2 : TG} (h1 : PG X tg t1) (h2 : PG X tg t2) : PG X tg (fun v σ H Q => t1 v σ H Q ∨ t2 v σ H Q) :=
  ⟨fun pins s σ H v u Q I r q => q.elim (fun q => h1.run pins s σ H v u Q I r q) fun q => h2.run pins s σ H v u Q I r q⟩
theorem dg_t (hc : X.calm = true) (h : DGs X es ps)
    (h1 : PG X (.Tuple es k pos) (gTup X.K ps.length (tPs X.K ps))) (h2 : PG X (.Tuple es k pos) (gLst X.K ps.length (tPs X.K ps))) : DG X (.Tuple es k pos) (.t ps) :=
  dg_of (pg_or h1 h2) fun v σ H Q ⟨ω, h, ds, d, ds', e1, r, s, rd, eb, q⟩ => by
    subst e1
    unfold bindP at eb
    cases q1 : seqD h d with
    | none => simp [q1] at eb
    | some xs =>
      simp [q1] at eb
      obtain ⟨a, vs, rfl, sq, rl⟩ := seqD_rel r q1 rd
      have hl : vs.length = ps.length := by rw [← rl.len]; exact bindPs_len eb
      have q' : tPs X.K ps vs σ ω.H Q := ⟨ω, h, ds, xs, ds', rfl, r, s, rl, eb, fun σ' s' w' => q σ' s' fun ws hw => w' ws fun i hi => hw i (by simp [Pt.slots, hi])⟩
      rcases sq with sq | sq
      · exact .inl ⟨a, vs, rfl, sq, hl, q'⟩
      · exact .inr ⟨a, vs, rfl, sq, hl, q'⟩
end
/-- target = expression -/
def sAsg (p : Pt) (m : SE) : SS := fun ds h => sBd (m ds h) ds fun d h1 => match bindP h1 p d ds with
  | some ds' => .nx ds' h1
  | none => .bad
/-! ### what is walked -/
structure ItD where
  items : List D
  chk : Hc → Bool
abbrev SI := Sl → Hc → R ItD
def ItOk (K : PySem.W.Frag) (ω : Wo) (it : ItD) (J : It) : Prop := ∀ (i : Nat) (ω' : Wo) (h' : Hc), Ext ω ω' → Rel K ω' h' → it.chk h' = true →
  (∀ d, it.items[i]? = some d → J.go i ω'.H ∧ ∀ x H', J.yld i ω'.H x H' → ∃ ω2, ω2.H = H' ∧ Ext ω' ω2 ∧ Rel K ω2 h' ∧ RelD K ω2 d x) ∧ (it.items[i]? = none → J.stop i ω'.H)
abbrev tI (X : Cx) (W : WX) (m : SI) : TI := tOf X.K X.mg W (ItOk X.K) m
abbrev DI (X : Cx) (W : WX) (tg iter : Expr) (m : SI) : Prop := PI X tg iter (tI X W m)
section
variable {X : Cx} {W : WX} {tg iter e : Expr} {m : SE} {mi : SI}
theorem di_of {t1 : TI} (h : PI X tg iter t1) (hw : ∀ σ H R, tI X W mi σ H R → t1 σ H R) : DI X W tg iter mi := ⟨fun pins s σ H R I q => h.run pins s σ H R I (hw σ H R q)⟩
theorem pi_or {t1 t2 : TI} (h1 : PI X tg iter t1) (h2 : PI X tg iter t2) : PI X tg iter (fun σ H R => t1 σ H R ∨ t2 σ H R) :=
  ⟨fun pins s σ H R I q => q.elim (fun q => h1.run pins s σ H R I q) fun q => h2.run pins s σ H R I q⟩
end
def fl (chk : Hc → Bool) (p : Pt) (b : SS) : List D → SS
  | [] => fun ds h => if chk h = true then .nx ds h else .bad
  | d :: r => fun ds h => if chk h = true then (match bindP h p d ds with
      | some ds1 => (match b ds1 h with
        | .nx ds' h' => fl chk p b r ds' h'
        | .ct ds' h' => fl chk p b r ds' h'
        | .bk ds' h' => .nx ds' h'
        | o => o)
      | none => .bad) else .bad
def sFor (mi : SI) (p : Pt) (b : SS) : SS := fun ds h => sBd (mi ds h) ds fun it h1 => fl it.chk p b it.items ds h1
theorem PostO.if_ {K : PySem.W.Frag} {mg : Str → Option Value} {W : WX} {ω : Wo} {E : Ends} {c : Prop} [Decidable c] {o : O} (p : PostO K mg W ω E (if c then o else .bad)) : c ∧ PostO K mg W ω E o := by
  by_cases h : c
  · rw [if_pos h] at p; exact ⟨h, p⟩
  · rw [if_neg h] at p; exact False.elim p
theorem ds_for {X : Cx} {W : WX} {tg iter : Expr} {sts : List Stmt} {mi : SI} {p : Pt} {b : SS} {pos : Pos}
    (h : PS X (.For tg iter sts [] pos) (tFor (tI X W mi) (tP X.K p) (tS X W b))) : DS X W (.For tg iter sts [] pos) (sFor mi p b) := ds_of h fun E σ H ⟨ω, h, ds, e1, r, s, q⟩ => by
  subst e1
  refine ⟨ω, h, ds, rfl, r, s, PostO.bd r s q fun it h1 J ω1 ex1 r1 ok s1 p1 => ?_⟩
  refine ⟨fun i m σ' H' => ∃ ω2 h2 ds2, ω2.H = H' ∧ Ext ω1 ω2 ∧ Rel X.K ω2 h2 ∧ RelS X.K ω2 ds2 σ' ∧ m = (it.items.drop i).length ∧ PostO X.K X.mg W ω2 E (fl it.chk p b (it.items.drop i) ds2 h2), ⟨_, ω1, h1, ds, rfl, Ext.refl _, r1, s1, rfl, p1⟩, ?_⟩
  rintro i m σ' H' ⟨ω2, h2, ds2, rfl, e2, r2, s2, hm, p2⟩
  cases q1 : it.items.drop i with
  | nil =>
    rw [q1] at p2
    unfold fl at p2
    obtain ⟨hk, p2⟩ := p2.if_
    refine .inl ⟨(ok i ω2 h2 e2 r2 hk).2 ?_, p2 σ' ω2 (Ext.refl _) r2 s2⟩
    have : it.items.length ≤ i := List.drop_eq_nil_iff.mp q1
    exact List.getElem?_eq_none this
  | cons d rest =>
    rw [q1] at p2
    unfold fl at p2
    obtain ⟨hk, p2⟩ := p2.if_
    have hd : it.items[i]? = some d := by
      have := congrArg (fun l => l[0]?) q1
      simpa using this
    have hrest : it.items.drop (i + 1) = rest := by
      have := congrArg List.tail q1
      simpa using this
    obtain ⟨go, yl⟩ := (ok i ω2 h2 e2 r2 hk).1 d hd
    refine .inr ⟨go, fun σ3 H3 => ∃ ω3 h3 ds3, ω3.H = H3 ∧ Ext ω1 ω3 ∧ Rel X.K ω3 h3 ∧ RelS X.K ω3 ds3 σ3 ∧ PostO X.K X.mg W ω3 E (fl it.chk p b rest ds3 h3), fun σ3 H3 ⟨ω3, h3, ds3, a1, a2, a3, a4, a5⟩ => ⟨rest.length, by rw [hm, q1]; exact Nat.lt_succ_self _, ω3, h3, ds3, a1, a2, a3, a4, by rw [hrest], by rw [hrest]; exact a5⟩, fun x H' hy => ?_⟩
    obtain ⟨ω3, rfl, e3, r3, d3⟩ := yl x H' hy
    cases q2 : bindP h2 p d ds2 with
    | none => rw [q2] at p2; exact False.elim p2
    | some ds3 =>
      rw [q2] at p2
      refine ⟨ω3, h2, ds2, d, ds3, rfl, r3, monoS r2 e3 s2, d3, q2, fun σ4 s4 _ => ⟨ω3, h2, ds3, rfl, r3, s4, ?_⟩⟩
      have p3 := PostO.mono p2 e3
      cases q3 : b ds3 h2 with
      | nx ds' h' => simp only [q3] at p3; exact fun σ5 ω5 e5 r5 s5 => ⟨ω5, h', ds', rfl, (e2.trans e3).trans e5, r5, s5, PostO.mono (o := fl it.chk p b rest ds' h') p3 e5⟩
      | ct ds' h' => simp only [q3] at p3; exact fun σ5 ω5 e5 r5 s5 => ⟨ω5, h', ds', rfl, (e2.trans e3).trans e5, r5, s5, PostO.mono (o := fl it.chk p b rest ds' h') p3 e5⟩
      | bk ds' h' => simp only [q3] at p3; exact p3
      | rt d h' => simp only [q3] at p3; exact p3
      | ex x fs vs ds' h' => simp only [q3] at p3; exact p3
      | bad => simp only [q3] at p3; exact p3
/-! ### comprehensions -/
def R.nox {α : Type} : R α → R α
  | .ok a h => .ok a h
  | _ => .bad
@[simp] theorem R.nox_ok {α : Type} (a : α) (h : Hc) : (R.ok a h).nox = .ok a h := Eq.trans rfl rfl
def wipeD (ds : Sl) : List Nat → Sl
  | [] => ds
  | v :: vs => (wipeD ds vs).set v none
abbrev W0 : WX := fun _ _ _ _ => False
def lcR (chk : Hc → Bool) (p : Pt) (own : List Nat) (c : SB) (m : SE) (ds : Sl) : List D → List D → Hc → R (List D)
  | [], acc, h => if chk h = true then .ok acc h else .bad
  | d :: r, acc, h => if chk h = true then (match bindP h p d (wipeD ds own) with
      | some ds1 => (c ds1 h).nox.bd fun b h1 => if b = true then (m ds1 h1).nox.bd fun y h2 => if acc.length < lim then lcR chk p own c m ds r (acc ++ [y]) h2 else .bad else lcR chk p own c m ds r acc h1
      | none => .bad) else .bad
def eLc (mi : SI) (p : Pt) (own : List Nat) (c : SB) (m : SE) : SE := fun ds h => (mi ds h).bd fun it h1 => (lcR it.chk p own c m ds it.items [] h1).bd fun xs h2 => .ok (.lst xs) h2
def eLcC (mi : SI) (p : Pt) (own : List Nat) (c : SB) (m : SE) : SE := fun ds h => (mi ds h).bd fun it h1 => (lcR it.chk p own c m ds it.items [] h1).bd fun xs h2 => .ok (.ref h2.length) (h2 ++ [.lst xs])
section
variable {K : PySem.W.Frag} {ω ω' : Wo} {h h' : Hc} {ds : Sl} {σ : L2.St}
theorem RelS.wipe (s : RelS K ω ds σ) : ∀ own : List Nat, RelS K ω (wipeD ds own) (wipe σ own)
  | [] => s
  | v :: vs => by
    have ih := RelS.wipe s vs
    unfold wipeD L2.wipe
    refine ⟨by rw [List.length_set, List.length_set]; exact ih.1, fun j d hj => ?_⟩
    by_cases hv : v = j
    · subst hv
      have hl : v < (wipeD ds vs).length := by
        have := (List.getElem?_eq_some_iff.mp hj).1
        rw [List.length_set] at this; exact this
      rw [List.getElem?_set_self hl] at hj; cases hj
    · rw [List.getElem?_set_ne hv] at hj ⊢
      exact ih.2 j d hj
/-- the list at q, which is not read as data, grows -/
theorem hid (r : Rel K ω h) {q : Addr} {vs ws : List V} (hA : ω.A q) (hb : ∀ i, i < ω.n → ω.β i ≠ q) (hq : ω.H q = some (.lst vs)) :
    Rel K (ω.up q (.lst ws)) h ∧ (∀ d v, RelD K ω d v → RelD K (ω.up q (.lst ws)) d v) ∧ ∀ ds vs, RelL K ω ds vs → RelL K (ω.up q (.lst ws)) ds vs := by
  have stT : ∀ p vs', SqT K ω.H p vs' → SqT K (upd ω.H q (.lst ws)) p vs' := fun p vs' x => by
    have ne : ∀ o, ω.H p = some o → (∀ l, o ≠ .lst l) → p ≠ q := fun o z1 z2 e => by rw [e, hq] at z1; cases z1; exact z2 _ rfl
    rcases x with (x | ⟨o, x⟩) | x
    · exact .inl (.inl (by rw [upd_ne (ne _ x (by intro l z; cases z))]; exact x))
    · exact .inl (.inr ⟨o, by rw [upd_ne (ne _ x (by intro l z; cases z))]; exact x⟩)
    · exact .inr x
  have stR : ∀ p o, ω.H p = some o → ¬ ω.A p → (upd ω.H q (.lst ws)) p = some o := fun p o x n => by
    have ne : p ≠ q := fun e => n (e ▸ hA)
    rw [upd_ne ne]; exact x
  have stK : ∀ p vs', LkL K ω p vs' → LkL K (ω.up q (.lst ws)) p vs' := fun p vs' x => by
    rcases x with ⟨o, x⟩ | x
    · refine .inl ⟨o, ?_⟩
      show upd ω.H q (.lst ws) p = _
      rw [upd_ne (fun e => by rw [e, hq] at x; cases x)]; exact x
    · exact .inr x
  have key : (∀ d v, RelD K ω d v → RelD K (ω.up q (.lst ws)) d v) ∧ ∀ ds vs, RelL K ω ds vs → RelL K (ω.up q (.lst ws)) ds vs := by
    have aux := @D.rec (motive_1 := fun d => ∀ v, RelD K ω d v → RelD K (ω.up q (.lst ws)) d v) (motive_2 := fun ds => ∀ vs, RelL K ω ds vs → RelL K (ω.up q (.lst ws)) ds vs)
      (fun v x => by unfold RelD at x ⊢; exact x) (fun b v x => by unfold RelD at x ⊢; exact x) (fun i v x => by unfold RelD at x ⊢; exact x) (fun s v x => by unfold RelD at x ⊢; exact x)
      (fun ds ih v x => by unfold RelD at x ⊢; obtain ⟨p, vs', e1, e2, e3⟩ := x; exact ⟨p, vs', e1, stT p vs' e2, ih _ e3⟩)
      (fun ds ih v x => by unfold RelD at x ⊢; obtain ⟨p, vs', e1, ⟨e2, n⟩, e3⟩ := x; exact ⟨p, vs', e1, ⟨stR _ _ e2 n, n⟩, ih _ e3⟩)
      (fun ds ih v x => by unfold RelD at x ⊢; obtain ⟨p, vs', e1, e2, e3⟩ := x; exact ⟨p, vs', e1, stK _ _ e2, ih _ e3⟩)
      (fun ks ds ih v x => by unfold RelD at x ⊢; obtain ⟨p, vs', e1, ⟨e2, n⟩, e3, e4⟩ := x; exact ⟨p, vs', e1, ⟨stR _ _ e2 n, n⟩, e3, ih _ e4⟩)
      (fun i v x => by unfold RelD at x ⊢; exact x) (fun t v x => by unfold RelD at x ⊢; exact x)
      (fun vs x => by unfold RelL at x ⊢; exact x)
      (fun d ds ih1 ih2 vs x => by unfold RelL at x ⊢; obtain ⟨v, ws', e1, e2, e3⟩ := x; exact ⟨v, ws', e1, ih1 _ e2, ih2 _ e3⟩)
    refine ⟨aux, fun ds => ?_⟩
    induction ds with
    | nil => intro vs x; unfold RelL at x ⊢; exact x
    | cons d ds ih => intro vs x; obtain ⟨v, ws', rfl, e2, e3⟩ := x.inv; exact RelL.cons (aux d v e2) (ih _ e3)
  refine ⟨⟨r.n, r.inj, r.inA, fun p hp z => ?_, fun i c hi => ?_, tabs_keep r.tabs fun b u e nm => by
    show upd ω.H q (.lst ws) b = some u
    rw [upd_ne (fun z => nm (by rw [z, hq] at e; cases e; exact .inl ⟨_, rfl⟩))]; exact e⟩, key.1, key.2⟩
  · have z' : upd ω.H q (.lst ws) p = none := z
    by_cases e : p = q
    · rw [e, upd_same] at z'; cases z'
    · rw [upd_ne e] at z'; exact r.sub p hp z'
  · have hl : i < ω.n := by rw [r.n]; exact (List.getElem?_eq_some_iff.mp hi).1
    have x := r.cel i c hi
    show RelC K (ω.up q (.lst ws)) (ω.β i) c
    cases c with
    | lst xs => obtain ⟨vs', e1, e2⟩ := x; exact ⟨vs', (upd_ne (hb i hl)).trans e1, key.2 _ _ e2⟩
    | dct ks xs => obtain ⟨vs', e1, e3, e2⟩ := x; exact ⟨vs', (upd_ne (hb i hl)).trans e1, e3, key.2 _ _ e2⟩
/-- fewer addresses may change -/
theorem shrink {B : Addr → Prop} (r : Rel K ω h) (hB : ∀ q, B q → ω.A q) (hc : ∀ i, i < ω.n → B (ω.β i)) :
    Rel K { ω with A := B } h ∧ (∀ d v, RelD K ω d v → RelD K { ω with A := B } d v) ∧ ∀ ds vs, RelL K ω ds vs → RelL K { ω with A := B } ds vs := by
  have key : (∀ d v, RelD K ω d v → RelD K { ω with A := B } d v) ∧ ∀ ds vs, RelL K ω ds vs → RelL K { ω with A := B } ds vs := by
    have aux := @D.rec (motive_1 := fun d => ∀ v, RelD K ω d v → RelD K { ω with A := B } d v) (motive_2 := fun ds => ∀ vs, RelL K ω ds vs → RelL K { ω with A := B } ds vs)
      (fun v x => by unfold RelD at x ⊢; exact x) (fun b v x => by unfold RelD at x ⊢; exact x) (fun i v x => by unfold RelD at x ⊢; exact x) (fun s v x => by unfold RelD at x ⊢; exact x)
      (fun ds ih v x => by unfold RelD at x ⊢; obtain ⟨p, vs', e1, e2, e3⟩ := x; exact ⟨p, vs', e1, e2, ih _ e3⟩)
      (fun ds ih v x => by unfold RelD at x ⊢; obtain ⟨p, vs', e1, ⟨e2, n⟩, e3⟩ := x; exact ⟨p, vs', e1, ⟨e2, fun z => n (hB _ z)⟩, ih _ e3⟩)
      (fun ds ih v x => by unfold RelD at x ⊢; obtain ⟨p, vs', e1, e2, e3⟩ := x; exact ⟨p, vs', e1, e2, ih _ e3⟩)
      (fun ks ds ih v x => by unfold RelD at x ⊢; obtain ⟨p, vs', e1, ⟨e2, n⟩, e3, e4⟩ := x; exact ⟨p, vs', e1, ⟨e2, fun z => n (hB _ z)⟩, e3, ih _ e4⟩)
      (fun i v x => by unfold RelD at x ⊢; exact x) (fun t v x => by unfold RelD at x ⊢; exact x)
      (fun vs x => by unfold RelL at x ⊢; exact x)
      (fun d ds ih1 ih2 vs x => by unfold RelL at x ⊢; obtain ⟨v, ws', e1, e2, e3⟩ := x; exact ⟨v, ws', e1, ih1 _ e2, ih2 _ e3⟩)
    refine ⟨aux, fun ds => ?_⟩
    induction ds with
    | nil => intro vs x; unfold RelL at x ⊢; exact x
    | cons d ds ih => intro vs x; obtain ⟨v, ws', rfl, e2, e3⟩ := x.inv; exact RelL.cons (aux d v e2) (ih _ e3)
  refine ⟨⟨r.n, r.inj, hc, fun p hp => r.sub p (hB p hp), fun i c hi => ?_, r.tabs⟩, key.1, key.2⟩
  have x := r.cel i c hi
  cases c with
  | lst xs => obtain ⟨vs', e1, e2⟩ := x; exact ⟨vs', e1, key.2 _ _ e2⟩
  | dct ks xs => obtain ⟨vs', e1, e3, e2⟩ := x; exact ⟨vs', e1, e3, key.2 _ _ e2⟩
end
theorem Post.if_ {α β : Type} {K : PySem.W.Frag} {mg : Str → Option Value} {W : WX} {σ : L2.St} {ω : Wo} {rel : Wo → α → β → Prop} {Q : β → Hp → Prop} {c : Prop} [Decidable c] {o : R α} (p : Post K mg W σ ω rel Q (if c then o else .bad)) : c ∧ Post K mg W σ ω rel Q o := by
  by_cases h : c
  · rw [if_pos h] at p; exact ⟨h, p⟩
  · rw [if_neg h] at p; exact False.elim p
theorem wipe_wipe {σ : L2.St} : ∀ ws : List Nat, wipe (wipe σ ws) ws = wipe σ ws
  | [] => rfl
  | v :: vs => by
    have ih := wipe_wipe (σ := σ) vs
    show (wipe ((wipe σ vs).set v none) vs).set v none = (wipe σ vs).set v none
    by_cases h : v ∈ vs
    · rw [wipe_set_in h, ih]
    · rw [wipe_set_out h, ih, List.set_set]
/-- the world without q -/
def Wo.drop (ω : Wo) (q : Addr) : Wo := { ω with A := fun a => ω.A a ∧ a ≠ q, H := fun a => if a = q then none else ω.H a }
theorem Wo.drop_ne {ω : Wo} {q a : Addr} (h : a ≠ q) : (ω.drop q).H a = ω.H a := if_neg h
theorem Wo.drop_eq {ω : Wo} {q : Addr} : (ω.drop q).H q = none := if_pos rfl
theorem Wo.drop_up {ω : Wo} {q : Addr} {o : HO} : (ω.up q o).drop q = ω.drop q := by
  unfold Wo.drop Wo.up
  congr 1
  funext a
  by_cases h : a = q
  · rw [if_pos h, if_pos h]
  · rw [if_neg h, if_neg h]; exact upd_ne h
theorem Ext.drop {ω ω' : Wo} (e : Ext ω ω') (q : Addr) : Ext (ω.drop q) (ω'.drop q) where
  n := e.n
  b := e.b
  a := fun a h => ⟨e.a a h.1, h.2⟩
  aN := fun a h => by
    rcases e.aN a h.1 with z | z
    · exact .inl ⟨z, h.2⟩
    · exact .inr (by rw [Wo.drop_ne h.2]; exact z)
  nw := fun i h1 h2 => by
    have z := e.nw i h1 h2
    show (if _ then _ else _) = _
    split
    · rfl
    · exact z
  dom := fun a h => by
    by_cases ha : a = q
    · rw [ha]; exact Wo.drop_eq
    · rw [Wo.drop_ne ha] at h ⊢; exact e.dom a h
  keep := fun a o h nt hb => by
    by_cases ha : a = q
    · rw [ha, Wo.drop_eq] at h; cases h
    · rw [Wo.drop_ne ha] at h ⊢; exact e.keep a o h nt hb
/-- into a block, q being the list that is made: nothing is raised there -/
theorem Post.into {α β α' β' : Type} {K : PySem.W.Frag} {mg : Str → Option Value} {W : WX} {σ σ' : L2.St} {ω : Wo} {rel : Wo → α → β → Prop} {Q : β → Hp → Prop} {rel' : Wo → α' → β' → Prop} {Q' : β' → Hp → Prop} {r : R α} {f : α → Hc → R α'} {q : Addr}
    (hp : Post K mg W σ (ω.drop q) rel' Q' (r.nox.bd f)) (hq : ∀ a h b ω', Ext ω ω' → Rel K ω' h → rel ω' a b → Post K mg W σ (ω'.drop q) rel' Q' (f a h) → Q b ω'.H) : Post K mg W0 σ' ω rel Q r := by
  cases r with
  | ok a h => exact fun b ω' e r1 ra => hq a h b ω' e r1 ra (Post.mono (r := f a h) hp (e.drop q))
  | ex x fs ds h => exact False.elim hp
  | bad => exact False.elim hp
theorem bd_bd {α β γ : Type} (r : R α) (f : α → Hc → R β) (g : β → Hc → R γ) : (r.bd f).bd g = r.bd fun a h => (f a h).bd g := by cases r <;> rfl
section
variable {X : Cx} {W : WX} {tg iter elt : Expr} {ifs : List Expr} {mi : SI} {p : Pt} {own : List Nat} {c : SB} {m : SE} {scope : Scope} {pos : Pos}
/-- the comprehension's list is made; fin: what is done with it -/
theorem lcW {fin : List D → Hc → R D} (ho : ∀ i ∈ p.slots, i ∈ own)
    (hfin : ∀ (σ : L2.St) (ω : Wo) (h : Hc) (q : Addr) (xs : List D) (vs : List V) (Q : VK), Rel X.K ω h → ω.H q = some (.lst vs) → ω.A q → (∀ i, i < ω.n → ω.β i ≠ q) → RelL X.K ω xs vs →
      Post X.K X.mg W σ (ω.drop q) (RelD X.K) Q (fin xs h) → Q (.ref q) ω.H) :
    ∀ σ H Q, tE X W (fun ds h => (mi ds h).bd fun it h1 => (lcR it.chk p own c m ds it.items [] h1).bd fin) σ H Q → tLc (tI X W mi) (tP X.K p) (tT X W0 c) (tE X W0 m) own σ H Q := fun σ H Q ⟨ω, h, ds, e1, r, s, q⟩ => by
  subst e1
  refine ⟨ω, h, ds, rfl, r, s, q.bd fun it h1 J ω1 ex1 r1 ok p1 => ?_⟩
  intro Da hD
  have s1 := monoS r ex1 s
  have e0 : Ext ω1 { ω1 with A := fun q => ω1.A q ∨ q = Da, H := upd ω1.H Da (.lst []) } := by
    refine ⟨Nat.le_refl _, fun _ _ => rfl, fun _ z => .inl z, fun q z => ?_, fun i a b => absurd b (Nat.not_lt.mpr a), (Ext.up (o := .lst []) hD).dom, (Ext.up (o := .lst []) hD).keep⟩
    rcases z with z | z
    · exact .inl z
    · exact .inr (by rw [z]; exact hD)
  have nD : ∀ j, j < ω1.n → ω1.β j ≠ Da := fun j hj z => by
    obtain ⟨u, e, _⟩ := r1.mut hj
    rw [z, hD] at e; cases e
  refine ⟨fun i k H' => ∃ ω2 h2 acc vs, ω2.H = H' ∧ Ext ω1 ω2 ∧ Rel X.K ω2 h2 ∧ ω2.A Da ∧ (∀ j, j < ω2.n → ω2.β j ≠ Da) ∧ ω2.H Da = some (.lst vs) ∧ RelL X.K ω2 acc vs ∧ k = (it.items.drop i).length ∧
      Post X.K X.mg W σ (ω2.drop Da) (RelD X.K) Q ((lcR it.chk p own c m ds (it.items.drop i) acc h2).bd fin), ⟨_, { ω1 with A := fun q => ω1.A q ∨ q = Da, H := upd ω1.H Da (.lst []) }, h1, [], [], rfl, e0, ?_, .inr rfl, nD, upd_same, RelL.nil, rfl, ?_⟩, ?_⟩
  · refine r1.ext1 e0 rfl (fun q z w => ?_) (fun i hi => upd_ne (nD i hi)) (tabs_keep r1.tabs fun b u e _ => by
      show upd ω1.H Da (.lst []) b = some u
      rw [upd_ne (ne_of_none e hD)]; exact e)
    have w' : upd ω1.H Da (.lst []) q = none := w
    by_cases e : q = Da
    · rw [e, upd_same] at w'; cases w'
    · rw [upd_ne e] at w'
      rcases z with z | z
      · exact r1.sub q z w'
      · exact e z
  · refine Post.mono (r := (lcR it.chk p own c m ds it.items [] h1).bd fin) p1 ⟨Nat.le_refl _, fun _ _ => rfl, fun a ha => ⟨.inl ha, fun z => r1.free hD (z ▸ ha)⟩, fun a ha => ?_, fun i a b => absurd b (Nat.not_lt.mpr a), fun a ha => ?_, fun a o ha _ _ => ?_⟩
    · rcases ha.1 with z | z
      · exact .inl z
      · exact absurd z ha.2
    · by_cases z : a = Da
      · rw [z]; exact hD
      · rw [Wo.drop_ne z] at ha
        have ha' : upd ω1.H Da (.lst []) a = none := ha
        rw [upd_ne z] at ha'; exact ha'
    · have z := ne_of_none ha hD
      rw [Wo.drop_ne z]
      show upd ω1.H Da (.lst []) a = some o
      rw [upd_ne z]; exact ha
  · rintro i k H' ⟨ω2, h2, acc, vs, rfl, e2, r2, aD, bD, hDa, rl, hk, p2⟩
    cases q1 : it.items.drop i with
    | nil =>
      rw [q1] at p2
      unfold lcR at p2
      by_cases hck : it.chk h2 = true
      · rw [if_pos hck] at p2
        refine .inl ⟨(ok i ω2 h2 e2 r2 hck).2 (List.getElem?_eq_none (List.drop_eq_nil_iff.mp q1)), ?_⟩
        exact hfin σ ω2 h2 Da acc vs Q r2 hDa aD bD rl p2
      · rw [if_neg hck] at p2; exact False.elim p2
    | cons d rest =>
      rw [q1] at p2
      unfold lcR at p2
      by_cases hck : it.chk h2 = true
      · rw [if_pos hck] at p2
        have hd : it.items[i]? = some d := by
          have := congrArg (fun l => l[0]?) q1
          simpa using this
        have hrest : it.items.drop (i + 1) = rest := by
          have := congrArg List.tail q1
          simpa using this
        obtain ⟨go, yl⟩ := (ok i ω2 h2 e2 r2 hck).1 d hd
        refine .inr ⟨go, fun H3 => ∃ ω3 h3 acc vs, ω3.H = H3 ∧ Ext ω1 ω3 ∧ Rel X.K ω3 h3 ∧ ω3.A Da ∧ (∀ j, j < ω3.n → ω3.β j ≠ Da) ∧ ω3.H Da = some (.lst vs) ∧ RelL X.K ω3 acc vs ∧ Post X.K X.mg W σ (ω3.drop Da) (RelD X.K) Q ((lcR it.chk p own c m ds rest acc h3).bd fin),
          fun H3 ⟨ω3, h3, acc', vs', a1, a2, a3, a4, a5, a6, a7, a8⟩ => ⟨rest.length, by rw [hk, q1]; exact Nat.lt_succ_self _, ω3, h3, acc', vs', a1, a2, a3, a4, a5, a6, a7, by rw [hrest], by rw [hrest]; exact a8⟩, fun x H' hy => ?_⟩
        obtain ⟨ω3, rfl, e3, r3, d3⟩ := yl x H' hy
        cases q2 : bindP h2 p d (wipeD ds own) with
        | none => rw [q2] at p2; exact False.elim p2
        | some ds3 =>
          rw [q2] at p2
          have st : ∀ {ω4 : Wo}, Ext ω2 ω4 → ω4.A Da ∧ (∀ j, j < ω4.n → ω4.β j ≠ Da) ∧ ω4.H Da = some (.lst vs) := fun {ω4} e4 => by
            refine ⟨e4.a _ aD, fun j hj z => ?_, e4.keep _ _ hDa (by intro _ z; cases z) fun j hj => bD j hj⟩
            by_cases hj2 : j < ω2.n
            · rw [e4.b j hj2] at z; exact bD j hj2 z
            · have := e4.nw j (Nat.not_lt.mp hj2) hj
              rw [z, hDa] at this; cases this
          refine ⟨ω3, h2, wipeD ds own, d, ds3, rfl, r3, monoS r2 e3 (monoS r1 e2 s1 |>.wipe own), d3, q2, fun σ4 s4 hw => ⟨(hw own ho).trans (wipe_wipe own), ω3, h2, ds3, rfl, r3, s4, ?_⟩⟩
          have p3 := Post.mono p2 (e3.drop Da)
          simp only at p3
          rw [bd_bd] at p3
          refine Post.into p3 fun b h4 b' ω4 e4 r4 hb p4 => ?_
          have hb' : b = b' := hb
          subst hb'
          obtain ⟨aD4, bD4, hD4⟩ := st (e3.trans e4)
          cases b with
          | false => exact ⟨ω4, h4, acc, vs, rfl, (e2.trans e3).trans e4, r4, aD4, bD4, hD4, monoL r2 (e3.trans e4) _ _ rl, p4⟩
          | true =>
            rw [if_pos rfl] at p4 ⊢
            rw [bd_bd] at p4
            refine ⟨ω4, h4, ds3, rfl, r4, monoS r3 e4 s4, Post.into p4 fun y h5 v ω5 e5 r5 hy p5 => ?_⟩
            obtain ⟨aD5, bD5, hD5⟩ := st ((e3.trans e4).trans e5)
            have rl5 := monoL r2 ((e3.trans e4).trans e5) _ _ rl
            by_cases hl : acc.length < lim
            · rw [if_pos hl] at p5
              obtain ⟨k1, k2, k3⟩ := hid (ws := vs ++ [v]) r5 aD5 bD5 hD5
              refine ⟨vs, hD5, by rw [← rl5.len]; exact lim_lt hl, ω5.up Da (.lst (vs ++ [v])), h5, acc ++ [y], vs ++ [v], rfl, ?_, k1, aD5, bD5, upd_same, k3 _ _ (rl5.append (RelL.cons hy RelL.nil)), by rw [Wo.drop_up]; exact p5⟩
              have e15 := ((e2.trans e3).trans e4).trans e5
              refine ⟨e15.n, e15.b, e15.a, e15.aN, e15.nw, fun a ha => ?_, fun a o ha nt hb => ?_⟩
              · have ha' : upd ω5.H Da (.lst (vs ++ [v])) a = none := ha
                by_cases z : a = Da
                · rw [z, upd_same] at ha'; cases ha'
                · rw [upd_ne z] at ha'; exact e15.dom a ha'
              · have z := ne_of_none ha hD
                show upd ω5.H Da (.lst (vs ++ [v])) a = some o
                rw [upd_ne z]; exact e15.keep a o ha nt hb
            · rw [if_neg hl] at p5; exact False.elim p5
      · rw [if_neg hck] at p2; exact False.elim p2
theorem lc_fz (σ : L2.St) (ω : Wo) (h : Hc) (q : Addr) (xs : List D) (vs : List V) (Q : VK) (r : Rel X.K ω h) (hq : ω.H q = some (.lst vs)) (aq : ω.A q) (bq : ∀ i, i < ω.n → ω.β i ≠ q) (rl : RelL X.K ω xs vs)
    (p : Post X.K X.mg W σ (ω.drop q) (RelD X.K) Q (.ok (.lst xs) h)) : Q (.ref q) ω.H := by
  obtain ⟨k1, k2, k3⟩ := shrink (B := fun a => ω.A a ∧ a ≠ q) r (fun _ z => z.1) fun i hi => ⟨r.inA i hi, bq i hi⟩
  refine p (.ref q) { ω with A := fun a => ω.A a ∧ a ≠ q } ⟨Nat.le_refl _, fun _ _ => rfl, fun _ z => z, fun _ z => .inl z, fun i a b => absurd b (Nat.not_lt.mpr a), fun a ha => ?_, fun a o ha _ _ => ?_⟩ k1 ?_
  · by_cases z : a = q
    · rw [z]; exact Wo.drop_eq
    · rw [Wo.drop_ne z]; exact ha
  · by_cases z : a = q
    · rw [z, Wo.drop_eq] at ha; cases ha
    · rw [Wo.drop_ne z] at ha; exact ha
  · unfold RelD
    exact ⟨q, vs, rfl, ⟨hq, fun z => z.2 rfl⟩, k3 _ _ rl⟩
theorem lc_cell (σ : L2.St) (ω : Wo) (h : Hc) (q : Addr) (xs : List D) (vs : List V) (Q : VK) (r : Rel X.K ω h) (hq : ω.H q = some (.lst vs)) (aq : ω.A q) (bq : ∀ i, i < ω.n → ω.β i ≠ q) (rl : RelL X.K ω xs vs)
    (p : Post X.K X.mg W σ (ω.drop q) (RelD X.K) Q (.ok (.ref h.length) (h ++ [.lst xs]))) : Q (.ref q) ω.H := by
  have e1 : Ext ω ⟨ω.A, fun i => if i = ω.n then q else ω.β i, ω.n + 1, ω.H⟩ ∨ True := .inr trivial
  -- the data keep their meaning when one more cell is counted
  have key : (∀ d v, RelD X.K ω d v → RelD X.K ⟨ω.A, fun i => if i = ω.n then q else ω.β i, ω.n + 1, ω.H⟩ d v) ∧ ∀ ds vs, RelL X.K ω ds vs → RelL X.K ⟨ω.A, fun i => if i = ω.n then q else ω.β i, ω.n + 1, ω.H⟩ ds vs := by
    have aux := @D.rec (motive_1 := fun d => ∀ v, RelD X.K ω d v → RelD X.K ⟨ω.A, fun i => if i = ω.n then q else ω.β i, ω.n + 1, ω.H⟩ d v) (motive_2 := fun ds => ∀ vs, RelL X.K ω ds vs → RelL X.K ⟨ω.A, fun i => if i = ω.n then q else ω.β i, ω.n + 1, ω.H⟩ ds vs)
      (fun v x => by unfold RelD at x ⊢; exact x) (fun b v x => by unfold RelD at x ⊢; exact x) (fun i v x => by unfold RelD at x ⊢; exact x) (fun s v x => by unfold RelD at x ⊢; exact x)
      (fun ds ih v x => by unfold RelD at x ⊢; obtain ⟨p, vs', e1, e2, e3⟩ := x; exact ⟨p, vs', e1, e2, ih _ e3⟩)
      (fun ds ih v x => by unfold RelD at x ⊢; obtain ⟨p, vs', e1, e2, e3⟩ := x; exact ⟨p, vs', e1, e2, ih _ e3⟩)
      (fun ds ih v x => by unfold RelD at x ⊢; obtain ⟨p, vs', e1, e2, e3⟩ := x; exact ⟨p, vs', e1, e2, ih _ e3⟩)
      (fun ks ds ih v x => by unfold RelD at x ⊢; obtain ⟨p, vs', e1, e2, e3, e4⟩ := x; exact ⟨p, vs', e1, e2, e3, ih _ e4⟩)
      (fun i v x => by unfold RelD at x ⊢; exact ⟨Nat.lt_succ_of_lt x.1, by rw [x.2]; show _ = V.ref (if i = ω.n then q else ω.β i); rw [if_neg (Nat.ne_of_lt x.1)]⟩) (fun t v x => by unfold RelD at x ⊢; exact x)
      (fun vs x => by unfold RelL at x ⊢; exact x)
      (fun d ds ih1 ih2 vs x => by unfold RelL at x ⊢; obtain ⟨v, ws', e1, e2, e3⟩ := x; exact ⟨v, ws', e1, ih1 _ e2, ih2 _ e3⟩)
    refine ⟨aux, fun ds => ?_⟩
    induction ds with
    | nil => intro vs x; unfold RelL at x ⊢; exact x
    | cons d ds ih => intro vs x; obtain ⟨v, ws', rfl, e2, e3⟩ := x.inv; exact RelL.cons (aux d v e2) (ih _ e3)
  refine p (.ref q) ⟨ω.A, fun i => if i = ω.n then q else ω.β i, ω.n + 1, ω.H⟩ ⟨Nat.le_succ _, fun i hi => if_neg (Nat.ne_of_lt hi), fun _ z => z.1, fun a z => ?_, fun i a b => ?_, fun a ha => ?_, fun a o ha _ _ => ?_⟩ ⟨?_, fun i j hi hj z => ?_, fun i hi => ?_, r.sub, fun i c hi => ?_, r.tabs⟩ ?_
  · by_cases e : a = q
    · exact .inr (by rw [e]; exact Wo.drop_eq)
    · exact .inl ⟨z, e⟩
  · have b' : i < ω.n + 1 := b
    have a' : ω.n ≤ i := a
    show (ω.drop q).H (if i = ω.n then q else ω.β i) = none
    rw [if_pos (by omega)]; exact Wo.drop_eq
  · by_cases z : a = q
    · rw [z]; exact Wo.drop_eq
    · rw [Wo.drop_ne z]; exact ha
  · by_cases z : a = q
    · rw [z, Wo.drop_eq] at ha; cases ha
    · rw [Wo.drop_ne z] at ha; exact ha
  · rw [List.length_append, ← r.n]; rfl
  · have hi' : i < ω.n + 1 := hi
    have hj' : j < ω.n + 1 := hj
    have z' : (if i = ω.n then q else ω.β i) = (if j = ω.n then q else ω.β j) := z
    by_cases e1 : i = ω.n
    · by_cases e2 : j = ω.n
      · omega
      · rw [if_pos e1, if_neg e2] at z'
        exact absurd z'.symm (bq j (by omega))
    · by_cases e2 : j = ω.n
      · rw [if_neg e1, if_pos e2] at z'
        exact absurd z' (bq i (by omega))
      · rw [if_neg e1, if_neg e2] at z'
        exact r.inj i j (by omega) (by omega) z'
  · have hi' : i < ω.n + 1 := hi
    show ω.A (if i = ω.n then q else ω.β i)
    by_cases e1 : i = ω.n
    · rw [if_pos e1]; exact aq
    · rw [if_neg e1]; exact r.inA i (by omega)
  · show RelC X.K _ (if i = ω.n then q else ω.β i) c
    by_cases e1 : i = ω.n
    · have e2 : i = h.length := e1.trans r.n
      rw [List.getElem?_append_right (by omega), e2, Nat.sub_self] at hi
      have e3 : C.lst xs = c := by simpa using hi
      subst e3
      rw [if_pos e1]
      exact ⟨vs, hq, key.2 _ _ rl⟩
    · have hlt : i < ω.n := by
        have := (List.getElem?_eq_some_iff.mp hi).1
        rw [List.length_append, ← r.n] at this
        simp at this; omega
      rw [List.getElem?_append_left (by rw [← r.n]; exact hlt)] at hi
      rw [if_neg e1]
      have x := r.cel i c hi
      cases c with
      | lst ys => obtain ⟨vs', e1, e2⟩ := x; exact ⟨vs', e1, key.2 _ _ e2⟩
      | dct ks ys => obtain ⟨vs', e1, e3, e2⟩ := x; exact ⟨vs', e1, e3, key.2 _ _ e2⟩
  · unfold RelD
    rw [← r.n]
    exact ⟨Nat.lt_succ_self _, by show _ = V.ref (if ω.n = ω.n then q else _); rw [if_pos rfl]⟩
theorem de_lc (ho : ∀ i ∈ p.slots, i ∈ own) (h : PE X (.ListComp elt [⟨tg, iter, ifs, 0⟩] scope pos) (tLc (tI X W mi) (tP X.K p) (tT X W0 c) (tE X W0 m) own)) : DE X W (.ListComp elt [⟨tg, iter, ifs, 0⟩] scope pos) (eLc mi p own c m) :=
  de_of h (lcW (fin := fun xs h => .ok (.lst xs) h) ho lc_fz)
theorem de_lcC (ho : ∀ i ∈ p.slots, i ∈ own) (h : PE X (.ListComp elt [⟨tg, iter, ifs, 0⟩] scope pos) (tLc (tI X W mi) (tP X.K p) (tT X W0 c) (tE X W0 m) own)) : DE X W (.ListComp elt [⟨tg, iter, ifs, 0⟩] scope pos) (eLcC mi p own c m) :=
  de_of h (lcW (fin := fun xs h => .ok (.ref h.length) (h ++ [.lst xs])) ho lc_cell)
end
end Mp
/-! LayD: calls and defs. -/
namespace Mp
open PySem PySem.Spec PyProof.Rows L2
mutual
/-- no cell within -/
def flat : D → Bool
  | .ref _ => false
  | .tup ds => flatL ds
  | .lst ds => flatL ds
  | .scr ds => flatL ds
  | .dct _ ds => flatL ds
  | _ => true
def flatL : List D → Bool
  | [] => true
  | d :: ds => flat d && flatL ds
end
def flatC : C → Bool
  | .lst ds => flatL ds
  | .dct _ ds => flatL ds
abbrev Fn := List D → Hc → R D
/-- a def's promise -/
def spD (K : PySem.W.Frag) (mg : Str → Option Value) (np : Nat) (m : Fn) : Sp := fun vs H Q E =>
  vs.length = np ∧ ∃ ω h ds, ω.H = H ∧ Rel K ω h ∧ RelL K ω ds vs ∧ Post K mg (fun c d _ H' => E c d H') ([] : L2.St) ω (RelD K) Q (m ds h)
/-! ### a def's body -/
def runB (n : Nat) (m : SS) : Fn := fun as h => match m (as.map some ++ List.replicate (n - as.length) none) h with
  | .nx _ h' => .ok .non h'
  | .rt d h' => .ok d h'
  | .ex x fs vs _ h' => .ex x fs vs h'
  | _ => .bad
abbrev WF (E : XK) : WX := fun c d _ H => E c d H
theorem RelL.slots {K : PySem.W.Frag} {ω : Wo} : ∀ {ds : List D} {vs : List V} {n : Nat}, RelL K ω ds vs → RelS K ω (ds.map some ++ List.replicate n none) (vs.map some ++ List.replicate n none)
  | [], vs, n, x => by
    rw [x.inv0]
    refine ⟨by simp, fun i d hi => ?_⟩
    simp [List.getElem?_replicate] at hi
  | d :: ds, vs, n, x => by
    obtain ⟨v, ws, rfl, e2, e3⟩ := x.inv
    have ih := RelL.slots (n := n) e3
    refine ⟨by simpa using ih.1, fun i d' hi => ?_⟩
    cases i with
    | zero =>
      have : d = d' := by simpa using hi
      subst this
      exact ⟨v, rfl, e2⟩
    | succ i => exact ih.2 i d' (by simpa using hi)
section
variable {P : Program} {w : World} {K : PySem.W.Frag} {mg : Str → Option Value} {base : Heap}
theorem fn_ok {x qual : Str} {st : Stmt} {f : Addr} {fd : FuncData} {N ps : List Str} {k : Nat} {m : SS} (F : Fun K x qual st f fd) (S : FnScope N ps (defScope st))
    (hb : ∀ (cdv : Value) (A : Around) (outer : List Env) (s : Shared) (H : Hp) (E : XK), Room k (A.deeper (envOfC qual (defScope st) s.heap.objs.size f cdv)) →
      DSs (cxOf (L2.CX P w) P w K mg base N qual (defScope st) f cdv A outer s H E) (WF E) (defBody st) m) :
    FnOk P w K mg base (L2.CX P w) (k + 1) f fd ps (spD K mg ps.length (runB N.length m)) :=
  F.okX S (fun vs H Q E h => h.1) fun cdv A outer s H vs Q E hr h => by
    refine ⟨_, hb cdv A outer s H E hr, ?_⟩
    obtain ⟨hl, ω, h, ds, e1, r, rl, p⟩ := h
    subst e1
    have e2 : N.length - ds.length = N.length - vs.length := by rw [rl.len]
    refine ⟨ω, h, ds.map some ++ List.replicate (N.length - ds.length) none, rfl, r, by rw [e2]; exact rl.slots, ?_⟩
    unfold runB at p
    cases q : m (ds.map some ++ List.replicate (N.length - ds.length) none) h with
    | nx ds' h' => rw [q] at p; exact fun σ' ω' e r' s' => p _ ω' e r' (by unfold RelD; rfl)
    | rt d h' => rw [q] at p; exact fun v ω' e r' s' => p _ ω' e r' s'
    | bk ds' h' => rw [q] at p; exact False.elim p
    | ct ds' h' => rw [q] at p; exact False.elim p
    | ex x fs vs' ds' h' => rw [q] at p; exact fun c d σ' ω' e r' s' rx => p c d ω' e r' rx
    | bad => rw [q] at p; exact False.elim p
end
/-! ### a call over the caller's cells -/
def eCallG (m : Fn) (as : SA) : SE := fun ds h => (as ds h).bd fun xs h1 => m xs h1
/-! ### a call: the callee sees the cells that are passed, no others -/
def refsOf : List D → List Nat
  | [] => []
  | .ref i :: r => let l := refsOf r; if i ∈ l then l else i :: l
  | _ :: r => refsOf r
def renD (rs : List Nat) : D → Option D
  | .ref i => (rs.findIdx? (· == i)).map .ref
  | d => if flat d = true then some d else none
def renL (rs : List Nat) : List D → Option (List D)
  | [] => some []
  | d :: ds => match renD rs d, renL rs ds with
    | some e, some es => some (e :: es)
    | _, _ => none
def cellsAt (h : Hc) : List Nat → Option (List C)
  | [] => some []
  | i :: r => match h[i]?, cellsAt h r with
    | some c, some cs => some (c :: cs)
    | _, _ => none
/-- what is handed back: a cell of the callee's own is never changed any more -/
def frzD (rs : List Nat) (h : Hc) : Nat → D → Option D
  | 0, d => if flat d = true then some d else none
  | n + 1, d => if flat d = true then some d else match d with
    | .ref i => if i < rs.length then (rs[i]?).map .ref else match h[i]? with
      | some (.lst ds) => (frzL (frzD rs h n) ds).map .lst
      | some (.dct ks ds) => (frzL (frzD rs h n) ds).map (.dct ks)
      | none => none
    | .tup ds => (frzL (frzD rs h n) ds).map .tup
    | _ => none
where
  frzL (f : D → Option D) : List D → Option (List D)
    | [] => some []
    | d :: ds => match f d, frzL f ds with
      | some e, some es => some (e :: es)
      | _, _ => none
def wb : Hc → List Nat → Hc → Hc
  | h, r :: rs, c :: cs => wb (h.set r c) rs cs
  | h, _, _ => h
def callL (m : Fn) (as : List D) (h : Hc) : R D :=
  match renL (refsOf as) as, cellsAt h (refsOf as) with
  | some as', some hc => if hc.all flatC = true then (match m as' hc with
    | .ok d h' => match frzD (refsOf as) h' 8 d with
      | some d' => if (h'.take (refsOf as).length).all flatC = true then .ok d' (wb h (refsOf as) h') else .bad
      | none => .bad
    | .ex x fs vs h' => if (h'.take (refsOf as).length).all flatC = true ∧ flatL vs = true then .ex x fs vs (wb h (refsOf as) h') else .bad
    | .bad => .bad) else .bad
  | _, _ => .bad
def eCall (m : Fn) (as : SA) : SE := fun ds h => (as ds h).bd fun xs h1 => callL m xs h1
section
variable {K : PySem.W.Frag} {ω ω' ω1 ω2 : Wo} {h h' : Hc}
theorem flat_rel (hH : ω2.H = ω1.H) (hA : ∀ p, ω2.A p → ω1.A p) : (∀ d v, flat d = true → RelD K ω1 d v → RelD K ω2 d v) ∧ ∀ ds vs, flatL ds = true → RelL K ω1 ds vs → RelL K ω2 ds vs := by
  have aux := @D.rec (motive_1 := fun d => ∀ v, flat d = true → RelD K ω1 d v → RelD K ω2 d v) (motive_2 := fun ds => ∀ vs, flatL ds = true → RelL K ω1 ds vs → RelL K ω2 ds vs)
    (fun v _ x => by unfold RelD at x ⊢; exact x) (fun b v _ x => by unfold RelD at x ⊢; exact x) (fun i v _ x => by unfold RelD at x ⊢; exact x) (fun s v _ x => by unfold RelD at x ⊢; exact x)
    (fun ds ih v hf x => by unfold RelD at x ⊢; obtain ⟨p, vs', e1, e2, e3⟩ := x; exact ⟨p, vs', e1, by rw [hH]; exact e2, ih _ (by simpa [flat] using hf) e3⟩)
    (fun ds ih v hf x => by unfold RelD at x ⊢; obtain ⟨p, vs', e1, ⟨e2, n⟩, e3⟩ := x; exact ⟨p, vs', e1, ⟨by rw [hH]; exact e2, fun z => n (hA _ z)⟩, ih _ (by simpa [flat] using hf) e3⟩)
    (fun ds ih v hf x => by
      unfold RelD at x ⊢
      obtain ⟨p, vs', e1, e2, e3⟩ := x
      refine ⟨p, vs', e1, ?_, ih _ (by simpa [flat] using hf) e3⟩
      rcases e2 with ⟨o, e2⟩ | e2
      · exact .inl ⟨o, by rw [hH]; exact e2⟩
      · exact .inr e2)
    (fun ks ds ih v hf x => by unfold RelD at x ⊢; obtain ⟨p, vs', e1, ⟨e2, n⟩, e3, e4⟩ := x; exact ⟨p, vs', e1, ⟨by rw [hH]; exact e2, fun z => n (hA _ z)⟩, e3, ih _ (by simpa [flat] using hf) e4⟩)
    (fun i v hf x => by simp [flat] at hf) (fun t v _ x => by unfold RelD at x ⊢; exact x)
    (fun vs _ x => by unfold RelL at x ⊢; exact x)
    (fun d ds ih1 ih2 vs hf x => by
      unfold RelL at x ⊢
      obtain ⟨v, ws', e1, e2, e3⟩ := x
      simp [flatL] at hf
      exact ⟨v, ws', e1, ih1 _ hf.1 e2, ih2 _ hf.2 e3⟩)
  refine ⟨aux, fun ds => ?_⟩
  induction ds with
  | nil => intro vs _ x; unfold RelL at x ⊢; exact x
  | cons d ds ih =>
    intro vs hf x
    obtain ⟨v, ws', rfl, e2, e3⟩ := x.inv
    simp [flatL] at hf
    exact RelL.cons (aux d v hf.1 e2) (ih _ hf.2 e3)
theorem flat_relC {p : Addr} {c : C} (hH : ω2.H = ω1.H) (hA : ∀ p, ω2.A p → ω1.A p) (hf : flatC c = true) (x : RelC K ω1 p c) : RelC K ω2 p c := by
  cases c with
  | lst ds => obtain ⟨vs, e1, e2⟩ := x; exact ⟨vs, by rw [hH]; exact e1, (flat_rel hH hA).2 _ _ hf e2⟩
  | dct ks ds => obtain ⟨vs, e1, e3, e2⟩ := x; exact ⟨vs, by rw [hH]; exact e1, e3, (flat_rel hH hA).2 _ _ hf e2⟩
theorem refsOf_nodup : ∀ as : List D, (refsOf as).Nodup
  | [] => List.nodup_nil
  | d :: r => by
    have ih := refsOf_nodup r
    cases d <;> try exact ih
    rename_i i
    show (let l := refsOf r; if i ∈ l then l else i :: l).Nodup
    by_cases hi : i ∈ refsOf r
    · simp only [hi, if_true]; exact ih
    · simp only [hi, if_false]; exact List.nodup_cons.mpr ⟨hi, ih⟩
theorem cellsAt_get : ∀ {rs : List Nat} {cs : List C} {j : Nat} {i : Nat}, cellsAt h rs = some cs → rs[j]? = some i → ∃ c, cs[j]? = some c ∧ h[i]? = some c
  | [], _, j, i, _, e => by simp at e
  | r :: rs, cs, j, i, q, e => by
    unfold cellsAt at q
    cases q1 : h[r]? with
    | none => simp [q1] at q
    | some c =>
      cases q2 : cellsAt h rs with
      | none => simp [q1, q2] at q
      | some cs' =>
        simp [q1, q2] at q; subst q
        cases j with
        | zero => have : r = i := by simpa using e
                  subst this
                  exact ⟨c, rfl, q1⟩
        | succ j =>
          obtain ⟨c', z1, z2⟩ := cellsAt_get (j := j) q2 (by simpa using e)
          exact ⟨c', by simpa using z1, z2⟩
theorem cellsAt_len : ∀ {rs : List Nat} {cs : List C}, cellsAt h rs = some cs → cs.length = rs.length
  | [], cs, q => by simp [cellsAt] at q; subst q; rfl
  | r :: rs, cs, q => by
    unfold cellsAt at q
    cases q1 : h[r]? with
    | none => simp [q1] at q
    | some c =>
      cases q2 : cellsAt h rs with
      | none => simp [q1, q2] at q
      | some cs' => simp [q1, q2] at q; subst q; simp [cellsAt_len q2]
/-- the callee's world -/
def Wo.sub (ω : Wo) (rs : List Nat) : Wo := { ω with β := fun j => ω.β (rs.getD j 0), n := rs.length }
theorem sub_at {rs : List Nat} {j i : Nat} (e : rs[j]? = some i) : (ω.sub rs).β j = ω.β i := by
  show ω.β (rs.getD j 0) = ω.β i
  rw [List.getD_eq_getElem?_getD, e]; rfl
theorem rs_lt {rs : List Nat} {hc : List C} (r : Rel K ω h) (q : cellsAt h rs = some hc) {j i : Nat} (e : rs[j]? = some i) : i < ω.n := by
  obtain ⟨c, _, z⟩ := cellsAt_get q e
  rw [r.n]; exact (List.getElem?_eq_some_iff.mp z).1
theorem Rel.sub_ {rs : List Nat} {hc : List C} (r : Rel K ω h) (nd : rs.Nodup) (q : cellsAt h rs = some hc) (hf : hc.all flatC = true) : Rel K (ω.sub rs) hc where
  tabs := r.tabs
  n := (cellsAt_len q).symm
  inj := fun i j hi hj z => by
    have hi' : i < rs.length := hi
    have hj' : j < rs.length := hj
    have e1 := List.getElem?_eq_getElem hi'
    have e2 := List.getElem?_eq_getElem hj'
    rw [sub_at e1, sub_at e2] at z
    have := r.inj _ _ (rs_lt r q e1) (rs_lt r q e2) z
    exact (List.getElem_inj nd).mp this
  inA := fun i hi => by
    have hi' : i < rs.length := hi
    have e1 := List.getElem?_eq_getElem hi'
    rw [sub_at e1]
    exact r.inA _ (rs_lt r q e1)
  sub := r.sub
  cel := fun j c hj => by
    have hl : j < rs.length := by rw [← cellsAt_len q]; exact (List.getElem?_eq_some_iff.mp hj).1
    have e1 := List.getElem?_eq_getElem hl
    obtain ⟨c', z1, z2⟩ := cellsAt_get q e1
    rw [hj] at z1; cases z1
    rw [sub_at e1]
    exact flat_relC (ω1 := ω) rfl (fun _ z => z) (List.all_eq_true.mp hf c (List.mem_of_getElem? hj)) (r.cel _ _ z2)
theorem findIdx_some {rs : List Nat} {i j : Nat} (e : rs.findIdx? (· == i) = some j) : rs[j]? = some i := by
  obtain ⟨h1, h2, _⟩ := List.findIdx?_eq_some_iff_getElem.mp e
  rw [List.getElem?_eq_getElem h1]
  simpa using h2
theorem renD_rel {rs : List Nat} {d e : D} {v : V} (q : renD rs d = some e) (x : RelD K ω d v) : RelD K (ω.sub rs) e v := by
  by_cases hr : ∃ i, d = .ref i
  · obtain ⟨i, rfl⟩ := hr
    unfold renD at q
    cases q1 : rs.findIdx? (· == i) with
    | none => simp [q1] at q
    | some j =>
      simp [q1] at q; subst q
      have z := findIdx_some q1
      unfold RelD at x ⊢
      refine ⟨(List.getElem?_eq_some_iff.mp z).1, ?_⟩
      rw [sub_at z]; exact x.2
  · have q' : (if flat d = true then some d else none) = some e := by
      cases d <;> first | exact q | exact absurd ⟨_, rfl⟩ hr
    by_cases hf : flat d = true
    · rw [if_pos hf] at q'
      cases q'
      exact (flat_rel (ω1 := ω) (ω2 := ω.sub rs) rfl fun _ z => z).1 _ _ hf x
    · rw [if_neg hf] at q'; cases q'
theorem renL_rel {rs : List Nat} : ∀ {ds es : List D} {vs : List V}, renL rs ds = some es → RelL K ω ds vs → RelL K (ω.sub rs) es vs
  | [], es, vs, q, x => by simp [renL] at q; subst q; rw [x.inv0]; exact RelL.nil
  | d :: ds, es, vs, q, x => by
    obtain ⟨v, ws, rfl, e2, e3⟩ := x.inv
    unfold renL at q
    cases q1 : renD rs d with
    | none => simp [q1] at q
    | some e =>
      cases q2 : renL rs ds with
      | none => simp [q1, q2] at q
      | some es' => simp [q1, q2] at q; subst q; exact RelL.cons (renD_rel q1 e2) (renL_rel q2 e3)
/-- behind the call: the caller's world -/
def Wo.back (ω ω' : Wo) : Wo := { ω with H := ω'.H }
theorem Ext.back {rs : List Nat} (hl : ∀ (j i : Nat), rs[j]? = some i → i < ω.n) (e : Ext (ω.sub rs) ω') : Ext ω (ω.back ω') where
  n := Nat.le_refl _
  b := fun _ _ => rfl
  a := fun _ z => z
  aN := fun _ z => .inl z
  nw := fun i a b => absurd b (Nat.not_lt.mpr a)
  dom := e.dom
  keep := fun q o hq nt hb => e.keep q o hq nt fun j hj z => by
    have hj' : j < rs.length := hj
    have e1 := List.getElem?_eq_getElem hj'
    rw [sub_at e1] at z
    exact hb _ (hl j _ e1) z
theorem frz_rel {rs : List Nat} (r : Rel K ω h) (hl : ∀ (j i : Nat), rs[j]? = some i → i < ω.n) (e : Ext (ω.sub rs) ω') (r' : Rel K ω' h') : ∀ (n : Nat) (d d' : D) (v : V), frzD rs h' n d = some d' → RelD K ω' d v → RelD K (ω.back ω') d' v := by
  have hA : ∀ p, (ω.back ω').A p → ω'.A p := fun p z => e.a p z
  have one : ∀ d v, flat d = true → RelD K ω' d v → RelD K (ω.back ω') d v := (flat_rel (ω1 := ω') (ω2 := ω.back ω') rfl hA).1
  have lst : ∀ (f : D → Option D), (∀ d d' v, f d = some d' → RelD K ω' d v → RelD K (ω.back ω') d' v) → ∀ ds ds' vs, frzD.frzL f ds = some ds' → RelL K ω' ds vs → RelL K (ω.back ω') ds' vs := fun f hf ds => by
    induction ds with
    | nil => intro ds' vs q x; simp [frzD.frzL] at q; subst q; rw [x.inv0]; exact RelL.nil
    | cons d ds ih =>
      intro ds' vs q x
      obtain ⟨v, ws, rfl, e2, e3⟩ := x.inv
      unfold frzD.frzL at q
      cases q1 : f d with
      | none => simp [q1] at q
      | some e =>
        cases q2 : frzD.frzL f ds with
        | none => simp [q1, q2] at q
        | some es' => simp [q1, q2] at q; subst q; exact RelL.cons (hf _ _ _ q1 e2) (ih _ _ q2 e3)
  intro n
  induction n with
  | zero =>
    intro d d' v q x
    unfold frzD at q
    by_cases hf : flat d = true
    · rw [if_pos hf] at q; cases q; exact one _ _ hf x
    · rw [if_neg hf] at q; cases q
  | succ n ih =>
    intro d d' v q x
    unfold frzD at q
    by_cases hf : flat d = true
    · rw [if_pos hf] at q; cases q; exact one _ _ hf x
    · rw [if_neg hf] at q
      cases d with
      | ref i =>
        simp only at q
        unfold RelD at x
        obtain ⟨hi, rfl⟩ := x
        by_cases hr : i < rs.length
        · rw [if_pos hr] at q
          have e1 := List.getElem?_eq_getElem hr
          rw [e1] at q
          simp at q; subst q
          unfold RelD
          refine ⟨hl _ _ e1, ?_⟩
          have z := e.b i hr
          rw [z, sub_at e1]; rfl
        · rw [if_neg hr] at q
          have nA : ¬ (ω.back ω').A (ω'.β i) := fun z => r.sub _ z (e.nw i (Nat.not_lt.mp hr) hi)
          cases q1 : h'[i]? with
          | none => simp [q1] at q
          | some c =>
            have rc := r'.cel i c q1
            cases c with
            | lst ds =>
              simp only [q1] at q
              cases q2 : frzD.frzL (frzD rs h' n) ds with
              | none => simp [q2] at q
              | some ds' =>
                simp [q2] at q; subst q
                obtain ⟨vs, e1, e2⟩ := rc
                unfold RelD
                exact ⟨_, vs, rfl, ⟨e1, nA⟩, lst _ ih _ _ _ q2 e2⟩
            | dct ks ds =>
              simp only [q1] at q
              cases q2 : frzD.frzL (frzD rs h' n) ds with
              | none => simp [q2] at q
              | some ds' =>
                simp [q2] at q; subst q
                obtain ⟨vs, e1, e3, e2⟩ := rc
                unfold RelD
                exact ⟨_, vs, rfl, ⟨e1, nA⟩, e3, lst _ ih _ _ _ q2 e2⟩
      | tup ds =>
        simp only at q
        cases q2 : frzD.frzL (frzD rs h' n) ds with
        | none => simp [q2] at q
        | some ds' =>
          simp [q2] at q; subst q
          unfold RelD at x ⊢
          obtain ⟨p, vs, e1, e2, e3⟩ := x
          exact ⟨p, vs, e1, e2, lst _ ih _ _ _ q2 e3⟩
      | _ => simp at q
theorem wb_get : ∀ {rs : List Nat} {cs : Hc} {h : Hc} {i : Nat} {c : C}, rs.Nodup → rs.length ≤ cs.length → (wb h rs cs)[i]? = some c → (∃ j : Nat, rs[j]? = some i ∧ cs[j]? = some c) ∨ (h[i]? = some c ∧ i ∉ rs)
  | [], cs, h, i, c, _, _, e => by
    have : wb h [] cs = h := by cases cs <;> rfl
    rw [this] at e
    exact .inr ⟨e, by simp⟩
  | r :: rs, [], h, i, c, _, hl, _ => by simp at hl
  | r :: rs, c0 :: cs, h, i, c, nd, hl, e => by
    have nd' := List.nodup_cons.mp nd
    rcases wb_get (h := h.set r c0) nd'.2 (by simpa using hl) e with ⟨j, a, b⟩ | ⟨a, b⟩
    · exact .inl ⟨j + 1, by simpa using a, by simpa using b⟩
    · by_cases hi : r = i
      · subst hi
        have hr : r < h.length := by
          have := (List.getElem?_eq_some_iff.mp a).1
          rw [List.length_set] at this; exact this
        rw [List.getElem?_set_self hr] at a
        exact .inl ⟨0, rfl, by simpa using a⟩
      · rw [List.getElem?_set_ne hi] at a
        refine .inr ⟨a, ?_⟩
        simp only [List.mem_cons, not_or]
        exact ⟨fun z => hi z.symm, b⟩
theorem wb_len : ∀ {rs : List Nat} {cs h : Hc}, (wb h rs cs).length = h.length
  | [], cs, h => by cases cs <;> rfl
  | r :: rs, [], h => rfl
  | r :: rs, c :: cs, h => by
    show (wb (h.set r c) rs cs).length = h.length
    rw [wb_len, List.length_set]
theorem Rel.back {rs : List Nat} {hc : List C} (r : Rel K ω h) (nd : rs.Nodup) (q : cellsAt h rs = some hc) (e : Ext (ω.sub rs) ω') (r' : Rel K ω' h') (hf : (h'.take rs.length).all flatC = true) : Rel K (ω.back ω') (wb h rs h') := by
  have hl : ∀ (j i : Nat), rs[j]? = some i → i < ω.n := fun j i z => rs_lt r q z
  have eb := Ext.back hl e
  have ln : rs.length ≤ h'.length := by
    have := e.n
    rw [r'.n] at this; exact this
  refine ⟨by rw [wb_len]; exact r.n, r.inj, r.inA, fun p hp z => r.sub p hp (e.dom p z), fun i c hi => ?_, r'.tabs⟩
  show RelC K (ω.back ω') (ω.β i) c
  rcases wb_get nd ln hi with ⟨j, a, b⟩ | ⟨a, b⟩
  · have hj : j < rs.length := (List.getElem?_eq_some_iff.mp a).1
    have x := r'.cel j c b
    rw [e.b j hj, sub_at a] at x
    have fc : flatC c = true := List.all_eq_true.mp hf c (List.mem_of_getElem? (i := j) (by rw [List.getElem?_take_of_lt hj]; exact b))
    exact flat_relC (ω1 := ω') rfl (fun p z => e.a p z) fc x
  · have hi' : i < ω.n := by rw [r.n]; exact (List.getElem?_eq_some_iff.mp a).1
    have x := r.cel i c a
    obtain ⟨o, ho, hm⟩ := r.mut hi'
    have st : ω'.H (ω.β i) = ω.H (ω.β i) := by
      rw [ho]
      refine e.keep _ _ ho (fun ps z => by rcases hm with ⟨_, q⟩ | ⟨_, q⟩ <;> (rw [q] at z; cases z)) fun j hj z => ?_
      have hj' : j < rs.length := hj
      have e1 := List.getElem?_eq_getElem hj'
      rw [sub_at e1] at z
      have := r.inj _ _ (hl _ _ e1) hi' z
      exact b (List.mem_of_getElem? (this ▸ e1))
    cases c with
    | lst ys => obtain ⟨vs', e1, e2⟩ := x; exact ⟨vs', st.trans e1, monoL r eb _ _ e2⟩
    | dct ks ys => obtain ⟨vs', e1, e3, e2⟩ := x; exact ⟨vs', st.trans e1, e3, monoL r eb _ _ e2⟩
end
section
variable {X : Cx} {W : WX} {es : List Expr} {as : SA} {m : Fn} {σ : L2.St} {np : Nat}
theorem callL_sp {K : PySem.W.Frag} {mg : Str → Option Value} {ω : Wo} {h : Hc} {xs : List D} {vs : List V} {Q : VK} (hn : vs.length = np) (r : Rel K ω h) (d : RelL K ω xs vs) (p : Post K mg W σ ω (RelD K) Q (callL m xs h)) : spD K mg np m vs ω.H Q (WE W σ) := by
  unfold callL at p
  cases q1 : renL (refsOf xs) xs with
  | none => rw [q1] at p; exact False.elim p
  | some xs' =>
    cases q2 : cellsAt h (refsOf xs) with
    | none => rw [q1, q2] at p; exact False.elim p
    | some hc =>
      rw [q1, q2] at p
      simp only at p
      obtain ⟨hf, p⟩ := p.if_
      have nd := refsOf_nodup xs
      have hl : ∀ (j i : Nat), (refsOf xs)[j]? = some i → i < ω.n := fun j i z => rs_lt r q2 z
      refine ⟨hn, ω.sub (refsOf xs), hc, xs', rfl, r.sub_ nd q2 hf, renL_rel q1 d, ?_⟩
      cases q3 : m xs' hc with
      | bad => rw [q3] at p; exact False.elim p
      | ex x fs ds h' =>
        rw [q3] at p
        simp only at p
        by_cases hh : (h'.take (refsOf xs).length).all flatC = true ∧ flatL ds = true
        · rw [if_pos hh] at p
          intro c dx ω' e r' rx
          refine p c dx (ω.back ω') (Ext.back hl e) (r.back nd q2 e r' hh.1) ?_
          obtain ⟨C, dd, vs', a1, a2, a3, a4, a5, a6⟩ := rx
          exact ⟨C, dd, vs', a1, a2, a3, a4, a5, (flat_rel (ω1 := ω') (ω2 := ω.back ω') rfl fun p z => e.a p z).2 _ _ hh.2 a6⟩
        · rw [if_neg hh] at p; exact False.elim p
      | ok dd h' =>
        rw [q3] at p
        simp only at p
        cases q4 : frzD (refsOf xs) h' 8 dd with
        | none => rw [q4] at p; exact False.elim p
        | some d' =>
          rw [q4] at p
          simp only at p
          obtain ⟨hh, p⟩ := p.if_
          intro v ω' e r' rv
          exact p v (ω.back ω') (Ext.back hl e) (r.back nd q2 e r' hh) (frz_rel r hl e r' 8 dd d' v q4 rv)
variable {k : Nat} {f : Addr} {fd : FuncData} {ps : List Str} {x : Str} {p pos : Pos} {e : Expr}
/-- f(..) -/
theorem de_call (tk : Takes X W) (F : FnOk X.prog X.w X.K X.mg X.base (L2.CX X.prog X.w) k f fd ps (spD X.K X.mg np m)) (hr : Room k X.A) (hg : Gl X x) (hm : X.mg x = some (.ref f)) (hk : PySem.W.keepIn X.K (.ref f) = true) (hb : Binds X.K fd ps [])
    (hn : (e :: es).length = np) (hl : ∀ ds h xs h', as ds h = .ok xs h' → xs.length = (e :: es).length) (ha : DA X W (e :: es) as) (hdb : (x == ("__debug__" : Str)) = false := by decide) (he : starEach (e :: es) X.env = (false, eval e X.env) :: starEach es X.env := by rfl) (hpl : (backTo pos (starEach es X.env)).any (·.1) = false := by rfl) :
    DE X W (.Call (.Name x p) (e :: es) [] pos) (eCall m as) := de_of (pe_callS F hr hg hm hk hb (fun σ => passAt tk σ) ha hdb he hpl) fun σ H Q ⟨ω, h, ds, e1, r, s, p⟩ => by
  subst e1
  refine ⟨ω, h, ds, rfl, r, s, ?_⟩
  cases q : as ds h with
  | ok xs h1 =>
    unfold eCall at p
    rw [q] at p
    have p' : Post X.K X.mg W σ ω (RelD X.K) Q (callL m xs h1) := p
    intro vs ω' e' r' rl
    exact callL_sp (by rw [← rl.len, hl _ _ _ _ q]; exact hn) r' rl (Post.mono p' e')
  | ex x' fs ds' h1 =>
    unfold eCall at p
    rw [q] at p; exact p
  | bad =>
    unfold eCall at p
    rw [q] at p; exact p
end
/-- how many arguments come -/
theorem aNil_len (ds : Sl) (h : Hc) (xs : List D) (h' : Hc) (e : aNil ds h = .ok xs h') : xs.length = 0 := by
  unfold aNil at e; cases e; rfl
theorem aCons_len {m : SE} {as : SA} {n : Nat} (ih : ∀ ds h xs h', as ds h = .ok xs h' → xs.length = n) (ds : Sl) (h : Hc) (xs : List D) (h' : Hc) (e : aCons m as ds h = .ok xs h') : xs.length = n + 1 := by
  unfold aCons at e
  cases q : m ds h with
  | ok x h1 =>
    rw [q] at e
    simp only [R.bd_ok] at e
    cases q2 : as ds h1 with
    | ok ys h2 =>
      rw [q2] at e
      simp only [R.bd_ok] at e
      cases e
      rw [List.length_cons, ih _ _ _ _ q2]
    | ex _ _ _ _ => rw [q2] at e; cases e
    | bad => rw [q2] at e; cases e
  | ex _ _ _ _ => rw [q] at e; cases e
  | bad => rw [q] at e; cases e
end Mp
/-! LayE: operators, subscripts, built-ins, what is walked: by data. -/
namespace Mp
open PySem PySem.Spec PyProof.Rows L2
section
variable {X : Cx} {K : PySem.W.Frag} {mg : Str → Option Value} {ω ω' : Wo} {h h' : Hc} {d : D} {v : V}
/-! ### what data stands for what -/
theorem rd_int {i : Int} (r : RelD K ω (.int i) v) : v = .int i := by unfold RelD at r; exact r
theorem rd_bl {i : Bool} (r : RelD K ω (.bl i) v) : v = .bl i := by unfold RelD at r; exact r
theorem rd_str {i : Str} (r : RelD K ω (.str i) v) : v = .str i := by unfold RelD at r; exact r
theorem rd_non (r : RelD K ω .non v) : v = .non := by unfold RelD at r; exact r
theorem rd_ty {n : String} (r : RelD K ω (.ty n) v) : v = .ty n := by unfold RelD at r; exact r
theorem int_rd {i : Int} : RelD K ω (.int i) (.int i) := by unfold RelD; rfl
theorem bl_rd {i : Bool} : RelD K ω (.bl i) (.bl i) := by unfold RelD; rfl
theorem str_rd {i : Str} : RelD K ω (.str i) (.str i) := by unfold RelD; rfl
theorem non_rd : RelD K ω .non .non := by unfold RelD; rfl
theorem ty_rd {n : String} : RelD K ω (.ty n) (.ty n) := by unfold RelD; rfl
theorem Post.here {W : WX} {σ : L2.St} {Q : VK} {d : D} (p : Post K mg W σ ω (RelD K) Q (.ok d h)) (r : Rel K ω h) (x : RelD K ω d v) : Q v ω.H := p v ω (Ext.refl _) r x
theorem rd_lst {xs : List D} (r : RelD K ω (.lst xs) v) : ∃ p vs, v = .ref p ∧ ω.H p = some (.lst vs) ∧ RelL K ω xs vs := by
  unfold RelD at r
  obtain ⟨p, vs, e1, e2, e3⟩ := r
  exact ⟨p, vs, e1, e2.1, e3⟩
theorem rd_tup {xs : List D} (r : RelD K ω (.tup xs) v) : ∃ p vs, v = .ref p ∧ SqT K ω.H p vs ∧ RelL K ω xs vs := by unfold RelD at r; exact r
theorem rd_scr {xs : List D} (r : RelD K ω (.scr xs) v) : ∃ p vs, v = .ref p ∧ SqL K ω.H p vs ∧ RelL K ω xs vs := by
  unfold RelD at r
  obtain ⟨p, vs, e1, e2, e3⟩ := r
  exact ⟨p, vs, e1, e2.sq, e3⟩
theorem rd_cel {xs : List D} {i : Nat} (rr : Rel K ω h) (r : RelD K ω (.ref i) v) (e : h[i]? = some (.lst xs)) : ∃ vs, i < ω.n ∧ v = .ref (ω.β i) ∧ ω.H (ω.β i) = some (.lst vs) ∧ RelL K ω xs vs := by
  unfold RelD at r
  obtain ⟨vs, e2, e3⟩ := rr.cel i _ e
  exact ⟨vs, r.1, r.2, e2, e3⟩
/-- the items of a list that is tracked as such -/
def lstD (h : Hc) : D → Option (List D)
  | .lst xs => some xs
  | .ref i => match h[i]? with
    | some (.lst xs) => some xs
    | _ => none
  | _ => none
theorem lstD_rel {xs : List D} (r : Rel K ω h) (e : lstD h d = some xs) (x : RelD K ω d v) : ∃ p vs, v = .ref p ∧ ω.H p = some (.lst vs) ∧ RelL K ω xs vs := by
  cases d <;> simp [lstD] at e
  · subst e; exact rd_lst x
  · rename_i i
    cases q : h[i]? with
    | none => simp [q] at e
    | some c =>
      cases c with
      | lst ys => simp [q] at e; subst e; obtain ⟨vs, _, e1, e2, e3⟩ := rd_cel r x q; exact ⟨_, vs, e1, e2, e3⟩
      | dct ks ys => simp [q] at e
/-- the items of a list that is read -/
def rdlD (h : Hc) : D → Option (List D)
  | .scr xs => some xs
  | d => lstD h d
theorem rdlD_rel {xs : List D} (r : Rel K ω h) (e : rdlD h d = some xs) (x : RelD K ω d v) : ∃ p vs, v = .ref p ∧ SqL K ω.H p vs ∧ RelL K ω xs vs := by
  by_cases hs : ∃ ys, d = .scr ys
  · obtain ⟨ys, rfl⟩ := hs
    simp [rdlD] at e; subst e
    exact rd_scr x
  · have e' : lstD h d = some xs := by
      cases d <;> first | exact e | exact absurd ⟨_, rfl⟩ hs
    obtain ⟨p, vs, e1, e2, e3⟩ := lstD_rel r e' x
    exact ⟨p, vs, e1, .inl (.inl e2), e3⟩
/-! ### ints -/
def iF (c : Int → Int → Bool) (g : Int → Int → D) : D → D → Hc → R D
  | .int i, .int j, h => if c i j = true then .ok (g i j) h else .bad
  | _, _, _ => .bad
theorem opd_i {C : Int → Int → Prop} {c : Int → Int → Bool} {g : Int → Int → D} {gV : Int → Int → V} (hc : ∀ i j, c i j = true → C i j) (hg : ∀ i j (ω : Wo), RelD X.K ω (g i j) (gV i j)) : OpD X (rI C gV) (iF c g) := fun W σ ω h x y v u Q r rx ry p => by
  cases x <;> cases y <;> try exact False.elim p
  rename_i i j
  obtain ⟨hcc, p⟩ := p.if_
  exact ⟨i, j, rd_int rx, rd_int ry, hc i j hcc, p.here r (hg i j ω)⟩
def i0F (g : Int → Int → D) : D → D → Hc → R D
  | .int i, .int j, h => .ok (g i j) h
  | _, _, _ => .bad
@[simp] theorem i0F_int (g : Int → Int → D) (i j : Int) (h : Hc) : i0F g (.int i) (.int j) h = .ok (g i j) h := Eq.trans rfl rfl
@[simp] theorem iF_int (c : Int → Int → Bool) (g : Int → Int → D) (i j : Int) (h : Hc) : iF c g (.int i) (.int j) h = if c i j = true then .ok (g i j) h else .bad := Eq.trans rfl rfl
theorem opd_i0 {g : Int → Int → D} {gV : Int → Int → V} (hg : ∀ i j (ω : Wo), RelD X.K ω (g i j) (gV i j)) : OpD X (rI0 gV) (i0F g) := fun W σ ω h x y v u Q r rx ry p => by
  cases x <;> cases y <;> try exact False.elim p
  exact ⟨_, _, rd_int rx, rd_int ry, p.here r (hg _ _ ω)⟩
/-! ### sums: ints, texts, lists, tuples -/
def addF (x y : D) (h : Hc) : R D := match x, y with
  | .int i, .int j => .ok (.int (i + j)) h
  | .str a, .str b => if a.length + b.length ≤ lim then .ok (.str (a ++ b)) h else .bad
  | .tup xs, .tup ys => if xs.length + ys.length ≤ lim then .ok (.tup (xs ++ ys)) h else .bad
  | x, y => match lstD h x, lstD h y with
    | some xs, some ys => if xs.length + ys.length ≤ lim then .ok (.lst (xs ++ ys)) h else .bad
    | _, _ => .bad
@[simp] theorem addF_int (i j : Int) (h : Hc) : addF (.int i) (.int j) h = .ok (.int (i + j)) h := Eq.trans rfl rfl
@[simp] theorem addF_str (a b : Str) (h : Hc) : addF (.str a) (.str b) h = if a.length + b.length ≤ lim then .ok (.str (a ++ b)) h else .bad := Eq.trans rfl rfl
def rAddA (K : PySem.W.Frag) : R2 := fun x y H Q => (rI0 fun i j => .int (i + j)) x y H Q ∨ (∃ i j, x = .str i ∧ y = .str j ∧ i.length + j.length ≤ sizeLine ∧ Q (.str (i ++ j)) H) ∨ rCat x y H Q ∨ rCatA K x y H Q
theorem op_addA : OpR X (binaryOp .Add) (rAddA X.K) := op_add.or (op_add_str.or (op_cat.or op_catA))
theorem opd_add : OpD X (rAddA X.K) addF := fun W σ ω h x y v u Q r rx ry p => by
  unfold addF at p
  split at p
  · exact .inl ⟨_, _, rd_int rx, rd_int ry, p.here r int_rd⟩
  · obtain ⟨hl, p⟩ := p.if_
    exact .inr (.inl ⟨_, _, rd_str rx, rd_str ry, lim_le hl, p.here r str_rd⟩)
  · rename_i xs ys
    obtain ⟨hl, p⟩ := p.if_
    obtain ⟨a, vs, e1, e2, e3⟩ := rd_tup rx
    obtain ⟨b, ws, e4, e5, e6⟩ := rd_tup ry
    subst e1; subst e4
    refine .inr (.inr (.inr ⟨a, b, vs, ws, rfl, rfl, e2, e5, by rw [← e3.len, ← e6.len]; exact lim_le hl, fun z => ?_, fun z1 z2 => ?_, fun _ _ q hq => ?_⟩))
    · subst z
      have : xs = [] := List.eq_nil_of_length_eq_zero e3.len
      subst this
      exact p.here r ry
    · subst z2
      have : ys = [] := List.eq_nil_of_length_eq_zero e6.len
      subst this
      rw [List.append_nil] at p
      exact p.here r rx
    · refine p (.ref q) (ω.up q _) (Ext.up hq) (r.up hq) ?_
      unfold RelD
      exact ⟨q, _, rfl, .inl (.inl upd_same), monoL r (Ext.up hq) _ _ (e3.append e6)⟩
  · split at p
    · rename_i xs ys q1 q2
      obtain ⟨hl, p⟩ := p.if_
      obtain ⟨a, vs, e1, e2, e3⟩ := lstD_rel r q1 rx
      obtain ⟨b, ws, e4, e5, e6⟩ := lstD_rel r q2 ry
      exact .inr (.inr (.inl ⟨a, b, vs, ws, e1, e4, e2, e5, by rw [← e3.len, ← e6.len]; exact lim_le hl, fun q hq => p (.ref q) (ω.up q _) (Ext.up hq) (r.up hq) (fz_new r hq (e3.append e6))⟩))
    · exact False.elim p
abbrev subF := i0F fun i j => .int (i - j)
theorem opd_sub : OpD X (rI0 fun i j => .int (i - j)) subF := opd_i0 fun _ _ _ => int_rd
def mulOk (i j : Int) : Bool := decide (-(2 ^ 64) < i ∧ i < 2 ^ 64) || decide (-(2 ^ 64) < j ∧ j < 2 ^ 64) || decide (i.natAbs.log2 + j.natAbs.log2 < 1000000)
/-- n copies of a list's items -/
def repD (n : Nat) (xs : List D) : List D := (List.replicate n xs).flatten
def mulF (x y : D) (h : Hc) : R D := match x, y with
  | .int i, .int j => if mulOk i j = true then .ok (.int (i * j)) h else .bad
  | x, .int k => match lstD h x with
    | some xs => if k ≤ lim ∧ -lim ≤ k ∧ xs.length * k.toNat ≤ lim then .ok (.lst (repD k.toNat xs)) h else .bad
    | none => .bad
  | _, _ => .bad
@[simp] theorem mulF_int (i j : Int) (h : Hc) : mulF (.int i) (.int j) h = if mulOk i j = true then .ok (.int (i * j)) h else .bad := Eq.trans rfl rfl
def rMulA : R2 := fun x y H Q => (rI CMul fun i j => .int (i * j)) x y H Q ∨ (rI CMulW fun i j => .int (i * j)) x y H Q ∨ rRep x y H Q
theorem op_mulA : OpR X (binaryOp .Mult) rMulA := op_mul.or (op_mulW.or op_rep)
theorem RelL.rep {xs : List D} {vs : List V} (x : RelL K ω xs vs) : ∀ n : Nat, RelL K ω (repD n xs) (List.replicate n vs).flatten
  | 0 => by simpa [repD] using RelL.nil
  | n + 1 => by
    have ih := RelL.rep x n
    unfold repD at ih ⊢
    rw [List.replicate_succ, List.replicate_succ, List.flatten_cons, List.flatten_cons]
    exact x.append ih
theorem opd_mul : OpD X rMulA mulF := fun W σ ω h x y v u Q r rx ry p => by
  unfold mulF at p
  split at p
  · rename_i i j
    obtain ⟨hl, p⟩ := p.if_
    unfold mulOk at hl
    simp only [Bool.or_eq_true, decide_eq_true_eq] at hl
    rcases hl with (hl | hl) | hl
    · exact .inl ⟨_, _, rd_int rx, rd_int ry, .inl hl, p.here r int_rd⟩
    · exact .inl ⟨_, _, rd_int rx, rd_int ry, .inr hl, p.here r int_rd⟩
    · exact .inr (.inl ⟨_, _, rd_int rx, rd_int ry, hl, p.here r int_rd⟩)
  · split at p
    · rename_i k _ _ xs q1
      obtain ⟨⟨h1, h2, h3⟩, p⟩ := p.if_
      obtain ⟨a, vs, e1, e2, e3⟩ := lstD_rel r q1 rx
      have l1 : (lim : Int) = 1000000 := rfl
      exact .inr (.inr ⟨a, k, vs, e1, rd_int ry, e2, by omega, by omega, by rw [← e3.len]; exact lim_le h3, fun q hq => p (.ref q) (ω.up q _) (Ext.up hq) (r.up hq) (fz_new r hq (e3.rep _))⟩)
    · exact False.elim p
  · exact False.elim p
def divOk (j : Int) : Bool := decide (j ≠ 0) && decide (j.natAbs.log2 < 9000)
abbrev fdivF := iF (fun _ j => divOk j) fun i j => .int (i.fdiv j)
theorem op_fdivA : OpR X (binaryOp .FloorDiv) (rI (fun _ j => divOk j = true) fun i j => .int (i.fdiv j)) := opI fun i j _ _ _ _ _ hc q => by
  unfold divOk at hc
  simp only [Bool.and_eq_true, decide_eq_true_eq] at hc
  exact floordiv_int hc.1 q (.inl (PyProof.noPylong_of_log2 hc.2))
theorem opd_fdiv : OpD X (rI (fun _ j => divOk j = true) fun i j => .int (i.fdiv j)) fdivF := opd_i (fun _ _ h => h) fun _ _ _ => int_rd
abbrev modF := iF (fun _ j => decide (0 < j)) fun i j => .int (i % j)
theorem opd_mod : OpD X (rI (fun _ j => 0 < j) fun i j => .int (i % j)) modF := opd_i (fun _ _ h => of_decide_eq_true h) fun _ _ _ => int_rd
abbrev powF := iF (fun i j => decide (0 ≤ j) && decide (j ≤ 1000000) && decide (i.natAbs < 2 ^ 64)) fun i j => .int (i ^ j.toNat)
theorem opd_pow : OpD X (rI CPow fun i j => .int (i ^ j.toNat)) powF := opd_i (fun _ _ h => by simp only [Bool.and_eq_true, decide_eq_true_eq] at h; exact ⟨h.1.1, h.1.2, h.2⟩) fun _ _ _ => int_rd
abbrev shlF := iF (fun i j => decide (0 ≤ j) && decide (j ≤ 1000000) && decide (i.natAbs < 2 ^ 64)) fun i j => .int (i * 2 ^ j.toNat)
abbrev shrF := iF (fun _ j => decide (0 ≤ j)) fun i j => .int (i / 2 ^ j.toNat)
abbrev bandF := i0F fun i j => .int (Builtin.bitAnd i j)
abbrev borF := i0F fun i j => .int (Builtin.bitOr i j)
abbrev bxorF := i0F fun i j => .int (Builtin.bitXor i j)
def negF : D → Hc → R D
  | .int i, h => .ok (.int (-i)) h
  | _, _ => .bad
/-! ### order -/
def ordF (g : Int → Int → Bool) (gs : List Nat → List Nat → Bool) : D → D → Hc → R D
  | .int i, .int j, h => .ok (.bl (g i j)) h
  | .str a, .str b, h => .ok (.bl (gs a.cps.toList b.cps.toList)) h
  | _, _, _ => .bad
@[simp] theorem ordF_int (g : Int → Int → Bool) (gs : List Nat → List Nat → Bool) (i j : Int) (h : Hc) : ordF g gs (.int i) (.int j) h = .ok (.bl (g i j)) h := Eq.trans rfl rfl
def rOrd (g : Int → Int → Bool) (gs : List Nat → List Nat → Bool) : R2 := fun x y H Q => (rI0 fun i j => .bl (g i j)) x y H Q ∨ ∃ i j, x = .str i ∧ y = .str j ∧ Q (.bl (gs i.cps.toList j.cps.toList)) H
theorem opd_ord {g : Int → Int → Bool} {gs : List Nat → List Nat → Bool} : OpD X (rOrd g gs) (ordF g gs) := fun W σ ω h x y v u Q r rx ry p => by
  cases x <;> cases y <;> try exact False.elim p
  · exact .inl ⟨_, _, rd_int rx, rd_int ry, p.here r bl_rd⟩
  · exact .inr ⟨_, _, rd_str rx, rd_str ry, p.here r bl_rd⟩
abbrev ltF := ordF (fun i j => decide (i < j)) (fun a b => decide (a < b))
abbrev leF := ordF (fun i j => decide (i ≤ j)) (fun a b => !decide (b < a))
abbrev gtF := ordF (fun i j => decide (j < i)) (fun a b => decide (b < a))
abbrev geF := ordF (fun i j => decide (j ≤ i)) (fun a b => !decide (a < b))
theorem op_ltA : OpR X (compareOp .Lt) (rOrd (fun i j => decide (i < j)) (fun a b => decide (a < b))) := op_lt.or op_lt_str
theorem op_leA : OpR X (compareOp .LtE) (rOrd (fun i j => decide (i ≤ j)) (fun a b => !decide (b < a))) := op_le.or op_le_str
theorem op_gtA : OpR X (compareOp .Gt) (rOrd (fun i j => decide (j < i)) (fun a b => decide (b < a))) := op_gt.or op_gt_str
theorem op_geA : OpR X (compareOp .GtE) (rOrd (fun i j => decide (j ≤ i)) (fun a b => !decide (a < b))) := op_ge.or op_ge_str
/-! ### is None -/
def isN : D → Bool
  | .non => true
  | _ => false
theorem isN_rel (r : RelD K ω d v) : decide (v = .non) = isN d := by
  cases d with
  | non => rw [rd_non r]; rfl
  | bl b => rw [rd_bl r]; rfl
  | int b => rw [rd_int r]; rfl
  | str b => rw [rd_str r]; rfl
  | ty b => rw [rd_ty r]; rfl
  | tup b => obtain ⟨p, vs, rfl, _⟩ := rd_tup r; rfl
  | lst b => obtain ⟨p, vs, rfl, _⟩ := rd_lst r; rfl
  | scr b => obtain ⟨p, vs, rfl, _⟩ := rd_scr r; rfl
  | dct ks b => unfold RelD at r; obtain ⟨p, vs, rfl, _⟩ := r; rfl
  | ref i => unfold RelD at r; rw [r.2]; rfl
def isnF (x y : D) (h : Hc) : R D := match y with
  | .non => .ok (.bl (isN x)) h
  | _ => .bad
def notnF (x y : D) (h : Hc) : R D := match y with
  | .non => .ok (.bl (!isN x)) h
  | _ => .bad
@[simp] theorem isnF_non (x : D) (h : Hc) : isnF x .non h = .ok (.bl (isN x)) h := Eq.trans rfl rfl
@[simp] theorem notnF_non (x : D) (h : Hc) : notnF x .non h = .ok (.bl (!isN x)) h := Eq.trans rfl rfl
theorem opd_isn : OpD X (fun x y H Q => y = .non ∧ Q (.bl (decide (x = .non))) H) isnF := fun W σ ω h x y v u Q r rx ry p => by
  cases y <;> try exact False.elim p
  exact ⟨rd_non ry, by rw [isN_rel rx]; exact p.here r bl_rd⟩
theorem opd_notn : OpD X (fun x y H Q => y = .non ∧ Q (.bl (!decide (x = .non))) H) notnF := fun W σ ω h x y v u Q r rx ry p => by
  cases y <;> try exact False.elim p
  exact ⟨rd_non ry, by rw [isN_rel rx]; exact p.here r bl_rd⟩
/-! ### == -/
mutual
def toPy : D → Option PyData
  | .non => some .none
  | .bl b => some (.bool b)
  | .int i => some (.int i)
  | .str x => some (.str x)
  | .tup xs => (toPyL xs).map .tuple
  | .lst xs => (toPyL xs).map .list
  | .scr xs => (toPyL xs).map .list
  | _ => none
def toPyL : List D → Option (List PyData)
  | [] => some []
  | d :: ds => match toPy d, toPyL ds with
    | some e, some es => some (e :: es)
    | _, _ => none
end
def toPyR (h : Hc) : D → Option PyData
  | .ref i => match h[i]? with
    | some (.lst xs) => (toPyL xs).map .list
    | _ => none
  | d => toPy d
theorem toPy_rel : (∀ d v e, toPy d = some e → RelD K ω d v → Dp K ω.H v e) ∧ ∀ ds vs es, toPyL ds = some es → RelL K ω ds vs → DpAll K ω.H vs es := by
  have cons : ∀ d ds, (∀ v e, toPy d = some e → RelD K ω d v → Dp K ω.H v e) → (∀ vs es, toPyL ds = some es → RelL K ω ds vs → DpAll K ω.H vs es) → ∀ vs es, toPyL (d :: ds) = some es → RelL K ω (d :: ds) vs → DpAll K ω.H vs es := by
    intro d ds ih1 ih2 vs es q x
    obtain ⟨v, ws, rfl, e2, e3⟩ := x.inv
    unfold toPyL at q
    cases q1 : toPy d with
    | none => simp [q1] at q
    | some e =>
      cases q2 : toPyL ds with
      | none => simp [q1, q2] at q
      | some es' => simp [q1, q2] at q; subst q; exact .cons (ih1 _ _ q1 e2) (ih2 _ _ q2 e3)
  have nil : ∀ vs es, toPyL [] = some es → RelL K ω [] vs → DpAll K ω.H vs es := by
    intro vs es q x
    simp [toPyL] at q; subst q
    rw [x.inv0]; exact .nil
  have aux := @D.rec (motive_1 := fun d => ∀ v e, toPy d = some e → RelD K ω d v → Dp K ω.H v e) (motive_2 := fun ds => ∀ vs es, toPyL ds = some es → RelL K ω ds vs → DpAll K ω.H vs es)
    (fun v e q x => by simp [toPy] at q; subst q; rw [rd_non x]; exact .non) (fun b v e q x => by simp [toPy] at q; subst q; rw [rd_bl x]; exact .bl b) (fun b v e q x => by simp [toPy] at q; subst q; rw [rd_int x]; exact .int b) (fun b v e q x => by simp [toPy] at q; subst q; rw [rd_str x]; exact .str b)
    (fun ds ih v e q x => by
      simp only [toPy, Option.map_eq_some_iff] at q
      obtain ⟨es, q1, rfl⟩ := q
      obtain ⟨p, vs, rfl, e2, e3⟩ := rd_tup x
      exact .tup e2 (ih _ _ q1 e3))
    (fun ds ih v e q x => by
      simp only [toPy, Option.map_eq_some_iff] at q
      obtain ⟨es, q1, rfl⟩ := q
      obtain ⟨p, vs, rfl, e2, e3⟩ := rd_lst x
      exact .lst (.inl (.inl e2)) (ih _ _ q1 e3))
    (fun ds ih v e q x => by
      simp only [toPy, Option.map_eq_some_iff] at q
      obtain ⟨es, q1, rfl⟩ := q
      obtain ⟨p, vs, rfl, e2, e3⟩ := rd_scr x
      exact .lst e2 (ih _ _ q1 e3))
    (fun ks ds ih v e q x => by simp [toPy] at q) (fun i v e q x => by simp [toPy] at q) (fun t v e q x => by simp [toPy] at q) nil (fun d ds ih1 ih2 => cons d ds ih1 ih2)
  refine ⟨aux, fun ds => ?_⟩
  induction ds with
  | nil => exact nil
  | cons d ds ih => exact cons d ds (aux d) ih
theorem toPyR_rel {e : PyData} (r : Rel K ω h) (q : toPyR h d = some e) (x : RelD K ω d v) : Dp K ω.H v e := by
  by_cases hs : ∃ i, d = .ref i
  · obtain ⟨i, rfl⟩ := hs
    unfold toPyR at q
    cases q1 : h[i]? with
    | none => simp [q1] at q
    | some c =>
      cases c with
      | dct ks ys => simp [q1] at q
      | lst xs =>
        simp only [q1, Option.map_eq_some_iff] at q
        obtain ⟨es, q2, rfl⟩ := q
        obtain ⟨vs, _, rfl, e2, e3⟩ := rd_cel r x q1
        exact .lst (.inl (.inl e2)) (toPy_rel.2 _ _ _ q2 e3)
  · have q' : toPy d = some e := by cases d <;> first | exact q | exact absurd ⟨_, rfl⟩ hs
    exact toPy_rel.1 _ _ _ q' x
def eqG (neg : Bool) (x y : D) (h : Hc) : R D := match x, y with
  | .int i, .int j => .ok (.bl (if neg then !decide (i = j) else decide (i = j))) h
  | .str i, .str j => .ok (.bl (if neg then !decide (i = j) else decide (i = j))) h
  | .bl i, .bl j => .ok (.bl (if neg then !decide (i = j) else decide (i = j))) h
  | .non, .non => .ok (.bl (!neg)) h
  | .non, .int _ => .ok (.bl neg) h
  | .int _, .non => .ok (.bl neg) h
  | .non, .str _ => .ok (.bl neg) h
  | .str _, .non => .ok (.bl neg) h
  | .int _, .str _ => .ok (.bl neg) h
  | .str _, .int _ => .ok (.bl neg) h
  | x, y => match toPyR h x, toPyR h y with
    | some a, some b => if SeqAt.shaped a = true ∧ SeqAt.shaped b = true then .ok (.bl (if neg then !PyData.eqv a b else PyData.eqv a b)) h else .bad
    | _, _ => .bad
abbrev eqF := eqG false
abbrev neF := eqG true
def rEqA (K : PySem.W.Frag) (neg : Bool) : R2 := fun x y H Q => (scal x y = true ∧ Q (.bl (if neg then !decide (x = y) else decide (x = y))) H) ∨ ∃ d e, Dp K H x d ∧ Dp K H y e ∧ SeqAt.shaped d = true ∧ SeqAt.shaped e = true ∧ Q (.bl (if neg then !PyData.eqv d e else PyData.eqv d e)) H
theorem op_eqA (hu : X.A.units + 64 < cLine) : OpR X (compareOp .Eq) (rEqA X.K false) := op_eq.or (op_eqD hu)
theorem op_neA (hu : X.A.units + 64 < cLine) : OpR X (compareOp .NotEq) (rEqA X.K true) := op_ne.or (op_neD hu)
theorem dec_inj {α : Type} [DecidableEq α] {f : α → V} (hf : ∀ a b, f a = f b → a = b) (a b : α) : decide (f a = f b) = decide (a = b) := by
  by_cases e : a = b
  · subst e; simp
  · rw [decide_eq_false e, decide_eq_false fun z => e (hf _ _ z)]
theorem opd_eqA {neg : Bool} : OpD X (rEqA X.K neg) (eqG neg) := fun W σ ω h x y v u Q r rx ry p => by
  unfold eqG at p
  split at p
  · rw [rd_int rx, rd_int ry]
    exact .inl ⟨rfl, by rw [dec_inj (f := V.int) (fun a b e => by cases e; rfl)]; exact p.here r bl_rd⟩
  · rw [rd_str rx, rd_str ry]
    exact .inl ⟨rfl, by rw [dec_inj (f := V.str) (fun a b e => by cases e; rfl)]; exact p.here r bl_rd⟩
  · rw [rd_bl rx, rd_bl ry]
    exact .inl ⟨rfl, by rw [dec_inj (f := V.bl) (fun a b e => by cases e; rfl)]; exact p.here r bl_rd⟩
  · rw [rd_non rx, rd_non ry]
    exact .inl ⟨rfl, by have := p.here r bl_rd; cases neg <;> exact this⟩
  · rw [rd_non rx, rd_int ry]
    exact .inl ⟨rfl, by have := p.here r bl_rd; cases neg <;> exact this⟩
  · rw [rd_int rx, rd_non ry]
    exact .inl ⟨rfl, by have := p.here r bl_rd; cases neg <;> exact this⟩
  · rw [rd_non rx, rd_str ry]
    exact .inl ⟨rfl, by have := p.here r bl_rd; cases neg <;> exact this⟩
  · rw [rd_str rx, rd_non ry]
    exact .inl ⟨rfl, by have := p.here r bl_rd; cases neg <;> exact this⟩
  · rw [rd_int rx, rd_str ry]
    exact .inl ⟨rfl, by have := p.here r bl_rd; cases neg <;> exact this⟩
  · rw [rd_str rx, rd_int ry]
    exact .inl ⟨rfl, by have := p.here r bl_rd; cases neg <;> exact this⟩
  · split at p
    · rename_i a b q1 q2
      obtain ⟨hs, p⟩ := p.if_
      exact .inr ⟨a, b, toPyR_rel r q1 rx, toPyR_rel r q2 ry, hs.1, hs.2, p.here r bl_rd⟩
    · exact False.elim p
/-! ### in: a flat item in a row of flat items; a sign in a text -/
def scalD : D → Bool
  | .non => true
  | .bl _ => true
  | .int _ => true
  | .str _ => true
  | _ => false
def eqS : D → D → Bool
  | .non, .non => true
  | .bl a, .bl b => a == b
  | .bl a, .int b => (if a then 1 else 0) == b
  | .int a, .bl b => a == (if b then 1 else 0)
  | .int a, .int b => a == b
  | .str a, .str b => a == b
  | _, _ => false
theorem scal_rel (hs : scalD d = true) (r : RelD K ω d v) : flatV v = true := by
  cases d <;> simp [scalD] at hs
  · rw [rd_non r]; rfl
  · rw [rd_bl r]; rfl
  · rw [rd_int r]; rfl
  · rw [rd_str r]; rfl
theorem scalL_rel : ∀ {ds : List D} {vs : List V}, ds.all scalD = true → RelL K ω ds vs → vs.all flatV = true
  | [], vs, _, x => by rw [x.inv0]; rfl
  | d :: ds, vs, hs, x => by
    obtain ⟨v, ws, rfl, e2, e3⟩ := x.inv
    simp only [List.all_cons, Bool.and_eq_true] at hs ⊢
    exact ⟨scal_rel hs.1 e2, scalL_rel hs.2 e3⟩
theorem eqS_rel {e : D} {u : V} (hd : scalD d = true) (he : scalD e = true) (r : RelD K ω d v) (r2 : RelD K ω e u) : eqV v u = eqS d e := by
  cases d <;> simp [scalD] at hd <;> cases e <;> simp [scalD] at he
  all_goals first
    | (rw [rd_non r, rd_non r2]; rfl) | (rw [rd_non r, rd_bl r2]; rfl) | (rw [rd_non r, rd_int r2]; rfl) | (rw [rd_non r, rd_str r2]; rfl)
    | (rw [rd_bl r, rd_non r2]; rfl) | (rw [rd_bl r, rd_bl r2]; rfl) | (rw [rd_bl r, rd_int r2]; rfl) | (rw [rd_bl r, rd_str r2]; rfl)
    | (rw [rd_int r, rd_non r2]; rfl) | (rw [rd_int r, rd_bl r2]; rfl) | (rw [rd_int r, rd_int r2]; rfl) | (rw [rd_int r, rd_str r2]; rfl)
    | (rw [rd_str r, rd_non r2]; rfl) | (rw [rd_str r, rd_bl r2]; rfl) | (rw [rd_str r, rd_int r2]; rfl) | (rw [rd_str r, rd_str r2]; rfl)
theorem any_rel {e : D} {u : V} (he : scalD e = true) (r2 : RelD K ω e u) : ∀ {ds : List D} {vs : List V}, ds.all scalD = true → RelL K ω ds vs → inV u vs = ds.any fun y => eqS y e
  | [], vs, _, x => by rw [x.inv0]; rfl
  | d :: ds, vs, hs, x => by
    obtain ⟨v, ws, rfl, e2, e3⟩ := x.inv
    simp only [List.all_cons, Bool.and_eq_true] at hs
    unfold inV
    rw [List.any_cons, List.any_cons, eqS_rel hs.1 he e2 r2]
    have := any_rel he r2 hs.2 e3
    unfold inV at this
    rw [this]
def inG (neg : Bool) (x y : D) (h : Hc) : R D := match x, y with
  | .str a, .str b => match a.cps.toList with
    | [c] => .ok (.bl (if neg then !decide (c ∈ b.cps.toList) else decide (c ∈ b.cps.toList))) h
    | _ => .bad
  | x, y => match seqD h y with
    | some xs => if scalD x = true ∧ xs.all scalD = true then .ok (.bl (if neg then !(xs.any fun y => eqS y x) else xs.any fun y => eqS y x)) h else .bad
    | none => .bad
def rInA (K : PySem.W.Frag) (neg : Bool) : R2 := fun x y H Q => rIn K neg x y H Q ∨ ∃ (c : Nat) (z : Str), x = .str ⟨#[c]⟩ ∧ y = .str z ∧ Q (.bl (if neg then !decide (c ∈ z.cps.toList) else decide (c ∈ z.cps.toList))) H
theorem op_inA : OpR X (compareOp .In) (rInA X.K false) := op_in_seq.or op_in_sign
theorem op_notInA : OpR X (compareOp .NotIn) (rInA X.K true) := op_notIn_seq.or op_notIn_sign
theorem opd_in {neg : Bool} : OpD X (rInA X.K neg) (inG neg) := fun W σ ω h x y v u Q r rx ry p => by
  unfold inG at p
  split at p
  · rename_i a b
    split at p
    · rename_i c q
      refine .inr ⟨c, b, ?_, rd_str ry, p.here r bl_rd⟩
      rw [rd_str rx]
      obtain ⟨⟨l⟩⟩ := a
      have q' : l = [c] := q
      rw [q']
    · exact False.elim p
  · split at p
    · rename_i xs q
      obtain ⟨⟨h1, h2⟩, p⟩ := p.if_
      obtain ⟨a, vs, e1, e2, e3⟩ := seqD_rel r q ry
      refine .inl ⟨a, vs, e1, e2.symm, scal_rel h1 rx, scalL_rel h2 e3, ?_⟩
      rw [any_rel h1 rx h2 e3]
      exact p.here r bl_rd
    · exact False.elim p
/-! ### subscripts -/
def ixF (x y : D) (h : Hc) : R D := match y with
  | .int i => match x with
    | .str z => if z.length ≤ lim then (match atI z.cps.toList i with
      | some c => .ok (.str ⟨#[c]⟩) h
      | none => .bad) else .bad
    | x => match seqD h x with
      | some xs => match atI xs i with
        | some d => .ok d h
        | none => .bad
      | none => .bad
  | _ => .bad
theorem atI_rel {ds : List D} {vs : List V} {i : Int} (x : RelL K ω ds vs) (e : atI ds i = some d) : ∃ v, atI vs i = some v ∧ RelD K ω d v := by
  unfold atI at e ⊢
  rw [← x.len]
  cases q : ixN ds.length i with
  | none => rw [q] at e; cases e
  | some j =>
    rw [q] at e
    exact x.get e
theorem opd_ix : OpD X (rIx X.K) ixF := fun W σ ω h x y v u Q r rx ry p => by
  unfold ixF at p
  split at p
  · rename_i i
    split at p
    · rename_i z
      obtain ⟨hl, p⟩ := p.if_
      split at p
      · rename_i c q
        exact .inr (.inr ⟨z, i, c, rd_str rx, rd_int ry, lim_le hl, q, p.here r str_rd⟩)
      · exact False.elim p
    · split at p
      · rename_i xs q
        split at p
        · rename_i d q2
          obtain ⟨a, vs, e1, e2, e3⟩ := seqD_rel r q rx
          obtain ⟨w, e4, e5⟩ := atI_rel e3 q2
          rcases e2 with e2 | e2
          · exact .inr (.inl ⟨a, vs, i, w, e1, rd_int ry, e2, e4, p.here r e5⟩)
          · exact .inl ⟨a, vs, i, w, e1, rd_int ry, e2, e4, p.here r e5⟩
        · exact False.elim p
      · exact False.elim p
  · exact False.elim p
/-! ### slices -/
def cutD {α : Type} (xs : List α) (lo hi : Option Int) : List α := (xs.drop (HT.sIx xs.length 0 lo)).take (HT.sIx xs.length xs.length hi - HT.sIx xs.length 0 lo)
def slF (x : D) (lo hi : Option Int) (h : Hc) : R D := match x with
  | .tup xs => .ok (.tup (cutD xs lo hi)) h
  | .str z => if z.length ≤ lim then .ok (.str ⟨(cutD z.cps.toList lo hi).toArray⟩) h else .bad
  | x => match rdlD h x with
    | some xs => .ok (.lst (cutD xs lo hi)) h
    | none => .bad
def slC (x : D) (lo hi : Option Int) (h : Hc) : R D := match rdlD h x with
    | some xs => .ok (.ref h.length) (h ++ [.lst (cutD xs lo hi)])
    | none => .bad
def rSlAll (K : PySem.W.Frag) : V → Option Int → Option Int → Hp → VK → Prop := fun x lo hi H Q => rSlA K x lo hi H Q ∨ (∃ z, x = .str z ∧ z.length ≤ sizeLine ∧ Q (.str (cutS z lo hi)) H) ∨ rSlL K x lo hi H Q
theorem sl_all : SlR X (rSlAll X.K) := sl_tupA.or (sl_str.or sl_list)
def optI (m : Option SE) : Sl → Hc → R (Option Int) := fun ds h => match m with
  | none => .ok none h
  | some m => (m ds h).bd fun d h1 => match d with
    | .int i => .ok (some i) h1
    | _ => .bad
def eSl (f : D → Option Int → Option Int → Hc → R D) (m : SE) (lo hi : Option SE) : SE := fun ds h => (m ds h).bd fun x h1 => (optI lo ds h1).bd fun l h2 => (optI hi ds h2).bd fun u h3 => f x l u h3
end
end Mp
/-! LayF: built-in functions, methods, stores, what is walked. -/
namespace Mp
open PySem PySem.Spec PyProof.Rows L2
section
variable {X : Cx} {W : WX} {K : PySem.W.Frag} {mg : Str → Option Value} {ω ω' : Wo} {h h' : Hc} {d : D} {v : V} {e a b : Expr} {es : List Expr} {m ma mb : SE} {as : SA} {pos p : Pos} {x : Str}
/-! ### slices -/
theorem cut_rel {xs : List D} {vs : List V} (x : RelL K ω xs vs) (lo hi : Option Int) : RelL K ω (cutD xs lo hi) (cutV vs lo hi) := by
  unfold cutD cutV
  rw [x.len]
  exact (x.drop _).take _
theorem cut_all {α : Type} (xs : List α) (lo hi : Option Int) (h1 : HT.sIx xs.length 0 lo = 0) (h2 : HT.sIx xs.length xs.length hi = xs.length) : cutD xs lo hi = xs := by
  unfold cutD
  rw [h1, h2]
  simp
def SlD (X : Cx) (r : V → Option Int → Option Int → Hp → VK → Prop) (f : D → Option Int → Option Int → Hc → R D) : Prop :=
  ∀ (W : WX) (σ : L2.St) (ω : Wo) (h : Hc) (x : D) (lo hi : Option Int) (v : V) (Q : VK), Rel X.K ω h → RelD X.K ω x v → Post X.K X.mg W σ ω (RelD X.K) Q (f x lo hi h) → r v lo hi ω.H Q
theorem sld_f : SlD X (rSlAll X.K) slF := fun W σ ω h x lo hi v Q r rx p => by
  unfold slF at p
  split at p
  · rename_i xs
    obtain ⟨a, vs, e1, e2, e3⟩ := rd_tup rx
    subst e1
    refine .inl ⟨a, vs, rfl, e2, fun z => ?_, fun _ q hq => ?_⟩
    · rw [← e3.len] at z
      rw [cut_all xs lo hi z.1 z.2] at p
      exact p.here r rx
    · refine p (.ref q) (ω.up q _) (Ext.up hq) (r.up hq) ?_
      unfold RelD
      exact ⟨q, _, rfl, .inl (.inl upd_same), monoL r (Ext.up hq) _ _ (cut_rel e3 lo hi)⟩
  · rename_i z
    obtain ⟨hl, p⟩ := p.if_
    exact .inr (.inl ⟨z, rd_str rx, lim_le hl, p.here r str_rd⟩)
  · split at p
    · rename_i xs q
      obtain ⟨a, vs, e1, e2, e3⟩ := rdlD_rel r q rx
      exact .inr (.inr ⟨a, vs, e1, e2, fun q hq => p (.ref q) (ω.up q _) (Ext.up hq) (r.up hq) (fz_new r hq (cut_rel e3 lo hi))⟩)
    · exact False.elim p
abbrev tOI (X : Cx) (W : WX) (m : Option SE) : TO := tOf X.K X.mg W (fun _ a b => a = b) (optI m)
abbrev DO (X : Cx) (W : WX) (e : Option Expr) (m : Option SE) : Prop := PO X e (tOI X W m)
theorem do_none : DO X W none none := ⟨fun pins s σ H Q I q => po_none.run pins s σ H Q I (by
  obtain ⟨ω, h, ds, e1, r, s, p⟩ := q
  subst e1
  exact p _ ω (Ext.refl _) r rfl)⟩
theorem do_some (he : DE X W e m) : DO X W (some e) (some m) := ⟨fun pins s σ H Q I q => (po_some he).run pins s σ H Q I (by
  obtain ⟨ω, h, ds, e1, r, s, p⟩ := q
  subst e1
  refine ⟨ω, h, ds, rfl, r, s, Post.bd (show Post X.K X.mg W σ ω _ Q ((m ds h).bd _) from p) fun d h1 v ω1 e1 r1 d1 p1 => ?_⟩
  split at p1
  · exact ⟨_, rd_int d1, p1 _ ω1 (Ext.refl _) r1 rfl⟩
  · exact False.elim p1)⟩
theorem de_sl {r : V → Option Int → Option Int → Hp → VK → Prop} {f : D → Option Int → Option Int → Hc → R D} {lo hi : Option SE} (h : PE X e (tSl r (tE X W m) (tOI X W lo) (tOI X W hi))) (hd : SlD X r f) : DE X W e (eSl f m lo hi) :=
  de_of h fun σ H Q ⟨ω, h, ds, e1, r, s, p⟩ => by
    subst e1
    exact ⟨ω, h, ds, rfl, r, s, p.bd fun x h1 v ω1 e1 r1 d1 p1 => ⟨ω1, h1, ds, rfl, r1, monoS r e1 s, p1.bd fun l h2 l' ω2 e2 r2 d2 p2 => ⟨ω2, h2, ds, rfl, r2, monoS r (e1.trans e2) s, p2.bd fun u h3 u' ω3 e3 r3 d3 p3 => by
      have d2' : l = l' := d2
      have d3' : u = u' := d3
      subst d2'; subst d3'
      exact hd W σ ω3 h3 x l u v Q r3 (mono r1 (e2.trans e3) _ _ d1) p3⟩⟩⟩
/-! ### built-in functions -/
def CallD (X : Cx) (r : List V → Hp → VK → Prop) (f : List D → Hc → R D) : Prop :=
  ∀ (W : WX) (σ : L2.St) (ω : Wo) (h : Hc) (xs : List D) (vs : List V) (Q : VK), Rel X.K ω h → RelL X.K ω xs vs → Post X.K X.mg W σ ω (RelD X.K) Q (f xs h) → r vs ω.H Q
def eCB (f : List D → Hc → R D) (as : SA) : SE := fun ds h => (as ds h).bd fun xs h1 => f xs h1
theorem de_cb {r : List V → Hp → VK → Prop} {f : List D → Hc → R D} (h : PE X e (tCB r (tA X W as))) (hd : CallD X r f) : DE X W e (eCB f as) := de_of h fun σ H Q ⟨ω, h, ds, e1, r, s, p⟩ => by
  subst e1
  exact ⟨ω, h, ds, rfl, r, s, p.bd fun xs h1 vs ω1 e1 r1 d1 p1 => hd W σ ω1 h1 xs vs Q r1 d1 p1⟩
/-- a dict's keys and values -/
def dctD (h : Hc) : D → Option (List Key × List D)
  | .dct ks ds => some (ks, ds)
  | .ref i => match h[i]? with
    | some (.dct ks ds) => some (ks, ds)
    | _ => none
  | _ => none
theorem dctD_rel {ks : List Key} {ds : List D} (r : Rel K ω h) (e : dctD h d = some (ks, ds)) (x : RelD K ω d v) : ∃ p vs, v = .ref p ∧ ω.H p = some (.dK (ks.zip vs)) ∧ ks.length = vs.length ∧ RelL K ω ds vs := by
  cases d <;> simp [dctD] at e
  · obtain ⟨rfl, rfl⟩ := e
    unfold RelD at x
    obtain ⟨p, vs, e1, e2, e3, e4⟩ := x
    exact ⟨p, vs, e1, e2.1, e3, e4⟩
  · rename_i i
    cases q : h[i]? with
    | none => simp [q] at e
    | some c =>
      cases c with
      | lst ys => simp [q] at e
      | dct ks' ds' =>
        simp [q] at e
        obtain ⟨rfl, rfl⟩ := e
        unfold RelD at x
        obtain ⟨vs, e1, e2, e3⟩ := r.cel i _ q
        exact ⟨_, vs, x.2, e1, e2, e3⟩
/-- len -/
def lenF (xs : List D) (h : Hc) : R D := match xs with
  | [.str z] => if z.length ≤ lim then .ok (.int z.length) h else .bad
  | [d] => match seqD h d with
    | some ys => .ok (.int ys.length) h
    | none => match dctD h d with
      | some (ks, _) => .ok (.int ks.length) h
      | none => .bad
  | _ => .bad
def rLenA (K : PySem.W.Frag) : List V → Hp → VK → Prop := fun xs H Q => (∃ x n, xs = [x] ∧ LenV K x H n ∧ Q (.int n) H) ∨ ∃ a kvs, xs = [V.ref a] ∧ H a = some (.dK kvs) ∧ Q (.int kvs.length) H
theorem call_lenA : CallR X (.builtin "len") (rLenA X.K) := call_len.or call_lenD
theorem zip_len {ks : List Key} {vs : List V} (e : ks.length = vs.length) : (ks.zip vs).length = ks.length := by rw [List.length_zip, e, Nat.min_self]
theorem cd_len : CallD X (rLenA X.K) lenF := fun W σ ω h xs vs Q r rx p => by
  unfold lenF at p
  split at p
  · rename_i z
    obtain ⟨hl, p⟩ := p.if_
    obtain ⟨v, ws, rfl, e2, e3⟩ := rx.inv
    rw [e3.inv0, rd_str e2]
    exact .inl ⟨_, z.length, rfl, ⟨lim_le hl, rfl⟩, p.here r int_rd⟩
  · obtain ⟨v, ws, rfl, e2, e3⟩ := rx.inv
    rw [e3.inv0]
    split at p
    · rename_i ys q
      obtain ⟨a, us, e1, e4, e5⟩ := seqD_rel r q e2
      refine .inl ⟨v, us.length, rfl, ?_, by rw [← e5.len]; exact p.here r int_rd⟩
      rw [e1]
      exact e4.elim (fun z => .inr ⟨us, z, rfl⟩) fun z => .inl ⟨us, z, rfl⟩
    · split at p
      · rename_i ks ds q
        obtain ⟨a, us, e4, e5, e6, e7⟩ := dctD_rel r q e2
        refine .inr ⟨a, _, by rw [e4], e5, ?_⟩
        rw [zip_len e6]; exact p.here r int_rd
      · exact False.elim p
  · exact False.elim p
/-- isinstance -/
def tyD (h : Hc) : D → Option String
  | .non => some "NoneType"
  | .bl _ => some "bool"
  | .int _ => some "int"
  | .str _ => some "str"
  | .tup _ => some "tuple"
  | .lst _ => some "list"
  | .scr _ => some "list"
  | .dct _ _ => some "dict"
  | .ref i => match h[i]? with
    | some (.lst _) => some "list"
    | some (.dct _ _) => some "dict"
    | none => none
  | .ty _ => none
theorem tyD_rel {t : String} (r : Rel K ω h) (e : tyD h d = some t) (x : RelD K ω d v) : TyX K ω.H v (.type t) := by
  have tl : ∀ {p : Addr} {vs : List V}, SqL K ω.H p vs → TyX K ω.H (.ref p) (.type "list") := fun z => by
    rcases z with (z | ⟨o, z⟩) | ⟨o, its, n, z1, z2, _⟩
    · exact .base (.lst z)
    · exact .base (.frz z)
    · exact .kList z1 z2
  cases d <;> simp [tyD] at e
  · subst e; rw [rd_non x]; exact .base .non
  · subst e; rw [rd_bl x]; exact .base (.bl _)
  · subst e; rw [rd_int x]; exact .base (.int _)
  · subst e; rw [rd_str x]; exact .base (.str _)
  · subst e
    obtain ⟨p, vs, rfl, z, _⟩ := rd_tup x
    rcases z with (z | ⟨o, z⟩) | ⟨o, its, n, z1, z2, _⟩
    · exact .base (.tup z)
    · exact .fTuple z
    · exact .kTuple z1 z2
  · subst e
    obtain ⟨p, vs, rfl, z, _⟩ := rd_lst x
    exact tl (.inl (.inl z))
  · subst e
    obtain ⟨p, vs, rfl, z, _⟩ := rd_scr x
    exact tl z
  · rename_i ks ds
    subst e
    obtain ⟨p, vs, rfl, z, _⟩ := dctD_rel (d := .dct ks ds) r rfl x
    exact .base (.dK z)
  · rename_i i
    cases q : h[i]? with
    | none => simp [q] at e
    | some c =>
      cases c with
      | lst ys =>
        simp [q] at e; subst e
        obtain ⟨vs, _, rfl, z, _⟩ := rd_cel r x q
        exact tl (.inl (.inl z))
      | dct ks ds =>
        simp [q] at e; subst e
        obtain ⟨p, vs, rfl, z, _⟩ := dctD_rel (d := .ref i) (ks := ks) (ds := ds) r (by simp only [dctD, q]) x
        exact .base (.dK z)
def tyNames : List String := ["NoneType", "bool", "int", "str", "tuple", "list", "dict"]
def isB (a b : String) : Bool := a == b || (a == "bool" && b == "int")
theorem isB_ok : ∀ a ∈ tyNames, ∀ b ∈ (["bool", "int", "str", "tuple", "list", "dict"] : List String), kitB a b = some (isB a b) := by decide +kernel
theorem tyD_in {t : String} (e : tyD h d = some t) : t ∈ tyNames := by
  cases d <;> simp [tyD] at e <;> try (subst e; decide)
  rename_i i
  cases q : h[i]? with
  | none => simp [q] at e
  | some c => cases c <;> simp [q] at e <;> subst e <;> decide
def tyAsked : List String := ["bool", "int", "str", "tuple", "list", "dict"]
def isF (xs : List D) (h : Hc) : R D := match xs with
  | [x, .ty b] => match tyD h x with
    | some t => if tyAsked.contains b = true then .ok (.bl (isB t b)) h else .bad
    | none => .bad
  | _ => .bad
theorem cd_is : CallD X (rIsi X.K) isF := fun W σ ω h xs vs Q r rx p => by
  unfold isF at p
  split at p
  · rename_i x b
    split at p
    · rename_i t q1
      obtain ⟨hc, p⟩ := p.if_
      obtain ⟨v, ws, rfl, e2, e3⟩ := rx.inv
      obtain ⟨u, ws', rfl, e4, e5⟩ := e3.inv
      rw [e5.inv0]
      exact ⟨v, u, .type t, .type b, isB t b, rfl, by rw [rd_ty e4]; exact .ty b, tyD_rel r q1 e2, kit_ty (isB_ok t (tyD_in q1) b (by simpa [tyAsked] using hc)), p.here r bl_rd⟩
    · exact False.elim p
  · exact False.elim p
/-- isinstance(x, (A, B)) -/
def eIs2 (m : SE) (a b : String) : SE := fun ds h => (m ds h).bd fun x h1 => match tyD h1 x with
  | some t => if tyAsked.contains a = true ∧ tyAsked.contains b = true then .ok (.bl (isB t a || isB t b)) h1 else .bad
  | none => .bad
theorem TyX.up {t : Value} {q : Addr} {o : HO} (hq : ω.H q = none) (x : TyX K ω.H v t) : TyX K (upd ω.H q o) v t := by
  have ne : ∀ {a : Addr} {u : HO}, ω.H a = some u → (upd ω.H q o) a = some u := fun z => by rw [upd_ne (ne_of_none z hq)]; exact z
  cases x with
  | base z =>
    cases z with
    | non => exact .base .non
    | bl b => exact .base (.bl b)
    | int i => exact .base (.int i)
    | str i => exact .base (.str i)
    | flt i => exact .base (.flt i)
    | lst e => exact .base (.lst (ne e))
    | frz e => exact .base (.frz (ne e))
    | tup e => exact .base (.tup (ne e))
    | dK e => exact .base (.dK (ne e))
    | dT e => exact .base (.dT (ne e))
    | ins e a b c d f => exact .base (.ins (ne e) a b c d f)
  | byt b => exact .byt b
  | set e => exact .set (ne e)
  | kList e c => exact .kList e c
  | kTuple e c => exact .kTuple e c
  | kDict e c => exact .kDict e c
  | fTuple e => exact .fTuple (ne e)
  | fDict e => exact .fDict (ne e)
theorem de_is2 {a b : String} {e : Expr} (h : PE X e (tCB (rIsiT X.K) (tCons (tE X W m) (tCons (tTup (tCons (tC (.ty a)) (tCons (tC (.ty b)) tNil))) tNil)))) : DE X W e (eIs2 m a b) := de_of h fun σ H Q ⟨ω, h, ds, e1, r, s, p⟩ => by
  subst e1
  refine ⟨ω, h, ds, rfl, r, s, Post.bd (show Post X.K X.mg W σ ω _ Q ((m ds h).bd _) from p) fun x h1 v ω1 e1 r1 d1 p1 => ?_⟩
  split at p1
  · rename_i t q1
    obtain ⟨⟨ha, hb⟩, p1⟩ := p1.if_
    refine ⟨by show 2 ≤ sizeLine; decide, fun q hq => ⟨v, q, [.ty a, .ty b], .type t, [.type a, .type b], isB t a || isB t b, rfl, upd_same, .cons (.ty a) (.cons (.ty b) .nil), TyX.up hq (tyD_rel r1 q1 d1), ?_, p1 _ (ω1.up q _) (Ext.up hq) (r1.up hq) bl_rd⟩⟩
    have za := kit_ty (K := X.K) (isB_ok t (tyD_in q1) a (by simpa [tyAsked] using ha))
    have zb := kit_ty (K := X.K) (isB_ok t (tyD_in q1) b (by simpa [tyAsked] using hb))
    refine kitAny_cons za (fun z => ?_) fun z => by rw [z]; rfl
    refine kitAny_cons zb (fun z2 => ?_) fun z2 => by rw [z, z2]; rfl
    rw [z, z2]; exact kitAny_nil
  · exact False.elim p1
/-- int -/
def intF (xs : List D) (h : Hc) : R D := match xs with
  | [.int i] => .ok (.int i) h
  | [.bl b] => .ok (.int (if b then 1 else 0)) h
  | _ => .bad
@[simp] theorem intF_int (i : Int) (h : Hc) : intF [.int i] h = .ok (.int i) h := Eq.trans rfl rfl
theorem cd_int : CallD X (fun xs H Q => (∃ i, xs = [.int i] ∧ Q (.int i) H) ∨ ∃ k, xs = [.bl k] ∧ Q (.int (if k then 1 else 0)) H) intF := fun W σ ω h xs vs Q r rx p => by
  unfold intF at p
  split at p
  · obtain ⟨v, ws, rfl, e2, e3⟩ := rx.inv
    rw [e3.inv0, rd_int e2]
    exact .inl ⟨_, rfl, p.here r int_rd⟩
  · obtain ⟨v, ws, rfl, e2, e3⟩ := rx.inv
    rw [e3.inv0, rd_bl e2]
    exact .inr ⟨_, rfl, p.here r int_rd⟩
  · exact False.elim p
/-- math.gcd -/
def gcdF (xs : List D) (h : Hc) : R D := match xs with
  | [.int i, .int j] => .ok (.int ((Nat.gcd i.natAbs j.natAbs : Nat) : Int)) h
  | _ => .bad
/-- tuple(xs), list(xs) -/
def tupleF (xs : List D) (h : Hc) : R D := match xs with
  | [.tup ys] => .ok (.tup ys) h
  | [d] => match rdlD h d with
    | some ys => .ok (.tup ys) h
    | none => .bad
  | _ => .bad
theorem cd_tuple : CallD X (fun xs H Q => ∃ p ys, xs = [.ref p] ∧ ((SqL X.K H p ys ∧ ∀ l, H l = none → Q (.ref l) (upd H l (.tup ys))) ∨ (SqT X.K H p ys ∧ Q (.ref p) H))) tupleF := fun W σ ω h xs vs Q r rx p => by
  unfold tupleF at p
  split at p
  · obtain ⟨v, ws, rfl, e2, e3⟩ := rx.inv
    rw [e3.inv0]
    obtain ⟨a, us, e4, e5, e6⟩ := rd_tup e2
    subst e4
    exact ⟨a, us, rfl, .inr ⟨e5, p.here r e2⟩⟩
  · obtain ⟨v, ws, rfl, e2, e3⟩ := rx.inv
    rw [e3.inv0]
    split at p
    · rename_i ys q
      obtain ⟨a, us, e4, e5, e6⟩ := rdlD_rel r q e2
      subst e4
      refine ⟨a, us, rfl, .inl ⟨e5, fun l hl => p (.ref l) (ω.up l _) (Ext.up hl) (r.up hl) ?_⟩⟩
      unfold RelD
      exact ⟨l, _, rfl, .inl (.inl upd_same), monoL r (Ext.up hl) _ _ e6⟩
    · exact False.elim p
  · exact False.elim p
def listF (xs : List D) (h : Hc) : R D := match xs with
  | [d] => match seqD h d with
    | some ys => .ok (.lst ys) h
    | none => .bad
  | _ => .bad
def listC (xs : List D) (h : Hc) : R D := match xs with
  | [d] => match seqD h d with
    | some ys => .ok (.ref h.length) (h ++ [.lst ys])
    | none => .bad
  | _ => .bad
/-- sum, all, any of a list -/
def intsD : List D → Option (List Int)
  | [] => some []
  | .int i :: r => (intsD r).map (i :: ·)
  | _ :: _ => none
def blsD : List D → Option (List Bool)
  | [] => some []
  | .bl i :: r => (blsD r).map (i :: ·)
  | _ :: _ => none
def strsD : List D → Option (List Str)
  | [] => some []
  | .str i :: r => (strsD r).map (i :: ·)
  | _ :: _ => none
theorem intsD_eq : ∀ {ds : List D} {ns : List Int}, intsD ds = some ns → ds = ns.map D.int
  | [], ns, e => by simp [intsD] at e; subst e; rfl
  | d :: ds, ns, e => by
    cases d <;> simp [intsD] at e
    obtain ⟨a, e1, rfl⟩ := e
    rw [intsD_eq e1]; rfl
theorem blsD_eq : ∀ {ds : List D} {ns : List Bool}, blsD ds = some ns → ds = ns.map D.bl
  | [], ns, e => by simp [blsD] at e; subst e; rfl
  | d :: ds, ns, e => by
    cases d <;> simp [blsD] at e
    obtain ⟨a, e1, rfl⟩ := e
    rw [blsD_eq e1]; rfl
theorem strsD_eq : ∀ {ds : List D} {ns : List Str}, strsD ds = some ns → ds = ns.map D.str
  | [], ns, e => by simp [strsD] at e; subst e; rfl
  | d :: ds, ns, e => by
    cases d <;> simp [strsD] at e
    obtain ⟨a, e1, rfl⟩ := e
    rw [strsD_eq e1]; rfl
@[simp] theorem intsD_map (ns : List Int) : intsD (ns.map D.int) = some ns := by induction ns with
  | nil => rfl
  | cons n ns ih => simp [intsD, ih]
@[simp] theorem blsD_map (ns : List Bool) : blsD (ns.map D.bl) = some ns := by induction ns with
  | nil => rfl
  | cons n ns ih => simp [blsD, ih]
/-- one list of ints (bools), and what is made of it -/
def lF {α : Type} (get : List D → Option (List α)) (g : List α → D) (xs : List D) (h : Hc) : R D := match xs with
  | [d] => match rdlD h d with
    | some ys => match get ys with
      | some ns => .ok (g ns) h
      | none => .bad
    | none => .bad
  | _ => .bad
abbrev sumF := lF intsD fun ns => .int ns.sum
abbrev allF := lF blsD fun bs => .bl (bs.all id)
abbrev anyF := lF blsD fun bs => .bl (bs.any id)
theorem lF_get {α : Type} {get : List D → Option (List α)} {g : List α → D} {xs : List D} {vs : List V} {Q : VK} {σ : L2.St} (r : Rel X.K ω h) (rx : RelL X.K ω xs vs) (p : Post X.K X.mg W σ ω (RelD X.K) Q (lF get g xs h)) :
    ∃ a us ys ns, vs = [.ref a] ∧ SqL X.K ω.H a us ∧ get ys = some ns ∧ RelL X.K ω ys us ∧ Post X.K X.mg W σ ω (RelD X.K) Q (.ok (g ns) h) := by
  unfold lF at p
  split at p
  · obtain ⟨v, ws, rfl, e2, e3⟩ := rx.inv
    rw [e3.inv0]
    split at p
    · rename_i ys q
      split at p
      · rename_i ns q2
        obtain ⟨a, us, e4, e5, e6⟩ := rdlD_rel r q e2
        subst e4
        exact ⟨a, us, ys, ns, rfl, e5, q2, e6, p⟩
      · exact False.elim p
    · exact False.elim p
  · exact False.elim p
theorem cd_all : CallD X (rAll X.K) allF := fun W σ ω h xs vs Q r rx p => by
  obtain ⟨a, us, ys, ns, rfl, e1, e2, e3, p⟩ := lF_get r rx p
  rw [blsD_eq e2] at e3
  rw [e3.bls] at e1
  exact ⟨a, ns, rfl, e1, p.here r bl_rd⟩
/-! ### methods of lists -/
def MtD (X : Cx) (T : String) (r : V → List V → Hp → VK → Prop) (f : D → List D → Hc → R D) : Prop :=
  ∀ (W : WX) (σ : L2.St) (ω : Wo) (h : Hc) (x : D) (xs : List D) (v : V) (vs : List V) (Q : VK), Rel X.K ω h → RelD X.K ω x v → RelL X.K ω xs vs → Post X.K X.mg W σ ω (RelD X.K) Q (f x xs h) → r v vs ω.H Q
/-- of which type the receiver is, as it is read ahead of the arguments -/
def kindOk (h : Hc) (T : String) (x : D) : Bool := if T == "str" then (match x with | .str _ => true | _ => false) else if T == "list" then (rdlD h x).isSome else if T == "dict" then (dctD h x).isSome else false
theorem kindOk_rel {T : String} (r : Rel K ω h) (e : kindOk h T d = true) (x : RelD K ω d v) : tyV K T v ω.H := by
  unfold kindOk at e
  split at e
  · rename_i ht
    have ht' : T = "str" := by simpa using ht
    subst ht'
    cases d <;> simp at e
    rw [rd_str x]; rfl
  · split at e
    · rename_i ht
      have ht' : T = "list" := by simpa using ht
      subst ht'
      obtain ⟨ys, q⟩ := Option.isSome_iff_exists.mp e
      obtain ⟨a, us, rfl, e5, e6⟩ := rdlD_rel r q x
      exact .inl ⟨rfl, us, e5⟩
    · split at e
      · rename_i ht
        have ht' : T = "dict" := by simpa using ht
        subst ht'
        obtain ⟨⟨ks, ds⟩, q⟩ := Option.isSome_iff_exists.mp e
        obtain ⟨a, us, rfl, e5, e6⟩ := dctD_rel r q x
        exact .inr (.inr (.inl ⟨rfl, .inl ⟨_, e5⟩⟩))
      · cases e
def eBM (T : String) (f : D → List D → Hc → R D) (m : SE) (as : SA) : SE := fun ds h => (m ds h).bd fun x h1 => if kindOk h1 T x = true then (as ds h1).bd fun xs h2 => f x xs h2 else .bad
def eBM0 (T : String) (f : D → List D → Hc → R D) (m : SE) : SE := fun ds h => (m ds h).bd fun x h1 => if kindOk h1 T x = true then f x [] h1 else .bad
theorem de_bm {T : String} {r : V → List V → Hp → VK → Prop} {f : D → List D → Hc → R D} (h : PE X e (tBM X.K T r (tE X W m) (tA X W as))) (hd : MtD X T r f) : DE X W e (eBM T f m as) := de_of h fun σ H Q ⟨ω, h, ds, e1, r, s, p⟩ => by
  subst e1
  refine ⟨ω, h, ds, rfl, r, s, Post.bd (show Post X.K X.mg W σ ω _ Q ((m ds h).bd _) from p) fun x h1 v ω1 e1 r1 d1 p1 => ?_⟩
  obtain ⟨hk, p1⟩ := p1.if_
  exact ⟨kindOk_rel r1 hk d1, ω1, h1, ds, rfl, r1, monoS r e1 s, p1.bd fun xs h2 vs ω2 e2 r2 d2 p2 => hd W σ ω2 h2 x xs v vs Q r2 (mono r1 e2 _ _ d1) d2 p2⟩
/-- xs.append(d) -/
def appF (x : D) (as : List D) (h : Hc) : R D := match x, as with
  | .ref i, [d] => match h[i]? with
    | some (.lst xs) => if xs.length < lim then .ok .non (h.set i (.lst (xs ++ [d]))) else .bad
    | _ => .bad
  | _, _ => .bad
theorem put_lst {i : Nat} {xs ys : List D} {vs : List V} (r : Rel K ω h) (q : h[i]? = some (.lst xs)) (y : RelL K ω ys vs) :
    Ext ω (ω.up (ω.β i) (.lst vs)) ∧ Rel K (ω.up (ω.β i) (.lst vs)) (h.set i (.lst ys)) := by
  have hi : i < ω.n := by rw [r.n]; exact (List.getElem?_eq_some_iff.mp q).1
  obtain ⟨o, ho, _⟩ := r.mut hi
  have e := Ext.put (o := .lst vs) hi ho
  exact ⟨e, r.put hi ⟨vs, upd_same, monoL r e _ _ y⟩⟩
theorem md_app : MtD X "list" rAppend appF := fun W σ ω h x xs v vs Q r rx ry p => by
  unfold appF at p
  split at p
  · rename_i i d
    split at p
    · rename_i ys q
      obtain ⟨hl, p⟩ := p.if_
      obtain ⟨us, hi, rfl, e2, e3⟩ := rd_cel r rx q
      obtain ⟨u, ws, rfl, e4, e5⟩ := ry.inv
      rw [e5.inv0]
      obtain ⟨e, r'⟩ := put_lst r q (e3.append (RelL.cons e4 RelL.nil))
      exact ⟨_, us, u, rfl, rfl, e2, by rw [← e3.len]; exact lim_lt hl, p _ _ e r' non_rd⟩
    · exact False.elim p
  · exact False.elim p
/-- xs.pop() -/
def popF (x : D) (as : List D) (h : Hc) : R D := match x, as with
  | .ref i, [] => match h[i]? with
    | some (.lst xs) => match xs[xs.length - 1]? with
      | some d => .ok d (h.set i (.lst xs.dropLast))
      | none => .bad
    | _ => .bad
  | _, _ => .bad
/-! ### stores -/
def SetD (X : Cx) (r : TSet) (f : D → D → D → Hc → Option Hc) : Prop :=
  ∀ (ω : Wo) (h h' : Hc) (o i x : D) (ov iv v : V) (Q : Hp → Prop), Rel X.K ω h → RelD X.K ω o ov → RelD X.K ω i iv → RelD X.K ω x v → f o i x h = some h' → (∀ ω', Ext ω ω' → Rel X.K ω' h' → Q ω'.H) → r ov iv v ω.H Q
def setF (o i x : D) (h : Hc) : Option Hc := match o, i with
  | .ref j, .int k => match h[j]? with
    | some (.lst xs) => (ixN xs.length k).map fun n => h.set j (.lst (xs.set n x))
    | _ => none
  | _, _ => none
theorem sd_set : SetD X rSetL setF := fun ω h h' o i x ov iv v Q r ro ri rx e q => by
  unfold setF at e
  split at e
  · rename_i j k
    split at e
    · rename_i xs q1
      rw [Option.map_eq_some_iff] at e
      obtain ⟨n, e1, rfl⟩ := e
      obtain ⟨us, hj, rfl, e2, e3⟩ := rd_cel r ro q1
      obtain ⟨ex, r'⟩ := put_lst r q1 (RelL.set rx n e3)
      exact ⟨_, us, k, n, rfl, rd_int ri, e2, by rw [← e3.len]; exact e1, q _ ex r'⟩
    · cases e
  · cases e
def sPut (f : D → D → D → Hc → Option Hc) (me mo mi : SE) : SS := fun ds h => sBd (me ds h) ds fun x h1 => sBd (mo ds h1) ds fun o h2 => sBd (mi ds h2) ds fun i h3 => match f o i x h3 with
  | some h4 => .nx ds h4
  | none => .bad
theorem ds_put {o i e : Expr} {me mo mi : SE} {r : TSet} {f : D → D → D → Hc → Option Hc} {p' : Pos} (h : PS X (.Assign [.Subscript o i p'] e pos) (tAsg (tE X W me) (gSub (tE X W mo) (tE X W mi) r))) (hd : SetD X r f) : DS X W (.Assign [.Subscript o i p'] e pos) (sPut f me mo mi) :=
  ds_of h fun E σ H ⟨ω, h, ds, e1, r, s, p⟩ => by
    subst e1
    refine ⟨ω, h, ds, rfl, r, s, PostO.bd r s p fun x h1 v ω1 e1 r1 d1 s1 p1 => ⟨ω1, h1, ds, rfl, r1, s1, PostO.bd r1 s1 p1 fun o h2 u ω2 e2 r2 d2 s2 p2 => ⟨ω2, h2, ds, rfl, r2, s2, PostO.bd r2 s2 p2 fun i h3 w ω3 e3 r3 d3 s3 p3 => ?_⟩⟩⟩
    cases q : f o i x h3 with
    | none => rw [q] at p3; exact False.elim p3
    | some h4 =>
      rw [q] at p3
      exact hd ω3 h3 h4 o i x u w v _ r3 (mono r2 e3 _ _ d2) d3 (mono r1 (e2.trans e3) _ _ d1) q fun ω4 e4 r4 => p3 σ ω4 e4 r4 (monoS r3 e4 s3)
/-- x op= e -/
def sAug (i : Nat) (f : D → D → Hc → R D) (me : SE) : SS := fun ds h => match ds[i]? with
  | some (some x) => sBd ((me ds h).bd fun y h1 => f x y h1) ds fun z h2 => .nx (ds.set i (some z)) h2
  | _ => .bad
theorem ds_aug {st : Stmt} {i : Nat} {me : SE} {r : R2} {f : D → D → Hc → R D} (h : PS X st (tAug i (tE X W me) r)) (hd : OpD X r f) : DS X W st (sAug i f me) := ds_of h fun E σ H ⟨ω, h, ds, e1, r, s, p⟩ => by
  subst e1
  unfold sAug at p
  split at p
  · rename_i x q
    obtain ⟨v, e2, rx⟩ := s.2 i x q
    refine ⟨v, e2, ω, h, ds, rfl, r, s, ?_⟩
    have p' : Post X.K X.mg W σ ω (RelD X.K) (fun z H2 => E.nx (σ.set i (some z)) H2) ((me ds h).bd fun y h1 => f x y h1) := PostO.bd r s p fun z h2 w ω2 e2 r2 d2 s2 p2 => p2 _ ω2 (Ext.refl _) r2 (s2.set i d2)
    exact p'.bd fun y h1 u ω1 e1 r1 d1 p1 => hd W σ ω1 h1 x y v u _ r1 (mono r e1 _ _ rx) d1 p1
  · exact False.elim p
/-! ### what is walked -/
mutual
/-- equality of data, to be reckoned -/
def eqDD : D → D → Bool
  | .non, .non => true
  | .bl a, .bl b => a == b
  | .int a, .int b => decide (a = b)
  | .str a, .str b => decide (a = b)
  | .ty a, .ty b => decide (a = b)
  | .tup a, .tup b => eqDL a b
  | .lst a, .lst b => eqDL a b
  | .scr a, .scr b => eqDL a b
  | .dct k a, .dct l b => decide (k = l) && eqDL a b
  | .ref a, .ref b => decide (a = b)
  | _, _ => false
def eqDL : List D → List D → Bool
  | [], [] => true
  | a :: r, b :: s => eqDD a b && eqDL r s
  | _, _ => false
end
mutual
theorem eqDD_eq : ∀ (a b : D), eqDD a b = true → a = b
  | .non, b, h => by cases b <;> simp [eqDD] at h ⊢
  | .bl x, b, h => by cases b <;> simp [eqDD] at h ⊢; exact h
  | .int x, b, h => by cases b <;> simp [eqDD] at h ⊢; exact h
  | .str x, b, h => by cases b <;> simp [eqDD] at h ⊢; exact h
  | .ty x, b, h => by cases b <;> simp [eqDD] at h ⊢; exact h
  | .tup x, b, h => by cases b <;> simp [eqDD] at h ⊢; exact eqDL_eq _ _ h
  | .lst x, b, h => by cases b <;> simp [eqDD] at h ⊢; exact eqDL_eq _ _ h
  | .scr x, b, h => by cases b <;> simp [eqDD] at h ⊢; exact eqDL_eq _ _ h
  | .dct k x, b, h => by cases b <;> simp [eqDD] at h ⊢; exact ⟨h.1, eqDL_eq _ _ h.2⟩
  | .ref x, b, h => by cases b <;> simp [eqDD] at h ⊢; exact h
theorem eqDL_eq : ∀ (a b : List D), eqDL a b = true → a = b
  | [], b, h => by cases b <;> simp [eqDL] at h ⊢
  | x :: r, b, h => by
    cases b with
    | nil => simp [eqDL] at h
    | cons y s =>
      simp [eqDL] at h
      rw [eqDD_eq _ _ h.1, eqDL_eq _ _ h.2]
end
mutual
theorem eqDD_self : ∀ (a : D), eqDD a a = true
  | .non => by unfold eqDD; rfl
  | .bl x => by unfold eqDD; simp
  | .int x => by unfold eqDD; simp
  | .str x => by unfold eqDD; simp
  | .ty x => by unfold eqDD; simp
  | .tup x => by unfold eqDD; exact eqDL_self x
  | .lst x => by unfold eqDD; exact eqDL_self x
  | .scr x => by unfold eqDD; exact eqDL_self x
  | .dct k x => by unfold eqDD; simp [eqDL_self x]
  | .ref x => by unfold eqDD; simp
theorem eqDL_self : ∀ (a : List D), eqDL a a = true
  | [] => by unfold eqDL; rfl
  | x :: r => by unfold eqDL; simp [eqDD_self x, eqDL_self r]
end
/-- the sequence is as it was -/
def chkQ (d : D) (xs : List D) : Hc → Bool := fun h' => match seqD h' d with
  | some ys => eqDL ys xs
  | none => false
theorem chkQ_spec {d : D} {xs : List D} {h' : Hc} (e : chkQ d xs h' = true) : seqD h' d = some xs := by
  unfold chkQ at e
  split at e
  · rename_i ys q
    rw [q, eqDL_eq _ _ e]
  · cases e
theorem chkQ_of {d : D} {xs : List D} {h' : Hc} (e : seqD h' d = some xs) : chkQ d xs h' = true := by
  unfold chkQ
  rw [e]
  exact eqDL_self xs
/-- a sequence -/
def iSeq (m : SE) : SI := fun ds h => (m ds h).bd fun d h1 => match seqD h1 d with
  | some xs => .ok ⟨xs, chkQ d xs⟩ h1
  | none => .bad
theorem itOk_list {xs : List D} {a : Addr} (r : Rel K ω h) (x : RelD K ω d (.ref a)) (hs : ∀ h', seqD h' d = some xs → rdlD h' d = some xs) : ItOk K ω ⟨xs, chkQ d xs⟩ (Itl K a) := fun i ω' h' e r' hk => by
  replace hk : seqD h' d = some xs := chkQ_spec (show chkQ d xs h' = true from hk)
  obtain ⟨p, vs, e1, e2, e3⟩ := rdlD_rel r' (hs h' hk) (mono r e _ _ x)
  cases e1
  refine ⟨fun d hd => ?_, fun hn => ⟨vs, e2, ?_⟩⟩
  · obtain ⟨v, e4, e5⟩ := e3.get hd
    refine ⟨⟨vs, v, e2, e4⟩, fun y H' ⟨e6, e7⟩ => ⟨ω', e6.symm, Ext.refl _, r', ?_⟩⟩
    have := e7 vs e2
    rw [e4] at this
    cases this
    exact e5
  · rw [← e3.len]; exact List.getElem?_eq_none_iff.mp hn
theorem itOk_tup {xs : List D} {a : Addr} (r : Rel K ω h) (x : RelD K ω (.tup xs) (.ref a)) : ItOk K ω ⟨xs, chkQ (.tup xs) xs⟩ (Itt K a) := fun i ω' h' e r' hk => by
  replace hk : seqD h' (.tup xs) = some xs := chkQ_spec (show chkQ (.tup xs) xs h' = true from hk)
  obtain ⟨p, vs, e1, e2, e3⟩ := rd_tup (mono r e _ _ x)
  cases e1
  refine ⟨fun d hd => ?_, fun hn => ⟨vs, e2, ?_⟩⟩
  · obtain ⟨v, e4, e5⟩ := e3.get hd
    refine ⟨⟨vs, v, e2, e4⟩, fun y H' ⟨e6, e7⟩ => ⟨ω', e6.symm, Ext.refl _, r', ?_⟩⟩
    have := e7 vs e2
    rw [e4] at this
    cases this
    exact e5
  · rw [← e3.len]; exact List.getElem?_eq_none_iff.mp hn
def isTup : D → Bool
  | .tup _ => true
  | _ => false
theorem rdl_of_seq {xs : List D} (hn : isTup d = false) (e : seqD h d = some xs) : rdlD h d = some xs := by
  cases d <;> simp [isTup] at hn <;> first | exact e | (simp [seqD] at e)
theorem di_seq {tg : Expr} (he : DE X W e m) : DI X W tg e (iSeq m) := di_of (pi_or (pi_list he) (pi_tup he)) fun σ H R ⟨ω, h, ds, e1, r, s, p⟩ => by
  subst e1
  have p' : Post X.K X.mg W σ ω (ItOk X.K) R ((m ds h).bd fun d h1 => match seqD h1 d with
    | some xs => .ok ⟨xs, chkQ d xs⟩ h1
    | none => .bad) := p
  cases q : m ds h with
  | ok d h1 =>
    by_cases ht : isTup d = true
    · refine .inr ⟨ω, h, ds, rfl, r, s, ?_⟩
      rw [q]
      intro v ω1 e1 r1 d1
      rw [q] at p'
      cases d <;> simp [isTup] at ht
      rename_i xs
      obtain ⟨a, vs, rfl, e4, e5⟩ := rd_tup d1
      exact ⟨a, rfl, ⟨vs, e4⟩, (show Post X.K X.mg W σ ω (ItOk X.K) R (.ok ⟨xs, chkQ (.tup xs) xs⟩ h1) from p') _ ω1 e1 r1 (itOk_tup r1 d1)⟩
    · have ht' : isTup d = false := by simpa using ht
      refine .inl ⟨ω, h, ds, rfl, r, s, ?_⟩
      rw [q]
      intro v ω1 e1 r1 d1
      rw [q] at p'
      simp only [Mp.R.bd_ok] at p'
      split at p'
      · rename_i xs q2
        obtain ⟨a, vs, rfl, e4, e5⟩ := rdlD_rel r1 (rdl_of_seq ht' q2) d1
        exact ⟨a, rfl, ⟨vs, e4⟩, p' _ ω1 e1 r1 (itOk_list r1 d1 fun h' z => rdl_of_seq ht' z)⟩
      · exact False.elim p'
  | ex x fs vs h1 =>
    refine .inl ⟨ω, h, ds, rfl, r, s, ?_⟩
    rw [q] at p' ⊢; exact p'
  | bad => rw [q] at p'; exact False.elim p'
/-- range -/
def upFrom (lo : Int) (n : Nat) : List D := (List.range n).map fun (i : Nat) => D.int (lo + (i : Int))
def iRg1 (as : SA) : SI := fun ds h => (as ds h).bd fun xs h1 => match xs with
  | [.int j] => if -(2 ^ 62) ≤ j ∧ j < 2 ^ 62 then .ok ⟨upFrom 0 j.toNat, fun _ => true⟩ h1 else .bad
  | _ => .bad
def iRg2 (as : SA) : SI := fun ds h => (as ds h).bd fun xs h1 => match xs with
  | [.int i, .int j] => if -(2 ^ 62) ≤ i ∧ i < 2 ^ 62 ∧ -(2 ^ 62) ≤ j ∧ j < 2 ^ 62 then .ok ⟨upFrom i (j - i).toNat, fun _ => true⟩ h1 else .bad
  | _ => .bad
theorem itOk_rng {lo : Int} {n : Nat} : ItOk K ω ⟨upFrom lo n, fun _ => true⟩ (Itr lo n) := fun i ω' h' e r' hk => by
  unfold upFrom
  refine ⟨fun d hd => ?_, fun hn => ?_⟩
  · by_cases hi : i < n
    · have : d = .int (lo + (i : Int)) := by
        simp [List.getElem?_map, List.getElem?_range hi] at hd
        exact hd.symm
      subst this
      refine ⟨hi, fun y H' ⟨e6, e7⟩ => ⟨ω', e6.symm, Ext.refl _, r', ?_⟩⟩
      rw [e7]; exact int_rd
    · rw [List.getElem?_map, List.getElem?_eq_none (by simpa using Nat.not_lt.mp hi)] at hd; cases hd
  · simp only [List.getElem?_map, Option.map_eq_none_iff, List.getElem?_eq_none_iff, List.length_range] at hn
    exact hn
theorem di_rg1 {tg : Expr} (h : PI X tg e (iRng1 (tA X W as))) : DI X W tg e (iRg1 as) := di_of h fun σ H R ⟨ω, h, ds, e1, r, s, p⟩ => by
  subst e1
  refine ⟨ω, h, ds, rfl, r, s, Post.bd (show Post X.K X.mg W σ ω _ R ((as ds h).bd _) from p) fun xs h1 vs ω1 e1 r1 d1 p1 => ?_⟩
  split at p1
  · rename_i j
    obtain ⟨hc, p1⟩ := p1.if_
    obtain ⟨v, ws, rfl, e2, e3⟩ := d1.inv
    rw [e3.inv0, rd_int e2]
    exact ⟨j, rfl, hc.1, hc.2, p1 _ ω1 (Ext.refl _) r1 itOk_rng⟩
  · exact False.elim p1
end
end Mp
/-! LayG: truth, defs as they stand behind the top, the end. -/
namespace Mp
open PySem PySem.Spec PyProof.Rows L2
section
variable {X : Cx} {W : WX} {K : PySem.W.Frag} {mg : Str → Option Value} {ω ω' : Wo} {h h' : Hc} {d : D} {v : V} {e a b : Expr} {es : List Expr} {m ma mb : SE} {as : SA} {pos p : Pos} {x : Str}
/-! ### truth -/
def truD (h : Hc) : D → Option Bool
  | .non => some false
  | .bl b => some b
  | .int i => some (i != 0)
  | .str z => if z.length ≤ lim then some ((z.length : Int) != 0) else none
  | d => match seqD h d with
    | some xs => some (!xs.isEmpty)
    | none => match dctD h d with
      | some (ks, _) => some (!ks.isEmpty)
      | none => none
theorem emp_len {α β : Type} : ∀ {xs : List α} {ys : List β}, xs.length = ys.length → xs.isEmpty = ys.isEmpty
  | [], [], _ => rfl
  | [], _ :: _, e => by simp at e
  | _ :: _, [], e => by simp at e
  | _ :: _, _ :: _, _ => rfl
theorem truD_rel {k : Bool} (r : Rel K ω h) (e : truD h d = some k) (x : RelD K ω d v) : TruV K v ω.H k := by
  have go : ∀ d, RelD K ω d v → (match seqD h d with
    | some xs => some (!xs.isEmpty)
    | none => match dctD h d with
      | some (ks, _) => some (!ks.isEmpty)
      | none => none) = some k → TruV K v ω.H k := by
    intro d x e
    split at e
    · rename_i xs q
      cases e
      obtain ⟨a, us, rfl, e4, e5⟩ := seqD_rel r q x
      rcases e4 with e4 | e4
      · exact .inr (.inl ⟨us, e4, by rw [emp_len e5.len]⟩)
      · exact .inl ⟨us, e4, by rw [emp_len e5.len]⟩
    · split at e
      · rename_i ks ds q
        cases e
        obtain ⟨a, us, rfl, e5, e6, e7⟩ := dctD_rel r q x
        exact .inr (.inr ⟨_, e5, by rw [emp_len (zip_len e6)]⟩)
      · cases e
  cases d with
  | non => simp only [truD, Option.some.injEq] at e; rw [rd_non x]; exact (show k = false from e.symm)
  | bl b => simp only [truD, Option.some.injEq] at e; rw [rd_bl x]; exact (show k = b from e.symm)
  | int i => simp only [truD, Option.some.injEq] at e; rw [rd_int x]; exact (show k = (i != 0) from e.symm)
  | str z =>
    simp only [truD] at e
    by_cases hl : z.length ≤ lim
    · rw [if_pos hl] at e; cases e; rw [rd_str x]; exact ⟨lim_le hl, rfl⟩
    · rw [if_neg hl] at e; cases e
  | tup xs => exact go _ x e
  | lst xs => exact go _ x e
  | scr xs => exact go _ x e
  | dct ks xs => exact go _ x e
  | ref i => exact go _ x e
  | ty t => exact go _ x e
def bTru (m : SE) : SB := fun ds h => (m ds h).bd fun x h1 => match truD h1 x with
  | some b => .ok b h1
  | none => .bad
theorem dt_tru (ha : DE X W e m) (he : ∀ whole, isTrue e X.env whole = (do let v ← whole; standAt e.pos; holding [v] (truthy v)) := by intro _; rfl) : DT X W e (bTru m) :=
  dt_of (pt_truth ha he) fun σ H Q ⟨ω, h, ds, e1, r, s, p⟩ => by
    subst e1
    refine ⟨ω, h, ds, rfl, r, s, Post.bd (show Post X.K X.mg W σ ω _ Q ((m ds h).bd _) from p) fun x h1 v ω1 e1 r1 d1 p1 => ?_⟩
    split at p1
    · rename_i b q
      exact ⟨b, truD_rel r1 q d1, p1 b ω1 (Ext.refl _) r1 rfl⟩
    · exact False.elim p1
end
/-! ### a def of the text -/
def DefAt (K : PySem.W.Frag) (mg : Str → Option Value) (x qual : Str) (st : Stmt) (ps : List Str) : Prop := ∃ (f : Addr) (fd : FuncData), mg x = some (.ref f) ∧ Fun K x qual st f fd ∧ Binds K fd ps []
/-- a def that is as its data function says -/
def Good (P : Program) (w : World) (K : PySem.W.Frag) (mg : Str → Option Value) (base : Heap) (x : Str) (k : Nat) (ps : List Str) (m : Fn) : Prop :=
  ∃ (f : Addr) (fd : FuncData), mg x = some (.ref f) ∧ PySem.W.keepIn K (.ref f) = true ∧ Binds K fd ps [] ∧ (∃ oc od sl, K.lookup f = some ⟨oc, od, .func fd, sl⟩) ∧ FnOk P w K mg base (L2.CX P w) k f fd ps (spD K mg ps.length m)
section
variable {P : Program} {w : World} {K : PySem.W.Frag} {mg : Str → Option Value} {base : Heap} {x qual : Str} {st : Stmt} {ps N : List Str} {k j : Nat} {m : SS}
theorem fun_lk {f : Addr} {fd : FuncData} (F : Fun K x qual st f fd) : ∃ oc od sl, K.lookup f = some ⟨oc, od, .func fd, sl⟩ := by
  obtain ⟨oc, od, kV, doc, pm, an, cdv, ct, osl, rfl, lk, hcd⟩ := F.ex
  exact ⟨oc, od, osl, lk⟩
abbrev DefX (P : Program) (w : World) (K : PySem.W.Frag) (mg : Str → Option Value) (base : Heap) (N : List Str) (qual : Str) (st : Stmt) (f : Addr) (cdv : Value) (A : Around) (outer : List Env) (s : Shared) (H : Hp) (E : XK) : Cx := cxOf (L2.CX P w) P w K mg base N qual (defScope st) f cdv A outer s H E
theorem DefAt.good (D : DefAt K mg x qual st ps) (S : FnScope N ps (defScope st))
    (hb : ∀ (f : Addr) (cdv : Value) (A : Around) (outer : List Env) (s : Shared) (H : Hp) (E : XK), Room k (DefX P w K mg base N qual st f cdv A outer s H E).A → DSs (DefX P w K mg base N qual st f cdv A outer s H E) (WF E) (defBody st) m) :
    Good P w K mg base x (k + 1) ps (runB N.length m) := by
  obtain ⟨f, fd, g, F, b⟩ := D
  exact ⟨f, fd, g, F.kp, b, fun_lk F, fn_ok F S fun cdv A outer s H E hr => hb f cdv A outer s H E hr⟩
/-- nothing is claimed -/
theorem DefAt.none (D : DefAt K mg x qual st ps) (S : FnScope N ps (defScope st)) : Good P w K mg base x 1 ps (fun _ _ => .bad) := by
  obtain ⟨f, fd, g, F, b⟩ := D
  refine ⟨f, fd, g, F.kp, b, fun_lk F, (fn_ok (k := 0) (m := sBad) F S fun cdv A outer s H E hr => ⟨fun pins s σ H E I ⟨ω, h, ds, e1, r, s', p⟩ => False.elim p⟩).imp fun vs H Q E z => ?_⟩
  obtain ⟨_, ω, h, ds, _, _, _, p⟩ := z
  exact False.elim p
theorem Good.mono {m : Fn} (G : Good P w K mg base x j ps m) (h : j ≤ k) : Good P w K mg base x k ps m := by
  obtain ⟨f, fd, g, kp, b, lk, F⟩ := G
  exact ⟨f, fd, g, kp, b, lk, F.mono h⟩
end
section
variable {X : Cx} {W : WX} {e : Expr} {es : List Expr} {as : SA} {m : Fn} {pos p : Pos} {x : Str} {ps : List Str} {k : Nat}
theorem dc (tk : Takes X W) (G : Good X.prog X.w X.K X.mg X.base x k ps m) (hr : Room k X.A) (hg : Gl X x) (hn : (e :: es).length = ps.length) (hl : ∀ ds h xs h', as ds h = .ok xs h' → xs.length = (e :: es).length) (ha : DA X W (e :: es) as)
    (hdb : (x == ("__debug__" : Str)) = false := by decide) (he : starEach (e :: es) X.env = (false, eval e X.env) :: starEach es X.env := by rfl) (hpl : (backTo pos (starEach es X.env)).any (·.1) = false := by rfl) : DE X W (.Call (.Name x p) (e :: es) [] pos) (eCall m as) := by
  obtain ⟨f, fd, g, kp, b, _, F⟩ := G
  exact de_call tk F hr hg g kp b hn hl ha hdb he hpl
/-- a value of the top: d stands for it in every world -/
def TopVal (K : PySem.W.Frag) (mg : Str → Option Value) (x : Str) (d : D) : Prop := ∃ (u : Value) (v : V), mg x = some u ∧ RelV v u ∧ ∀ ω : Wo, RelD K ω d v
theorem de_top {d : D} (hg : Gl X x) (T : TopVal X.K X.mg x d) (hd : (x == ("__debug__" : Str)) = false := by decide) : DE X W (.Name x pos) (eC d) := by
  obtain ⟨u, v, h1, h2, h3⟩ := T
  exact de_c (pe_glob hg h1 h2 hd) h3
/-- a built-in type as a value -/
theorem de_bty {n : String} (hg : Gl X x) (hm : X.mg x = none) (hv : bootBuiltins x = some (.type n)) (hn : x ≠ "__name__" := by decide) (hd : (x == ("__debug__" : Str)) = false := by decide) : DE X W (.Name x pos) (eC (.ty n)) :=
  de_c (v := .ty n) (pe_bltn hg hm hv (show RelV (.ty n) (.type n) from rfl) hn hd) fun _ => ty_rd
end
section
variable {X : Cx} {W : WX} {K : PySem.W.Frag} {mg : Str → Option Value} {ω ω' : Wo} {h h' : Hc} {d : D} {v : V} {e a b : Expr} {es : List Expr} {m ma mb : SE} {as : SA} {pos : Pos}
theorem hu_of64 {k : Nat} (hr : Room k X.A) : X.A.units + 64 < cLine := by have := hr.un; omega
/-! ### targets, comprehensions, as they are printed -/
theorem dgsC {p : Pt} {ps : List Pt} (h1 : DG X e p) (h2 : DGs X es ps) (h : PG X e (tP X.K p) → PGs X es (tPs X.K ps) → PGs X (e :: es) (gCons (tP X.K p) (tPs X.K ps))) : DGs X (e :: es) (p :: ps) := dgs_cons h1 h2 (h h1 h2)
theorem dgT {k : Nat} {ps : List Pt} (hc : X.calm = true) (h : DGs X es ps) (h1 : PGs X es (tPs X.K ps) → PG X (.Tuple es k pos) (gTup X.K ps.length (tPs X.K ps))) (h2 : PGs X es (tPs X.K ps) → PG X (.Tuple es k pos) (gLst X.K ps.length (tPs X.K ps))) : DG X (.Tuple es k pos) (.t ps) := dg_t hc h (h1 h) (h2 h)
theorem dts_nil : PTs X [] (tT X W (fun _ h => .ok true h)) := ⟨fun pins s σ H Q I q => pts_nil.run pins s σ H Q I (by
  obtain ⟨ω, h, ds, e1, r, s, p⟩ := q
  subst e1
  exact p _ ω (Ext.refl _) r rfl)⟩
theorem dts_one {t : SB} (h : DT X W e t) : PTs X [e] (tT X W t) := pts_one h
theorem ds_setLc {i : Nat} {st : Stmt} {mi : SI} {p : Pt} {own : List Nat} {c : SB} (ho : ∀ i ∈ p.slots, i ∈ own) (h : PS X st (tAsg (tLc (tI X W mi) (tP X.K p) (tT X W0 c) (tE X W0 m) own) (gName i))) : DS X W st (sSet i (eLc mi p own c m)) := ds_of h fun E σ H ⟨ω, h, ds, e1, r, s, q⟩ => by
  subst e1
  refine lcW (W := W) (fin := fun xs h => .ok (.lst xs) h) ho lc_fz σ ω.H _ ⟨ω, h, ds, rfl, r, s, ?_⟩
  exact PostO.bd r s q fun d h1 v ω' e r1 rd s1 p1 => p1 _ ω' (Ext.refl _) r1 (s1.set i rd)
/-- x, y = a, b -/
def sPar (i j : Nat) (as : SA) : SS := fun ds h => sBd (as ds h) ds fun xs h1 => match xs with
  | [x, y] => .nx ((ds.set i (some x)).set j (some y)) h1
  | _ => .bad
abbrev addI := i0F fun i j => .int (i + j)
theorem opd_addI : OpD X (rI0 fun i j => .int (i + j)) addI := opd_i0 fun _ _ _ => int_rd
abbrev mulI := iF (fun i j => decide (-(2 ^ 64) < i ∧ i < 2 ^ 64) || decide (-(2 ^ 64) < j ∧ j < 2 ^ 64)) fun i j => .int (i * j)
end
/-! ### the end -/
/-- the script: a list that is locked or written, or one of the caller's own -/
def scD (b : Bool) (xs : List D) : D := if b = true then .scr xs else .lst xs
def spTrue (K : PySem.W.Frag) : Sp := fun vs H Q _ => ∃ (a : Addr) (ns : List Int), vs = [.ref a] ∧ TabsK K H ∧ SqL K H a (ns.map V.int) ∧ ns.length ≤ 63 ∧ ∀ H', Q (.bl true) H'
theorem scr_rel {K : PySem.W.Frag} {H : Hp} {a : Addr} {ns : List Int} (h : SqL K H a (ns.map V.int)) : ∃ b, RelD K ⟨fun _ => False, fun _ => 0, 0, H⟩ (scD b (ns.map D.int)) (.ref a) := by
  rcases h with (h | ⟨o, h⟩) | h
  · refine ⟨false, ?_⟩
    show RelD K _ (.lst (ns.map D.int)) (.ref a)
    unfold RelD
    exact ⟨a, _, rfl, ⟨h, fun z => z⟩, RelL.of_ints ns⟩
  · refine ⟨true, ?_⟩
    show RelD K _ (.scr (ns.map D.int)) (.ref a)
    unfold RelD
    exact ⟨a, _, rfl, .inl ⟨o, h⟩, RelL.of_ints ns⟩
  · refine ⟨true, ?_⟩
    show RelD K _ (.scr (ns.map D.int)) (.ref a)
    unfold RelD
    exact ⟨a, _, rfl, .inr h, RelL.of_ints ns⟩
/-- the law's promise from its data function -/
theorem law_sp {K : PySem.W.Frag} {mg : Str → Option Value} {m : Fn} (hm : ∀ (b : Bool) (ns : List Int), ns.length ≤ 63 → ∃ h, m [scD b (ns.map D.int)] [] = .ok (.bl true) h) {vs : List V} {H : Hp} {Q : VK} {E : XK} (h : spTrue K vs H Q E) : spD K mg 1 m vs H Q E := by
  obtain ⟨a, ns, rfl, hO, hS, hl, q⟩ := h
  obtain ⟨b, hb⟩ := scr_rel hS
  obtain ⟨h', e⟩ := hm b ns hl
  refine ⟨rfl, ⟨fun _ => False, fun _ => 0, 0, H⟩, [], [scD b (ns.map D.int)], rfl, ⟨rfl, fun i j hi => absurd hi (Nat.not_lt_zero _), fun i hi => absurd hi (Nat.not_lt_zero _), fun q z => False.elim z, fun i c hi => by simp at hi, hO⟩, RelL.cons hb RelL.nil, ?_⟩
  rw [e]
  intro v ω' _ _ rv
  rw [rd_bl rv]
  exact q _
/-- the law's own code object and its table -/
structure LawTab (K : PySem.W.Frag) (mg : Str → Option Value) (base : Heap) (c P : Addr) : Prop where
  tb : LamX.TabB base mg c P
  ht : PySem.W.tabIn K "law" = some (c, P)
theorem walk_law {l : PySem.W.OpenLaw} {k : Nat} {q : Program} {loose : List Str} {XP : (Str → Option Value) → Heap → Prop} {YP : World → Heap → Prop} {d : DefRec} {K : Params → PySem.W.Frag} (hn : l.most = some 63) (hdf : d.params.defaults = []) (hr : Room k callerA)
    (hY : ∀ (w : World) (h : Heap), YP w h → (K w.params).In h)
    (rt : ∃ rd, (recsOf q).find? (fun e => e.name == ("law" : Str)) = some rd)
    (F : ∀ (w : World) (mg : Str → Option Value) (fa : Addr) (h : Heap), (K w.params).In h → h.Ns mainGlobals mg → mg d.name = some (.ref fa) →
      ∃ (fd : FuncData) (c P : Addr), PySem.W.tabIn (K w.params) "law" = some (c, P) ∧ (K w.params).lookup P = none ∧ (∀ (s : Shared) (u : Value), BindsTo s fd ⟨[u], []⟩ [("script", u)]) ∧
        ∀ base : Heap, (K w.params).In base → base.Ns mainGlobals mg → LawTab (K w.params) mg base c P → FnOk l.prog w (K w.params) mg base (L2.CX l.prog w) k fa fd ["script"] (spTrue (K w.params))) :
    PySem.W.WalkO q loose XP YP l.row.toRowW d [] (fun f vs => PySem.call f vs) := by
  refine Att.attach_callB hn hdf fun w s₀ s₁ mg mb fa o pm cd doc a vs ns G Y ho hd hcd hmg hobj hints hlen hbits hg => ?_
  have KX := hY w _ Y
  obtain ⟨fd, c, P, ht, nT, hb, hF⟩ := F w mg fa _ KX G.T.g hmg
  obtain ⟨rd, hrd⟩ := rt
  obtain ⟨hc, hP⟩ := PySem.W.tab_of G.T KX hrd ht
  refine LamX.law_callTs (cs := [(c, P)]) (sp := spTrue (K w.params)) KX G.T.g G.T.b G.T.builtins G.T.nolimit hg (fun p hp => ?_) (fun p hp => ?_) (fun p hp => ?_) G.T.bmain hobj hints (Nat.le_trans hlen (by decide)) hr
    (fun base hk hns tb => hF base hk hns ⟨tb (c, P) (by simp), ht⟩) hb (fun H hH hS => ⟨a, ns, rfl, ?_, hS, hlen, fun _ => rfl⟩) fun H e s' z => ?_
  · have e : p = (c, P) := by simpa using hp
    rw [e]; exact hP
  · have e : p = (c, P) := by simpa using hp
    rw [e]; exact nT
  · have e : p = (c, P) := by simpa using hp
    rw [e]; exact hc
  · have e : tabT (K w.params) = [(P, ("law.<locals>.<lambda>" : Str))] := by unfold tabT; rw [ht]
    unfold TabsK
    rw [e]
    intro p hp
    have e2 : p = (P, ("law.<locals>.<lambda>" : Str)) := by simpa using hp
    rw [e2]
    exact LamX.TabS.nil (hH (c, P) (by simp))
  · obtain ⟨_, _, _, _, _, _, _, _, _, _, _, _, e⟩ := z
    exact e
end Mp
/-! LayH: min, max, lcm; what is walked with its number. -/
namespace Mp
open PySem PySem.Spec PyProof.Rows L2
/-! ### enumerate of a tuple -/
theorem enumB1 {v : Value} {ob : Obj} {Z : Heap → Prop} (B : Begins v ob Z) :
    Meets (Builtin.«enumerate.__new__» ⟨[.type "enumerate", v], []⟩) (fun _ R z => Z z.heap ∧
      R (.ok (.ret (.ref (z.heap.push ob).objs.size))) { z with heap := (z.heap.push ob).push { cls := .type "enumerate", data := .fields #[.none, .bool false, .ref z.heap.objs.size, rawInt 0, .none, .none] } }) :=
  .of_wp fun prog w A R z q => by
    obtain ⟨hp, gg, dd, tk, oo⟩ := z
    obtain ⟨q1, q2⟩ := q
    have hsub := sub_enumerate
    have go : ∀ {A' : Around} {E' : Value → Shared → Prop} {Q' : Value → Shared → Prop}, Q' (.ref hp.objs.size) ⟨hp.push ob, gg, dd, tk, oo⟩ → wpAny (model prog w) A' (pyIter v) Q' E' ⟨hp, gg, dd, tk, oo⟩ :=
      fun x => B.iter prog w _ _ ⟨hp, gg, dd, tk, oo⟩ _ q1 x
    wp_walk
    refine wpAny_stack_any fun _ => wpAny_pure ?_
    split
    · rename_i c _ _ _ _ _
      cases (c == Value.type "enumerate") <;> (wp_walk using go; exact ⟨_, rfl, q2⟩)
    · wp_walk using go
      exact ⟨_, rfl, q2⟩
theorem enum_one {prog : Program} {w : World} {A : Around} {E : Value → Shared → Prop} {z : Shared} {v : Value} {ob : Obj} {Z : Heap → Prop} {Q : Value → Shared → Prop} (B : Begins v ob Z) (q1 : Z z.heap)
    (q : ∀ h2, IsEnum h2 (z.heap.objs.size + 1) z.heap.objs.size 0 .none → h2.get? z.heap.objs.size = some ob → (∀ b u, z.heap.get? b = some u → h2.get? b = some u) → Q (.ref (z.heap.objs.size + 1)) { z with heap := h2 }) :
    wpAny (model prog w) A (call (.type "enumerate") [v]) Q E z := by
  refine callType_new F.called_enumerate (by decide) (F.typeCall_enumerate_1 _) (F.newCall_enumerate_1 _) (fun b => F.args_object_init_2 b _) F.entry_enumerate_new (enumB1 B) ⟨q1, ?_⟩
  have sz : (z.heap.push ob).objs.size = z.heap.objs.size + 1 := Heap.size_push ..
  show _ ∧ _
  rw [sz]
  have he : IsEnum ((z.heap.push ob).push { cls := .type "enumerate", data := .fields #[.none, .bool false, .ref z.heap.objs.size, rawInt 0, .none, .none] }) (z.heap.objs.size + 1) z.heap.objs.size 0 .none := by
    have e := Heap.get?_push_size (z.heap.push ob) (o := { cls := .type "enumerate", data := .fields #[.none, .bool false, .ref z.heap.objs.size, rawInt 0, .none, .none] }) rfl
    rw [sz] at e; exact e
  exact ⟨⟨_, he, rfl⟩, q _ he (Heap.get?_push_of_some _ (Heap.get?_push_size _ B.free)) fun b u x => Heap.get?_push_of_some _ (Heap.get?_push_of_some _ x)⟩
/-- the tuple at a, each item in a new pair -/
def ItE (K : PySem.W.Frag) (a : Addr) : It where
  go i H := ∃ (xs : List V) (x : V), SqT K H a xs ∧ xs[i]? = some x
  yld i H v H' := ∃ T x, v = .ref T ∧ H T = none ∧ H' = upd H T (.tup [.int (i : Nat), x]) ∧ ∀ xs, SqT K H a xs → xs[i]? = some x
  stop i H := ∃ xs : List V, SqT K H a xs ∧ xs.length ≤ i
theorem turn_enT {P : Program} {w : World} {K : PySem.W.Frag} {elts : List Expr} {kk : Nat} {tpos : Pos} (a e it : Addr) (hai : a ≠ it) (hae : e ≠ a) :
    Turn P w K (.Tuple elts kk tpos) (ItE K a) [e, it] e (fun i g => (∃ old, IsEnum g e it ((i : Nat) : Int) old) ∧ g.IsTupleIter it a i ∧ e ≠ it) where
  mem := by simp
  obj := fun i g st b hb => by
    obtain ⟨⟨old, he⟩, ⟨u, hu, hc, hd⟩, _⟩ := st
    have z : b = e ∨ b = it := by simpa using hb
    rcases z with rfl | rfl
    · exact ⟨_, he, fun v q => nomatch q⟩
    · exact ⟨u, hu, fun v q => by rw [hd] at q; cases q⟩
  keep := fun i g g' st k => by
    obtain ⟨⟨old, he⟩, hi, hne⟩ := st
    exact ⟨⟨old, k e (by simp) _ he⟩, hi.at fun u q => k it (by simp) u q, hne⟩
  item := by
    intro X hP hw hK hc i pins s σ H E I hf st hg
    subst hP hw hK
    obtain ⟨⟨old, he⟩, hit, hne⟩ := st
    obtain ⟨xs, x, hq, hx⟩ := hg
    obtain ⟨its, rv, p, _⟩ := I.tuple hq
    obtain ⟨u, hu, ru⟩ := rv.get hx
    have lte : e < s.heap.objs.size := Heap.lt_size he
    have lti : it < s.heap.objs.size := by obtain ⟨_, q, _⟩ := hit; exact Heap.lt_size q
    have hlt : i < its.toArray.size := by
      have := (List.getElem?_eq_some_iff.mp hu).1
      simpa using this
    refine wpAny_pyNext_enum_itemD (Draws.tuple (prog := X.prog) (w := X.w) (A := X.A.in1) (show X.A.in1.handled = none from I.ok.hd hc) it a hai its.toArray) he ⟨hit, p⟩ hlt hne (by simp [hne, hae]) fun y h1 tk py ho st1 hT hsz hk => ?_
    have ey : y = u := by
      have : its.toArray[i]? = some u := by simpa using hu
      rw [this] at py; exact (Option.some.inj py).symm
    subst ey
    refine ⟨_, rfl, wpAny_letOwnedTupleGo_enum (s := { s with heap := h1, toks := tk + 1 }) ho fun h2 he2 sb => ?_⟩
    have hT2 := (sb.2 s.heap.objs.size (Nat.ne_of_gt lte)).trans hT
    have new : ObjOk X.prog X.w (upd H s.heap.objs.size (.tup [.int (i : Nat), x])) h2 s.heap.objs.size (.tup [.int (i : Nat), x]) := by
      refine ⟨by show 2 ≤ sizeLine; decide, [.int i tk, y], .cons ⟨_, rfl⟩ (.cons ru .nil), ?_⟩
      exact ⟨_, hT2, rfl, _, rfl⟩
    have I1 : Inv X pins σ (upd H s.heap.objs.size (.tup [.int (i : Nat), x])) { s with heap := h2, toks := tk + 1 } :=
      I.turnedNew (ch := [e, it]) (fun b ob hb q => by
        have n1 : b ≠ e := fun z => hb (by simp [z])
        have n2 : b ≠ it := fun z => hb (by simp [z])
        exact (sb.2 b n1).trans (hk b ob n1 n2 q)) hf (Nat.le_refl _) new
    refine ⟨.ref s.heap.objs.size, _, I1, rfl, ⟨_, x, rfl, I.hok.fresh (Nat.le_refl _), rfl, fun ys hy => by rw [I.tuple_inj hy hq]; exact hx⟩, ⟨⟨y, ?_⟩, st1.1.at fun u q => (sb.2 it (Ne.symm hne)).trans q, hne⟩, fun b hb => ?_⟩
    · have z : ((i + 1 : Nat) : Int) = (i : Int) + 1 := by omega
      rw [z]; exact he2
    · have z : b = e ∨ b = it := by simpa using hb
      have lb : b < s.heap.objs.size := by
        rcases z with rfl | rfl
        · exact lte
        · exact lti
      rw [upd_ne (Nat.ne_of_lt lb)]
      exact (hf b hb).1
  done := by
    intro X hP hw hK hc i pins s σ H E I hf st hg
    subst hP hw hK
    obtain ⟨⟨old, he⟩, hit, hne⟩ := st
    obtain ⟨xs, hq, hx⟩ := hg
    obtain ⟨its, rv, p, _⟩ := I.tuple hq
    obtain ⟨f0, f1, f2, f3, f4, f5⟩ := hf it (by simp)
    have hl := rv.length
    have D : Draws X.prog X.w X.A.in1 it [it, a] i (fun _ _ => True) (fun j g => j = i ∧ g.IsTupleIter it a i ∧ g.IsTuple a its.toArray) := {
      live := fun j g st2 => by
        obtain ⟨_, ⟨u, hu, _⟩, _⟩ := st2
        exact ⟨u, hu⟩
      frame := fun j g g' st2 k => ⟨st2.1, st2.2.1.at fun u q => k it (by simp) u q, st2.2.2.at fun u q => k a (by simp) u q⟩
      item := fun j s2 Q2 E2 hj st2 hQ2 => absurd st2.1 (Nat.ne_of_lt hj)
      done := fun s2 Q2 E2 st2 hE2 => wpAny_nextOf_tuple_end (show X.A.in1.handled = none from I.ok.hd hc) st2.2.1 st2.2.2 (by simp; omega) hE2 }
    exact wpAny_pyNext_enum_endD D he ⟨rfl, hit, p⟩ fun h1 eb => ⟨rfl, I.turned (t' := s.toks) (fun b u hb q => eb b u hb q) f0 f1 f3 f4 f5⟩
  self := fun A i s Q E st q => by
    obtain ⟨⟨old, he⟩, _⟩ := st
    exact wpAny_pyIter_enum he q
/-- enumerate of a list or of a tuple -/
def iEnB (K : PySem.W.Frag) (ta : TA) : TI := fun σ H R => ta σ H fun vs H1 => ∃ a xs, vs = [.ref a] ∧ ((SqL K H1 a xs ∧ R (Ite K a) H1) ∨ (SqT K H1 a xs ∧ R (ItE K a) H1))
theorem pi_enB {X : Cx} {e : Expr} {ta : TA} {p pos tpos : Pos} {elts : List Expr} {kk : Nat} (hg : Gl X "enumerate") (hm : X.mg "enumerate" = none) (ha : PA X [e] ta) (st : starEach [e] X.env = [(false, eval e X.env)] := by rfl) :
    PI X (.Tuple elts kk tpos) (.Call (.Name "enumerate" p) [e] [] pos) (iEnB X.K ta) := by
  refine ⟨fun pins s σ H R I q => ?_⟩
  refine Call_ (ld_blt I hg hm boot_enumerate (PyProof.Rows.callWith_type1 (thn (ha.run pos pins s σ H _ I q) fun us s1 ⟨vs, H1, I1, r1, q1⟩ => ?_) st rfl))
  obtain ⟨a, xs, rfl, q1⟩ := q1
  obtain ⟨u, rfl, r⟩ := vals1 r1
  cases r
  have fresh : ∀ b ∈ [s1.heap.objs.size + 1, s1.heap.objs.size], FpOk X pins H1 b := fun b hb => by
    have hle : s1.heap.objs.size ≤ b := by
      simp only [List.mem_cons, List.not_mem_nil, or_false] at hb
      omega
    exact I1.fpOk hle (I1.hok.fresh hle)
  rcases q1 with ⟨hq, q⟩ | ⟨hq, q⟩
  · obtain ⟨its, rv, p1, _⟩ := I1.list hq
    refine call_enumerate_list p1.isList fun h2 he hit _ hk => wpAny_pyIter_enum he ?_
    exact ⟨s1.heap.objs.size + 1, [s1.heap.objs.size + 1, s1.heap.objs.size], _, _, H1, rfl, I1.kept (t' := s1.toks) hk, turn_enum a (s1.heap.objs.size + 1) s1.heap.objs.size, ⟨⟨.none, he⟩, hit, Nat.succ_ne_self _⟩, fresh, q⟩
  · obtain ⟨its, rv, p1, _⟩ := I1.tuple hq
    have lta : a < s1.heap.objs.size := by
      obtain ⟨u, hu, _⟩ := id p1
      exact Heap.lt_size hu
    have ne1 : a ≠ s1.heap.objs.size := Nat.ne_of_lt lta
    have ne2 : s1.heap.objs.size + 1 ≠ a := fun z => Nat.lt_irrefl a (Nat.lt_of_lt_of_le lta (z ▸ Nat.le_succ _))
    refine enum_one (begins_tuple a its.toArray) p1 fun h2 he ho hk => wpAny_pyIter_enum he ?_
    have hit : h2.IsTupleIter s1.heap.objs.size a 0 := ⟨_, ho, rfl, rfl⟩
    exact ⟨s1.heap.objs.size + 1, [s1.heap.objs.size + 1, s1.heap.objs.size], _, _, H1, rfl, I1.kept (t' := s1.toks) hk, turn_enT a (s1.heap.objs.size + 1) s1.heap.objs.size ne1 ne2, ⟨⟨.none, he⟩, hit, Nat.succ_ne_self _⟩, fresh, q⟩
/-- each item with its number -/
def enumD : Nat → List D → List D
  | _, [] => []
  | n, x :: r => .tup [.int n, x] :: enumD (n + 1) r
theorem enumD_get : ∀ (n : Nat) (xs : List D) (i : Nat), (enumD n xs)[i]? = (xs[i]?).map fun x => .tup [.int ((n + i : Nat) : Int), x]
  | n, [], i => by simp [enumD]
  | n, x :: r, 0 => by simp [enumD]
  | n, x :: r, i + 1 => by
    unfold enumD
    rw [List.getElem?_cons_succ, List.getElem?_cons_succ, enumD_get (n + 1) r i]
    have : n + 1 + i = n + (i + 1) := by omega
    rw [this]
def enF (xs : List D) (h : Hc) : R ItD := match xs with
  | [d] => match seqD h d with
    | some ys => .ok ⟨enumD 0 ys, chkQ d ys⟩ h
    | none => .bad
  | _ => .bad
def iEnu (as : SA) : SI := fun ds h => (as ds h).bd enF
theorem pairUp {K : PySem.W.Frag} {ω : Wo} {h : Hc} {T : Addr} {x y : D} {v w : V} (r : Rel K ω h) (hT : ω.H T = none) (rx : RelD K ω x v) (ry : RelD K ω y w) :
    ∃ ω2, ω2.H = upd ω.H T (.tup [v, w]) ∧ Ext ω ω2 ∧ Rel K ω2 h ∧ RelD K ω2 (.tup [x, y]) (.ref T) := by
  refine ⟨ω.up T (.tup [v, w]), rfl, Ext.up hT, r.up hT, ?_⟩
  unfold RelD
  exact ⟨T, _, rfl, .inl (.inl upd_same), monoL r (Ext.up hT) _ _ (.cons rx (.cons ry .nil))⟩
section
variable {K : PySem.W.Frag} {ω : Wo} {h : Hc} {d : D}
theorem itOk_enL {xs : List D} {a : Addr} (r : Rel K ω h) (x : RelD K ω d (.ref a)) (hs : ∀ h', seqD h' d = some xs → rdlD h' d = some xs) : ItOk K ω ⟨enumD 0 xs, chkQ d xs⟩ (Ite K a) := fun i ω' h' e r' hk => by
  replace hk : seqD h' d = some xs := chkQ_spec (show chkQ d xs h' = true from hk)
  obtain ⟨p, vs, e1, e2, e3⟩ := rdlD_rel r' (hs h' hk) (mono r e _ _ x)
  cases e1
  refine ⟨fun y hd => ?_, fun hn => ⟨vs, e2, ?_⟩⟩
  · rw [enumD_get] at hd
    cases q : xs[i]? with
    | none => rw [q] at hd; cases hd
    | some y0 =>
      rw [q] at hd
      simp only [Option.map_some, Option.some.injEq] at hd
      subst hd
      obtain ⟨v, e4, e5⟩ := e3.get q
      refine ⟨⟨vs, v, e2, e4⟩, fun w H' ⟨T, w0, ew, hT, eH, e7⟩ => ?_⟩
      have := e7 vs e2
      rw [e4] at this
      cases this
      obtain ⟨ω2, f1, f2, f3, f4⟩ := pairUp (x := .int ((0 + i : Nat) : Int)) r' hT (int_rd (i := ((0 + i : Nat) : Int))) e5
      subst ew
      refine ⟨ω2, ?_, f2, f3, f4⟩
      rw [eH, f1, Nat.zero_add]
  · rw [enumD_get] at hn
    rw [← e3.len]; exact List.getElem?_eq_none_iff.mp (by simpa using hn)
theorem itOk_enT {xs : List D} {a : Addr} (r : Rel K ω h) (x : RelD K ω (.tup xs) (.ref a)) : ItOk K ω ⟨enumD 0 xs, chkQ (.tup xs) xs⟩ (ItE K a) := fun i ω' h' e r' hk => by
  replace hk : seqD h' (.tup xs) = some xs := chkQ_spec (show chkQ (.tup xs) xs h' = true from hk)
  obtain ⟨p, vs, e1, e2, e3⟩ := rd_tup (mono r e _ _ x)
  cases e1
  refine ⟨fun y hd => ?_, fun hn => ⟨vs, e2, ?_⟩⟩
  · rw [enumD_get] at hd
    cases q : xs[i]? with
    | none => rw [q] at hd; cases hd
    | some y0 =>
      rw [q] at hd
      simp only [Option.map_some, Option.some.injEq] at hd
      subst hd
      obtain ⟨v, e4, e5⟩ := e3.get q
      refine ⟨⟨vs, v, e2, e4⟩, fun w H' ⟨T, w0, ew, hT, eH, e7⟩ => ?_⟩
      have := e7 vs e2
      rw [e4] at this
      cases this
      obtain ⟨ω2, f1, f2, f3, f4⟩ := pairUp (x := .int ((0 + i : Nat) : Int)) r' hT (int_rd (i := ((0 + i : Nat) : Int))) e5
      subst ew
      refine ⟨ω2, ?_, f2, f3, f4⟩
      rw [eH, f1, Nat.zero_add]
  · rw [enumD_get] at hn
    rw [← e3.len]; exact List.getElem?_eq_none_iff.mp (by simpa using hn)
end
section
variable {X : Cx} {W : WX} {e : Expr} {as : SA}
theorem di_enu {tg : Expr} (he : PI X tg e (iEnB X.K (tA X W as))) : DI X W tg e (iEnu as) := di_of he fun σ H R ⟨ω, h, ds, e1, r, s, p⟩ => by
  subst e1
  refine ⟨ω, h, ds, rfl, r, s, Post.bd (show Post X.K X.mg W σ ω _ R ((as ds h).bd _) from p) fun xs h1 vs ω1 e1 r1 d1 p1 => ?_⟩
  unfold enF at p1
  split at p1
  · rename_i d
    obtain ⟨v, ws, rfl, e2, e3⟩ := d1.inv
    rw [e3.inv0]
    split at p1
    · rename_i ys q
      by_cases ht : isTup d = true
      · cases d <;> simp [isTup] at ht
        rename_i zs
        obtain ⟨a, us, rfl, e4, e5⟩ := rd_tup e2
        simp [seqD] at q
        subst q
        exact ⟨a, us, rfl, .inr ⟨e4, p1 _ ω1 (Ext.refl _) r1 (itOk_enT r1 e2)⟩⟩
      · have ht' : isTup d = false := by simpa using ht
        obtain ⟨a, us, rfl, e4, e5⟩ := rdlD_rel r1 (rdl_of_seq ht' q) e2
        exact ⟨a, us, rfl, .inl ⟨e4, p1 _ ω1 (Ext.refl _) r1 (itOk_enL r1 e2 fun h' z => rdl_of_seq ht' z)⟩⟩
    · exact False.elim p1
  · exact False.elim p1
end
/-! ### the least and the most -/
theorem cr_or {X : Cx} {f : Value} {r1 r2 : List V → Hp → VK → Prop} (h1 : CallR X f r1) (h2 : CallR X f r2) : CallR X f (fun xs H Q => r1 xs H Q ∨ r2 xs H Q) := by
  intro pins s σ H xs us Q I r q
  rcases q with q | q
  · exact h1 pins s σ H xs us Q I r q
  · exact h2 pins s σ H xs us Q I r q
def leastI : Int → List Int → Int
  | m, [] => m
  | m, n :: r => leastI (if n < m then n else m) r
def mostI : Int → List Int → Int
  | m, [] => m
  | m, n :: r => mostI (if m < n then n else m) r
theorem leastI_spec : ∀ (r : List Int) (m : Int), leastI m r ∈ m :: r ∧ ∀ y ∈ m :: r, leastI m r ≤ y
  | [], m => by simp [leastI]
  | n :: r, m => by
    obtain ⟨h1, h2⟩ := leastI_spec r (if n < m then n else m)
    unfold leastI
    by_cases c : n < m
    · rw [if_pos c] at h1 h2 ⊢
      refine ⟨List.mem_cons_of_mem _ h1, fun y hy => ?_⟩
      rcases List.mem_cons.mp hy with rfl | hy
      · have := h2 n (by simp); omega
      · exact h2 y hy
    · rw [if_neg c] at h1 h2 ⊢
      refine ⟨?_, fun y hy => ?_⟩
      · rcases List.mem_cons.mp h1 with q | q
        · rw [q]; simp
        · exact List.mem_cons_of_mem _ (List.mem_cons_of_mem _ q)
      · rcases List.mem_cons.mp hy with rfl | hy
        · exact h2 _ (by simp)
        · rcases List.mem_cons.mp hy with rfl | hy
          · have := h2 m (by simp); omega
          · exact h2 y (List.mem_cons_of_mem _ hy)
theorem mostI_spec : ∀ (r : List Int) (m : Int), mostI m r ∈ m :: r ∧ ∀ y ∈ m :: r, y ≤ mostI m r
  | [], m => by simp [mostI]
  | n :: r, m => by
    obtain ⟨h1, h2⟩ := mostI_spec r (if m < n then n else m)
    unfold mostI
    by_cases c : m < n
    · rw [if_pos c] at h1 h2 ⊢
      refine ⟨List.mem_cons_of_mem _ h1, fun y hy => ?_⟩
      rcases List.mem_cons.mp hy with rfl | hy
      · have := h2 n (by simp); omega
      · exact h2 y hy
    · rw [if_neg c] at h1 h2 ⊢
      refine ⟨?_, fun y hy => ?_⟩
      · rcases List.mem_cons.mp h1 with q | q
        · rw [q]; simp
        · exact List.mem_cons_of_mem _ (List.mem_cons_of_mem _ q)
      · rcases List.mem_cons.mp hy with rfl | hy
        · exact h2 _ (by simp)
        · rcases List.mem_cons.mp hy with rfl | hy
          · have := h2 m (by simp); omega
          · exact h2 y (List.mem_cons_of_mem _ hy)
/-! ### sums and bests of tuples -/
section
variable {prog : Program} {w : World} {A : Around} {E : Value → Shared → Prop} {z : Shared} {a : Addr} {xs : Array (Int × Tok)} {Q : Value → Shared → Prop}
theorem iter_tupI (ht : z.heap.IsTuple a (intItems xs))
    (q : ∀ z2 : Shared, z2 = { z with heap := z.heap.push { cls := .type "tuple_iterator", data := .fields #[.ref a, .int 0 0] } } →
      (z2.heap.IsTupleIter z.heap.objs.size a 0 ∧ z2.heap.IsTuple a (intItems xs)) → (∀ b ∈ [z.heap.objs.size, a], b < z2.heap.objs.size) → a ≠ z.heap.objs.size →
      (∀ h' : Heap, (∀ b o, b ∉ [z.heap.objs.size] → z2.heap.get? b = some o → h'.get? b = some o) → ∀ b o, z.heap.get? b = some o → h'.get? b = some o) → Q (.ref z.heap.objs.size) z2) : wpAny (model prog w) A (pyIter (.ref a)) Q E z := by
  have lta : a < z.heap.objs.size := by
    obtain ⟨_, e, _⟩ := ht
    exact Heap.lt_size e
  have sz : ∀ ob, (z.heap.push ob).objs.size = z.heap.objs.size + 1 := fun ob => Heap.size_push ..
  refine wpAny_pyIter_tuple ht (q _ rfl ⟨⟨_, Heap.get?_push_size _ rfl, rfl, rfl⟩, ht.at fun o e => Heap.get?_push_of_some _ e⟩ (fun b hb => ?_) (Nat.ne_of_lt lta) fun h' hk b o e => ?_)
  · show b < (z.heap.push _).objs.size
    rw [sz]
    simp only [List.mem_cons, List.not_mem_nil, or_false] at hb
    rcases hb with rfl | rfl
    · exact Nat.lt_succ_self _
    · exact Nat.lt_succ_of_lt lta
  · refine hk b o (fun hm => ?_) (Heap.get?_push_of_some _ e)
    have : b = z.heap.objs.size := by simpa using hm
    rw [this] at e
    exact Nat.lt_irrefl _ (Heap.lt_size e)
theorem max_tupI (hh : A.handled = none) (ht : z.heap.IsTuple a (intItems xs)) (hne : 0 < xs.size)
    (q : ∀ v h' tk, (intItems xs)[argBest (fun i j => decide (numAt xs i > numAt xs j)) (xs.size - 1)]? = some v → (∀ b o, z.heap.get? b = some o → h'.get? b = some o) → Q v { z with heap := h', toks := tk }) : wpAny (model prog w) A (call (.builtin "max") [.ref a]) Q E z := by
  refine call_max_walk (iter_tupI ht fun z2 e st hfp hn old => ?_)
  subst e
  refine ⟨_, _, _, _, _, _, _, rfl, Walks.tuple (A := A.in1) hh _ a hn (intItems xs), st, hfp, by simpa [intItems] using hne, CmpOf.ints_gt (numAt xs) (fun _ _ => intItems_at), fun v h' tk hP hk => ?_⟩
  exact q v h' tk (by simpa [intItems] using hP) (old h' hk)
theorem min_tupI (hh : A.handled = none) (ht : z.heap.IsTuple a (intItems xs)) (hne : 0 < xs.size)
    (q : ∀ v h' tk, (intItems xs)[argBest (fun i j => decide (numAt xs i < numAt xs j)) (xs.size - 1)]? = some v → (∀ b o, z.heap.get? b = some o → h'.get? b = some o) → Q v { z with heap := h', toks := tk }) : wpAny (model prog w) A (call (.builtin "min") [.ref a]) Q E z := by
  refine call_min_walk (iter_tupI ht fun z2 e st hfp hn old => ?_)
  subst e
  refine ⟨_, _, _, _, _, _, _, rfl, Walks.tuple (A := A.in1) hh _ a hn (intItems xs), st, hfp, by simpa [intItems] using hne, CmpOf.ints_lt (numAt xs) (fun _ _ => intItems_at), fun v h' tk hP hk => ?_⟩
  exact q v h' tk (by simpa [intItems] using hP) (old h' hk)
end
section
variable {X : Cx}
def rSumU (K : PySem.W.Frag) : List V → Hp → VK → Prop := fun vs H Q => ∃ (a : Addr) (ns : List Int), vs = [V.ref a] ∧ SqT K H a (ns.map V.int) ∧ Q (.int ns.sum) H
def rMaxU (K : PySem.W.Frag) : List V → Hp → VK → Prop := fun vs H Q => ∃ (a : Addr) (ns : List Int), vs = [V.ref a] ∧ SqT K H a (ns.map V.int) ∧ 0 < ns.length ∧ ∀ m ∈ ns, (∀ y ∈ ns, y ≤ m) → Q (.int m) H
def rMinU (K : PySem.W.Frag) : List V → Hp → VK → Prop := fun vs H Q => ∃ (a : Addr) (ns : List Int), vs = [V.ref a] ∧ SqT K H a (ns.map V.int) ∧ 0 < ns.length ∧ ∀ m ∈ ns, (∀ y ∈ ns, m ≤ y) → Q (.int m) H
theorem cr_maxU (hc : X.calm = true) : CallR X (.builtin "max") (rMaxU X.K) := by
  intro pins s σ H vs us Q I r ⟨a, ns, e, hs, hne, q⟩
  subst e
  obtain ⟨its, rv, hl, _⟩ := I.tuple hs
  rw [Vals.ref1 r]
  obtain ⟨xs, e⟩ := rv.ints.allInts.items
  have hn : numsOf (intItems xs).toList = ns := by rw [← e]; exact rv.ints.numsOf
  rw [nums_intItems] at hn
  subst hn
  have hl2 : s.heap.IsTuple a (intItems xs) := e ▸ hl
  refine max_tupI (I.ok.hd hc) hl2 (by simpa using hne) fun v h' tk hv hk => ?_
  obtain ⟨t, rfl⟩ := intItems_at hv
  obtain ⟨h1, h2⟩ := argBest_gt (numAt xs) (xs.size - 1)
  have hsz : 0 < xs.size := by simpa using hne
  refine ⟨.int _, H, I.kept hk, ⟨_, rfl⟩, q _ ?_ fun y hy => ?_⟩
  · rw [numAt_eq]; exact PySem.getD_mem (by rw [List.length_map, Array.length_toList]; omega)
  · obtain ⟨j, hj, rfl⟩ := mem_getD hy
    rw [List.length_map, Array.length_toList] at hj
    rw [← numAt_eq]; exact h2 j (by omega)
theorem cr_minU (hc : X.calm = true) : CallR X (.builtin "min") (rMinU X.K) := by
  intro pins s σ H vs us Q I r ⟨a, ns, e, hs, hne, q⟩
  subst e
  obtain ⟨its, rv, hl, _⟩ := I.tuple hs
  rw [Vals.ref1 r]
  obtain ⟨xs, e⟩ := rv.ints.allInts.items
  have hn : numsOf (intItems xs).toList = ns := by rw [← e]; exact rv.ints.numsOf
  rw [nums_intItems] at hn
  subst hn
  have hl2 : s.heap.IsTuple a (intItems xs) := e ▸ hl
  refine min_tupI (I.ok.hd hc) hl2 (by simpa using hne) fun v h' tk hv hk => ?_
  obtain ⟨t, rfl⟩ := intItems_at hv
  obtain ⟨h1, h2⟩ := argBest_lt (numAt xs) (xs.size - 1)
  have hsz : 0 < xs.size := by simpa using hne
  refine ⟨.int _, H, I.kept hk, ⟨_, rfl⟩, q _ ?_ fun y hy => ?_⟩
  · rw [numAt_eq]; exact PySem.getD_mem (by rw [List.length_map, Array.length_toList]; omega)
  · obtain ⟨j, hj, rfl⟩ := mem_getD hy
    rw [List.length_map, Array.length_toList] at hj
    rw [← numAt_eq]; exact h2 j (by omega)
end
/-- where the numbers of a sequence lie -/
theorem seq_ints {K : PySem.W.Frag} {ω : Wo} {h : Hc} {d : D} {v : V} {ys : List D} {ns : List Int} (r : Rel K ω h) (q : seqD h d = some ys) (q2 : intsD ys = some ns) (e : RelD K ω d v) :
    ∃ a, v = .ref a ∧ (SqL K ω.H a (ns.map V.int) ∨ SqT K ω.H a (ns.map V.int)) := by
  obtain ⟨a, us, e1, e2, e3⟩ := seqD_rel r q e
  rw [intsD_eq q2] at e3
  rw [e3.ints] at e2
  exact ⟨a, e1, e2.elim .inr .inl⟩
def sumA (xs : List D) (h : Hc) : R D := match xs with
  | [d] => match seqD h d with
    | some ys => match intsD ys with
      | some ns => .ok (.int ns.sum) h
      | none => .bad
    | none => .bad
  | _ => .bad
def bestF (f : Int → List Int → Int) (xs : List D) (h : Hc) : R D := match xs with
  | [.int i, .int j] => .ok (.int (f i [j])) h
  | [d] => match seqD h d with
    | some ys => match intsD ys with
      | some (n :: ns) => .ok (.int (f n ns)) h
      | _ => .bad
    | none => .bad
  | _ => .bad
abbrev minF := bestF leastI
abbrev maxF := bestF mostI
section
variable {X : Cx}
def rMinB (K : PySem.W.Frag) : List V → Hp → VK → Prop := fun xs H Q => (∃ i j, xs = [.int i, .int j] ∧ Q (.int (if j < i then j else i)) H) ∨ rMin K xs H Q ∨ rMinU K xs H Q
def rMaxB (K : PySem.W.Frag) : List V → Hp → VK → Prop := fun xs H Q => (∃ i j, xs = [.int i, .int j] ∧ Q (.int (if j > i then j else i)) H) ∨ rMax K xs H Q ∨ rMaxU K xs H Q
theorem call_minB (hc : X.calm = true) : CallR X (.builtin "min") (rMinB X.K) := cr_or (call_min2 hc) (cr_or (cr_min hc) (cr_minU hc))
theorem call_maxB (hc : X.calm = true) : CallR X (.builtin "max") (rMaxB X.K) := cr_or (call_max2 hc) (cr_or (cr_max hc) (cr_maxU hc))
theorem cd_min : CallD X (rMinB X.K) minF := fun W σ ω h xs vs Q r rx p => by
  unfold minF bestF at p
  split at p
  · obtain ⟨v, ws, rfl, e2, e3⟩ := rx.inv
    obtain ⟨v', ws', rfl, e4, e5⟩ := e3.inv
    rw [e5.inv0, rd_int e2, rd_int e4]
    exact .inl ⟨_, _, rfl, p.here r int_rd⟩
  · obtain ⟨v, ws, rfl, e2, e3⟩ := rx.inv
    rw [e3.inv0]
    split at p
    · rename_i ys q
      split at p
      · rename_i n ns q2
        have fin : ∀ m ∈ n :: ns, m = leastI n ns → Q (.int m) ω.H := fun m _ em => by
          rw [em]
          exact p.here r int_rd
        obtain ⟨g1, g2⟩ := leastI_spec ns n
        obtain ⟨a, rfl, e5 | e5⟩ := seq_ints r q q2 e2
        · exact .inr (.inl ⟨a, n :: ns, rfl, e5, by simp, fun m hm hy => fin m hm (Int.le_antisymm (hy _ g1) (g2 _ hm))⟩)
        · exact .inr (.inr ⟨a, n :: ns, rfl, e5, by simp, fun m hm hy => fin m hm (Int.le_antisymm (hy _ g1) (g2 _ hm))⟩)
      · exact False.elim p
    · exact False.elim p
  · exact False.elim p
theorem cd_max : CallD X (rMaxB X.K) maxF := fun W σ ω h xs vs Q r rx p => by
  unfold maxF bestF at p
  split at p
  · obtain ⟨v, ws, rfl, e2, e3⟩ := rx.inv
    obtain ⟨v', ws', rfl, e4, e5⟩ := e3.inv
    rw [e5.inv0, rd_int e2, rd_int e4]
    exact .inl ⟨_, _, rfl, p.here r int_rd⟩
  · obtain ⟨v, ws, rfl, e2, e3⟩ := rx.inv
    rw [e3.inv0]
    split at p
    · rename_i ys q
      split at p
      · rename_i n ns q2
        have fin : ∀ m ∈ n :: ns, m = mostI n ns → Q (.int m) ω.H := fun m _ em => by
          rw [em]
          exact p.here r int_rd
        obtain ⟨g1, g2⟩ := mostI_spec ns n
        obtain ⟨a, rfl, e5 | e5⟩ := seq_ints r q q2 e2
        · exact .inr (.inl ⟨a, n :: ns, rfl, e5, by simp, fun m hm hy => fin m hm (Int.le_antisymm (g2 _ hm) (hy _ g1))⟩)
        · exact .inr (.inr ⟨a, n :: ns, rfl, e5, by simp, fun m hm hy => fin m hm (Int.le_antisymm (g2 _ hm) (hy _ g1))⟩)
      · exact False.elim p
    · exact False.elim p
  · exact False.elim p
end
/-! ### the least common multiple -/
section
variable {X : Cx}
def rLcm : List V → Hp → VK → Prop := fun vs H Q => ∃ a b : Int, vs = [.int a, .int b] ∧ a.natAbs.log2 < 8000 ∧ b.natAbs.log2 < 8000 ∧ Q (.int ((Nat.lcm a.natAbs b.natAbs : Nat) : Int)) H
def lcmF (xs : List D) (h : Hc) : R D := match xs with
  | [.int i, .int j] => if i.natAbs.log2 < 8000 ∧ j.natAbs.log2 < 8000 then .ok (.int ((Nat.lcm i.natAbs j.natAbs : Nat) : Int)) h else .bad
  | _ => .bad
end
/-! ### copies of a list that is then changed -/
def mulC (x y : D) (h : Hc) : R D := match y with
  | .int k => match lstD h x with
    | some xs => if k ≤ lim ∧ -lim ≤ k ∧ xs.length * k.toNat ≤ lim then .ok (.ref h.length) (h ++ [.lst (repD k.toNat xs)]) else .bad
    | none => .bad
  | _ => .bad
theorem opd_mulC {X : Cx} : OpD X rMulA mulC := fun W σ ω h x y v u Q r rx ry p => by
  unfold mulC at p
  split at p
  · rename_i k
    split at p
    · rename_i xs q1
      obtain ⟨⟨h1, h2, h3⟩, p⟩ := p.if_
      obtain ⟨a, vs, e1, e2, e3⟩ := lstD_rel r q1 rx
      have l1 : (lim : Int) = 1000000 := rfl
      exact .inr (.inr ⟨a, k, vs, e1, rd_int ry, e2, by omega, by omega, by rw [← e3.len]; exact lim_le h3, fun q hq => p (.ref q) (ω.cell q _) (Ext.cell hq) (cell_new r hq (e3.rep _)).1 (cell_new r hq (e3.rep _)).2⟩)
    · exact False.elim p
  · exact False.elim p
end Mp
/-! LayI: two sequences walked side by side, each a list or a tuple. -/
namespace Mp
open PySem PySem.Spec PyProof.Rows L2
/-- a sequence of a kind (true: a tuple) -/
def SqX (t : Bool) (K : PySem.W.Frag) (H : Hp) (a : Addr) (xs : List V) : Prop := if t = true then SqT K H a xs else SqL K H a xs
/-- an iterator of a kind -/
def ItX (t : Bool) (g : Heap) (it a : Addr) (i : Nat) : Prop := if t = true then g.IsTupleIter it a i else g.IsListIter it a i
def CoX (t : Bool) (g : Heap) (a : Addr) (its : Array Value) : Prop := if t = true then g.IsTuple a its else g.IsList a its
section
variable {prog : Program} {w : World} {A : Around}
end
section
variable {X : Cx} {pins : List (Addr × Obj)} {σ : L2.St} {H : Hp} {s : Shared}
end
/-- two sequences, their items in new pairs -/
def ItP (t1 t2 : Bool) (K : PySem.W.Frag) (a b : Addr) : It where
  go i H := ∃ (xs ys : List V) (x y : V), SqX t1 K H a xs ∧ SqX t2 K H b ys ∧ xs[i]? = some x ∧ ys[i]? = some y
  yld i H v H' := ∃ T x y, v = .ref T ∧ H T = none ∧ H' = upd H T (.tup [x, y]) ∧ (∀ xs, SqX t1 K H a xs → xs[i]? = some x) ∧ ∀ ys, SqX t2 K H b ys → ys[i]? = some y
  stop i H := ∃ xs ys : List V, SqX t1 K H a xs ∧ SqX t2 K H b ys ∧ (xs.length ≤ i ∨ ys.length ≤ i)
/-- where a walk of a sequence begins -/
def obX (t : Bool) (a : Addr) : Obj := if t = true then { cls := .type "tuple_iterator", data := .fields #[.ref a, .int 0 0] } else { cls := .type "list_iterator", data := .fields #[.ref a, .int 0 0] }
/-- zip of two sequences -/
def iZpB (K : PySem.W.Frag) (ta : TA) : TI := fun σ H R => ta σ H fun vs H1 => ∃ t1 t2 a b xs ys, vs = [.ref a, .ref b] ∧ SqX t1 K H1 a xs ∧ SqX t2 K H1 b ys ∧ R (ItP t1 t2 K a b) H1
/-- the pairs -/
def zipD : List D → List D → List D
  | x :: xs, y :: ys => .tup [x, y] :: zipD xs ys
  | _, _ => []
def chkZ (d : D) (xs : List D) (e : D) (ys : List D) : Hc → Bool := fun h => chkQ d xs h && chkQ e ys h
def zpF (xs : List D) (h : Hc) : R ItD := match xs with
  | [d, e] => match seqD h d, seqD h e with
    | some us, some ws => .ok ⟨zipD us ws, chkZ d us e ws⟩ h
    | _, _ => .bad
  | _ => .bad
def iZip (as : SA) : SI := fun ds h => (as ds h).bd zpF
section
variable {K : PySem.W.Frag} {ω : Wo} {h : Hc} {d e : D}
end
section
variable {X : Cx} {W : WX} {e : Expr} {as : SA}
end
/-! ### a call with nothing handed over -/
section
variable {X : Cx} {W : WX} {m : Fn} {pos p : Pos} {x : Str} {ps : List Str} {k : Nat}
theorem dc0 (tk : Takes X W) (G : Good X.prog X.w X.K X.mg X.base x k ps m) (hr : Room k X.A) (hg : Gl X x) (hn : 0 = ps.length) (hdb : (x == ("__debug__" : Str)) = false := by decide) : DE X W (.Call (.Name x p) [] [] pos) (eCall m aNil) := by
  obtain ⟨f, fd, g, kp, b, _, F⟩ := G
  refine ⟨fun pins s σ H Q I q => ?_⟩
  refine wpAny_Call_Name_kw (ld_glob I hg g ?_ hdb)
  obtain ⟨ω, h, ds, e1, r, sl, pp⟩ := q
  subst e1
  have pp : Post X.K X.mg W σ ω (RelD X.K) Q (callL m [] h) := pp
  have sp := callL_sp (np := ps.length) (vs := []) hn r RelL.nil pp
  exact PySem.W.callWith_K0 I.kIn kp (run_fnS (E := fun σ => WE W σ) (us := []) F hr b (passAt tk σ) I .nil sp)
end
/-! ### range with a step -/
def stepD (lo c : Int) (n : Nat) : List D := (List.range n).map fun (i : Nat) => D.int (lo + (i : Int) * c)
def rg3F (xs : List D) (h : Hc) : R ItD := match xs with
  | [.int i, .int j, .int c] => if c ≠ 0 ∧ c.natAbs < 1073741824 ∧ Builtin.Range.small i j c = true ∧ 0 ≤ Builtin.Range.rangeSize i j c then .ok ⟨stepD i c (Builtin.Range.rangeSize i j c).toNat, fun _ => true⟩ h else .bad
  | _ => .bad
def iRg3 (as : SA) : SI := fun ds h => (as ds h).bd rg3F
/-! ### reverse -/
def revF (x : D) (xs : List D) (h : Hc) : R D := match x, xs with
  | .ref i, [] => match h[i]? with
    | some (.lst ys) => .ok .non (h.set i (.lst ys.reverse))
    | _ => .bad
  | _, _ => .bad
end Mp
/-! LayJ: dicts. -/
namespace Mp
open PySem PySem.Spec PyProof.Rows L2
/-! ### keys, and what stands at them -/
def keyD : D → Option Key
  | .int i => some (.inl i)
  | .str x => some (.inr x)
  | _ => none
def keyO : Key → D
  | .inl i => .int i
  | .inr x => .str x
def lkD : List Key → List D → Key → Option D
  | k :: ks, d :: ds, j => if k = j then some d else lkD ks ds j
  | _, _, _ => none
def hasK (ks : List Key) (j : Key) : Bool := ks.any fun k => decide (k = j)
theorem hasK_nil (j : Key) : hasK [] j = false := Eq.trans rfl rfl
theorem hasK_cons (k : Key) (ks : List Key) (j : Key) : hasK (k :: ks) j = (decide (k = j) || hasK ks j) := Eq.trans rfl rfl
/-- in its place, or at the end -/
def insD (ks : List Key) (ds : List D) (j : Key) (x : D) : List Key × List D :=
  if hasK ks j = true then (ks, List.zipWith (fun k d => if k = j then x else d) ks ds) else (ks ++ [j], ds ++ [x])
section
variable {K : PySem.W.Frag} {ω ω' : Wo} {h h' : Hc} {d : D} {v : V}
theorem keyD_rel {k : Key} (e : keyD d = some k) (x : RelD K ω d v) : v = kV k := by
  cases d <;> simp [keyD] at e <;> subst e
  · rw [rd_int x]; rfl
  · rw [rd_str x]; rfl
theorem any_zip : ∀ {ks : List Key} {vs : List V} {j : Key}, ks.length = vs.length → ((ks.zip vs).any fun kv => decide (kv.1 = j)) = hasK ks j
  | [], vs, j, _ => by simp [hasK_nil]
  | k :: ks, [], j, e => by simp at e
  | k :: ks, v :: vs, j, e => by
    have ih := any_zip (j := j) (ks := ks) (vs := vs) (by simpa using e)
    simp only [List.zip_cons_cons, List.any_cons, ih, hasK_cons]
theorem map_zip {j : Key} {u : V} : ∀ {ks : List Key} {vs : List V}, ks.length = vs.length → ((ks.zip vs).map fun kv => if kv.1 = j then (kv.1, u) else kv) = ks.zip (List.zipWith (fun k v => if k = j then u else v) ks vs)
  | [], vs, _ => by simp
  | k :: ks, [], e => by simp at e
  | k :: ks, v :: vs, e => by
    simp only [List.zip_cons_cons, List.map_cons, List.zipWith_cons_cons, map_zip (ks := ks) (vs := vs) (by simpa using e)]
    congr 1
    split <;> rfl
theorem rep_rel {j : Key} {x : D} {u : V} (rx : RelD K ω x u) : ∀ {ks : List Key} {ds : List D} {vs : List V}, RelL K ω ds vs → ks.length = vs.length → RelL K ω (List.zipWith (fun k d => if k = j then x else d) ks ds) (List.zipWith (fun k v => if k = j then u else v) ks vs)
  | [], ds, vs, r, e => by simpa using RelL.nil
  | k :: ks, [], vs, r, e => by rw [r.inv0] at e; simp at e
  | k :: ks, d :: ds, vs, r, e => by
    obtain ⟨v, ws, rfl, e2, e3⟩ := r.inv
    simp only [List.zipWith_cons_cons]
    refine RelL.cons ?_ (rep_rel rx e3 (by simpa using e))
    split
    · exact rx
    · exact e2
theorem putK_zip {ks : List Key} {ds : List D} {vs : List V} {j : Key} {x : D} {u : V} (r : RelL K ω ds vs) (e : ks.length = vs.length) (rx : RelD K ω x u) :
    ∃ ws, putK (ks.zip vs) j u = (insD ks ds j x).1.zip ws ∧ (insD ks ds j x).1.length = ws.length ∧ RelL K ω (insD ks ds j x).2 ws := by
  unfold putK insD
  rw [any_zip e]
  by_cases hj : hasK ks j = true
  · rw [if_pos hj, if_pos hj]
    exact ⟨_, map_zip e, by simp [e], rep_rel rx r e⟩
  · rw [if_neg hj, if_neg hj]
    exact ⟨vs ++ [u], by rw [List.zip_append (by simpa using e)]; rfl, by simp [e], r.append (RelL.cons rx RelL.nil)⟩
end
section
variable {X : Cx} {W : WX} {K : PySem.W.Frag} {ω ω' : Wo} {h h' : Hc} {a b e o i : Expr} {m ma mb me mo mi : SE} {pos pos' : Pos}
/-! ### {} -/
def eDct0 : SE := fun _ h => .ok (.ref h.length) (h ++ [.dct [] []])
theorem cell_newD {q : Addr} {ks : List Key} {xs : List D} {vs : List V} (r : Rel K ω h) (hq : ω.H q = none) (hl : ks.length = vs.length) (d : RelL K ω xs vs) :
    Rel K (ω.cell q (.dK (ks.zip vs))) (h ++ [.dct ks xs]) ∧ RelD K (ω.cell q (.dK (ks.zip vs))) (.ref h.length) (.ref q) := by
  refine ⟨r.cell hq ⟨vs, upd_same, hl, monoL r (Ext.cell hq) _ _ d⟩, ?_⟩
  unfold RelD
  rw [← r.n]
  exact ⟨Nat.lt_succ_self _, by rw [Wo.cell_at]⟩
theorem de_dct0 : DE X W (.Dict [] [] pos) eDct0 := de_of pe_dnewK fun σ H Q ⟨ω, h, ds, e1, r, s, p⟩ => by
  subst e1
  intro q hq
  have z := cell_newD (ks := []) (xs := []) (vs := []) r hq rfl RelL.nil
  exact p (.ref q) (ω.cell q (.dK [])) (Ext.cell hq) z.1 z.2
/-! ### d[k], k in d -/
def dgF (x y : D) (h : Hc) : R D := match dctD h x, keyD y with
  | some (ks, ds), some k => match lkD ks ds k with
    | some d => .ok d h
    | none => .bad
  | _, _ => .bad
def dinF (neg : Bool) (y x : D) (h : Hc) : R D := match dctD h x, keyD y with
  | some (ks, _), some k => .ok (.bl (if neg then !hasK ks k else hasK ks k)) h
  | _, _ => .bad
theorem lkD_isSome : ∀ {ks : List Key} {vs : List V} {k : Key}, ks.length = vs.length → (valV (ks.zip vs) k).isSome = hasK ks k := fun {ks vs k} e => by
  rw [← valV_any, any_zip e]
theorem din_w (neg : Bool) : ∀ σ H Q, tE X W (eOp (dinF neg) ma mb) σ H Q → (if neg then tDNotIn (tE X W ma) (tE X W mb) σ H Q else tDIn (tE X W ma) (tE X W mb) σ H Q) := fun σ H Q ⟨ω, h, ds, e1, r, s, p⟩ => by
  subst e1
  cases neg with
  | false =>
    refine ⟨ω, h, ds, rfl, r, s, p.bd fun x h1 v ω1 e1 r1 d1 p1 => ⟨ω1, h1, ds, rfl, r1, monoS r e1 s, p1.bd fun y h2 u ω2 e2 r2 d2 p2 => ?_⟩⟩
    unfold dinF at p2
    split at p2
    · rename_i ks xs k q1 q2
      obtain ⟨p, vs, rfl, f2, f3, f4⟩ := dctD_rel r2 q1 d2
      rw [keyD_rel q2 d1]
      refine ⟨_, _, rfl, DGet.k (k := k) f2, p2 _ ω2 (Ext.refl _) r2 ?_⟩
      rw [lkD_isSome f3]
      exact bl_rd
    · exact False.elim p2
  | true =>
    refine ⟨ω, h, ds, rfl, r, s, p.bd fun x h1 v ω1 e1 r1 d1 p1 => ⟨ω1, h1, ds, rfl, r1, monoS r e1 s, p1.bd fun y h2 u ω2 e2 r2 d2 p2 => ?_⟩⟩
    unfold dinF at p2
    split at p2
    · rename_i ks xs k q1 q2
      obtain ⟨p, vs, rfl, f2, f3, f4⟩ := dctD_rel r2 q1 d2
      rw [keyD_rel q2 d1]
      refine ⟨_, _, rfl, DGet.k (k := k) f2, p2 _ ω2 (Ext.refl _) r2 ?_⟩
      rw [lkD_isSome f3]
      exact bl_rd
    · exact False.elim p2
theorem hu_1 {k : Nat} (hr : Room k X.A) : X.A.units + 1 < cLine := by have := hr.un; omega
theorem dt_din (hu : X.A.units + 1 < cLine) (ha : DE X W a ma) (hb : DE X W b mb) (hm : behindInMarks .In b = false := by rfl) : DT X W (.Compare a [.In] [b] pos) (bEx (eOp (dinF false) ma mb)) :=
  dt_of (pt_cmp (pc_din hu ha hb) hm) fun σ H Q h => din_w false σ H _ (tBw σ H Q h)
/-! ### d[k] = v -/
def putF (o i x : D) (h : Hc) : Option Hc := match o, keyD i with
  | .ref j, some k => match h[j]? with
    | some (.dct ks ds) => if ks.length < lim then some (h.set j (.dct (insD ks ds k x).1 (insD ks ds k x).2)) else none
    | _ => none
  | _, _ => none
theorem rd_celD {j : Nat} {ks : List Key} {xs : List D} {v : V} (r : Rel K ω h) (x : RelD K ω (.ref j) v) (q : h[j]? = some (.dct ks xs)) : ∃ vs, j < ω.n ∧ v = .ref (ω.β j) ∧ ω.H (ω.β j) = some (.dK (ks.zip vs)) ∧ ks.length = vs.length ∧ RelL K ω xs vs := by
  unfold RelD at x
  obtain ⟨vs, e1, e2, e3⟩ := r.cel j _ q
  exact ⟨vs, x.1, x.2, e1, e2, e3⟩
theorem put_dct {j : Nat} {ks ls : List Key} {xs ys : List D} {vs : List V} (r : Rel K ω h) (q : h[j]? = some (.dct ks xs)) (hl : ls.length = vs.length) (y : RelL K ω ys vs) :
    Ext ω (ω.up (ω.β j) (.dK (ls.zip vs))) ∧ Rel K (ω.up (ω.β j) (.dK (ls.zip vs))) (h.set j (.dct ls ys)) := by
  have hi : j < ω.n := by rw [r.n]; exact (List.getElem?_eq_some_iff.mp q).1
  obtain ⟨o, ho, _⟩ := r.mut hi
  have e := Ext.put (o := .dK (ls.zip vs)) hi ho
  exact ⟨e, r.put hi ⟨vs, upd_same, hl, monoL r e _ _ y⟩⟩
/-- the key is put, as data and as the heap -/
theorem putF_rel {ov iv xv : V} {oD iD xD : D} (r : Rel K ω h) (ro : RelD K ω oD ov) (ri : RelD K ω iD iv) (rx : RelD K ω xD xv) (e : putF oD iD xD h = some h') :
    ∃ p H4, ov = .ref p ∧ DPut ω.H p iv xv H4 ∧ ∃ ω', ω'.H = H4 ∧ Ext ω ω' ∧ Rel K ω' h' := by
  unfold putF at e
  split at e
  · rename_i j k q1
    split at e
    · rename_i ks xs q2
      split at e
      · rename_i hl
        cases e
        obtain ⟨vs, e0, e1, e2, e3, e4⟩ := rd_celD r ro q2
        obtain ⟨ws, f1, f2, f3⟩ := putK_zip (j := k) (x := xD) e4 e3 rx
        obtain ⟨g1, g2⟩ := put_dct r q2 f2 f3
        refine ⟨_, _, e1, ?_, _, rfl, g1, g2⟩
        rw [keyD_rel q1 ri, ← f1]
        refine DPut.k e2 ?_
        rw [List.length_zip, ← e3, Nat.min_self]
        exact lim_lt hl
      · cases e
    · cases e
  · cases e
theorem ds_dput (hu : X.A.units + 1 < cLine) (ho : DE X W o mo) (hi : DE X W i mi) (he : DE X W e me) (hs : swapsWith e (some (.Subscript o i pos')) pos.line X.env = pure false := by rfl) : DS X W (.Assign [.Subscript o i pos'] e pos) (sPut putF me mo mi) :=
  ds_of (ps_dput hu ho hi he hs) fun E σ H ⟨ω, h, ds, e1, r, s, p⟩ => by
    subst e1
    refine ⟨ω, h, ds, rfl, r, s, PostO.bd r s p fun x h1 v ω1 e1 r1 d1 s1 p1 => ⟨ω1, h1, ds, rfl, r1, s1, PostO.bd r1 s1 p1 fun o h2 u ω2 e2 r2 d2 s2 p2 => ⟨ω2, h2, ds, rfl, r2, s2, PostO.bd r2 s2 p2 fun i h3 w ω3 e3 r3 d3 s3 p3 => ?_⟩⟩⟩
    cases q : putF o i x h3 with
    | none => rw [q] at p3; exact False.elim p3
    | some h4 =>
      rw [q] at p3
      obtain ⟨p, H4, rfl, z1, ω4, rfl, z3, z4⟩ := putF_rel r3 (mono r2 e3 _ _ d2) d3 (mono r1 (e2.trans e3) _ _ d1) q
      exact ⟨_, _, rfl, z1, p3 σ ω4 z3 z4 (monoS r3 z3 s3)⟩
/-! ### d[k] op= v -/
def sAugD (f : D → D → Hc → R D) (mo mi me : SE) : SS := fun ds h => sBd (mo ds h) ds fun o h1 => sBd (mi ds h1) ds fun i h2 => sBd (dgF o i h2) ds fun x h3 => sBd (me ds h3) ds fun y h4 => sBd (f x y h4) ds fun z h5 => match putF o i z h5 with
  | some h6 => .nx ds h6
  | none => .bad
end
/-! ### dict comprehensions -/
section
variable {X : Cx} {W : WX} {tg iter kx vx : Expr} {ifs : List Expr} {mi : SI} {p : Pt} {own : List Nat} {c : SB} {mk mv : SE} {scope : Scope} {pos : Pos}
def dcR (chk : Hc → Bool) (p : Pt) (own : List Nat) (c : SB) (mk mv : SE) (ds : Sl) : List D → List Key → List D → Hc → R (List Key × List D)
  | [], ks, acc, h => if chk h = true then .ok (ks, acc) h else .bad
  | d :: r, ks, acc, h => if chk h = true then (match bindP h p d (wipeD ds own) with
      | some ds1 => (c ds1 h).nox.bd fun b h1 => if b = true then (mk ds1 h1).nox.bd fun y h2 => (mv ds1 h2).nox.bd fun z h3 => match keyD y with
          | some k => if ks.length < lim then dcR chk p own c mk mv ds r (insD ks acc k z).1 (insD ks acc k z).2 h3 else .bad
          | none => .bad
        else dcR chk p own c mk mv ds r ks acc h1
      | none => .bad) else .bad
def eDc (mi : SI) (p : Pt) (own : List Nat) (c : SB) (mk mv : SE) : SE := fun ds h => (mi ds h).bd fun it h1 => (dcR it.chk p own c mk mv ds it.items [] [] h1).bd fun xs h2 => .ok (.dct xs.1 xs.2) h2
end
end Mp
/-! LayK: sorted. -/
namespace Mp
open PySem PySem.Spec PyProof.Rows L2
/-! ### one order, one sorted list -/
section
variable {α : Type}
def insO (le : α → α → Bool) (x : α) : List α → List α
  | [] => [x]
  | y :: r => if le x y = true then x :: y :: r else y :: insO le x r
def isort (le : α → α → Bool) : List α → List α
  | [] => []
  | x :: r => insO le x (isort le r)
structure Tot (le : α → α → Bool) : Prop where
  anti : ∀ a b, le a b = true → le b a = true → a = b
  tot : ∀ a b, le a b = true ∨ le b a = true
  trans : ∀ a b c, le a b = true → le b c = true → le a c = true
theorem insO_perm (le : α → α → Bool) (x : α) : ∀ l, (insO le x l).Perm (x :: l)
  | [] => List.Perm.refl _
  | y :: r => by
    unfold insO
    split
    · exact List.Perm.refl _
    · exact ((insO_perm le x r).cons y).trans (List.Perm.swap x y r)
theorem isort_perm (le : α → α → Bool) : ∀ l, (isort le l).Perm l
  | [] => List.Perm.refl _
  | x :: r => by
    unfold isort
    exact (insO_perm le x _).trans ((isort_perm le r).cons x)
theorem insO_pw {le : α → α → Bool} (O : Tot le) (x : α) : ∀ l : List α, l.Pairwise (fun a b => le a b = true) → (insO le x l).Pairwise fun a b => le a b = true
  | [], _ => by simp [insO]
  | y :: r, h => by
    unfold insO
    obtain ⟨h1, h2⟩ := List.pairwise_cons.mp h
    split
    · rename_i hx
      refine List.pairwise_cons.mpr ⟨fun z hz => ?_, h⟩
      rcases List.mem_cons.mp hz with rfl | hz
      · exact hx
      · exact O.trans _ _ _ hx (h1 z hz)
    · rename_i hx
      have hy : le y x = true := (O.tot x y).resolve_left hx
      refine List.pairwise_cons.mpr ⟨fun z hz => ?_, insO_pw O x r h2⟩
      rcases List.mem_cons.mp ((insO_perm le x r).mem_iff.mp hz) with rfl | hz
      · exact hy
      · exact h1 z hz
theorem isort_pw {le : α → α → Bool} (O : Tot le) : ∀ l : List α, (isort le l).Pairwise fun a b => le a b = true
  | [] => List.Pairwise.nil
  | x :: r => by
    unfold isort
    exact insO_pw O x _ (isort_pw O r)
theorem pw_uniq {le : α → α → Bool} (O : Tot le) : ∀ {l m : List α}, l.Pairwise (fun a b => le a b = true) → m.Pairwise (fun a b => le a b = true) → l.Perm m → l = m
  | [], m, _, _, h => (List.Perm.eq_nil h.symm).symm
  | x :: l, [], _, _, h => absurd h.length_eq (by simp)
  | x :: l, y :: m, hl, hm, h => by
    obtain ⟨a1, a2⟩ := List.pairwise_cons.mp hl
    obtain ⟨b1, b2⟩ := List.pairwise_cons.mp hm
    have e : x = y := by
      rcases List.mem_cons.mp (h.mem_iff.mp (List.mem_cons_self (a := x) (l := l))) with e | hx
      · exact e
      · rcases List.mem_cons.mp (h.mem_iff.mpr (List.mem_cons_self (a := y) (l := m))) with e | hy
        · exact e.symm
        · exact O.anti _ _ (a1 y hy) (b1 x hx)
    subst e
    rw [pw_uniq O a2 b2 (List.Perm.cons_inv h)]
theorem isort_uniq {le : α → α → Bool} (O : Tot le) {l m : List α} (h : m.Perm l) (hp : m.Pairwise fun a b => le a b = true) : m = isort le l :=
  pw_uniq O hp (isort_pw O l) (h.trans (isort_perm le l).symm)
theorem isort_mem {le : α → α → Bool} {l : List α} {x : α} : x ∈ isort le l ↔ x ∈ l := (isort_perm le l).mem_iff
end
abbrev leI (a b : Int) : Bool := decide (a ≤ b)
def leS (a b : Str) : Bool := !decide (b.cps.toList < a.cps.toList)
theorem tot_I : Tot leI := ⟨fun a b h1 h2 => by simp [leI] at h1 h2; omega, fun a b => by simp [leI]; omega, fun a b c h1 h2 => by simp [leI] at h1 h2 ⊢; omega⟩
theorem str_ext {a b : Str} (h : a.cps.toList = b.cps.toList) : a = b := by
  cases a; cases b
  simp only [PySem.Str.mk.injEq]
  exact Array.toList_inj.mp h
theorem tot_S : Tot leS := by
  refine ⟨fun a b h1 h2 => ?_, fun a b => ?_, fun a b c h1 h2 => ?_⟩
  · simp only [leS, Bool.not_eq_true', decide_eq_false_iff_not] at h1 h2
    exact str_ext (List.le_antisymm h1 h2)
  · simp only [leS, Bool.not_eq_true', decide_eq_false_iff_not]
    exact List.le_total a.cps.toList b.cps.toList
  · simp only [leS, Bool.not_eq_true', decide_eq_false_iff_not] at h1 h2 ⊢
    exact List.le_trans h1 h2
abbrev sortS (l : List Str) : List Str := isort leS l
abbrev sortI (l : List Int) : List Int := isort leI l
theorem ltCps_lt : ∀ (a b : List Nat), PySem.Spec.ltCps a b = decide (a < b)
  | [], [] => by simp [PySem.Spec.ltCps]
  | [], _ :: _ => by simp [PySem.Spec.ltCps]
  | _ :: _, [] => by simp [PySem.Spec.ltCps]
  | a :: r, b :: t => by
    unfold PySem.Spec.ltCps
    rw [ltCps_lt r t]
    have : (a :: r < b :: t) ↔ (a < b ∨ a = b ∧ r < t) := by rw [List.cons_lt_cons_iff]
    simp only [this]
    by_cases h1 : a < b <;> by_cases h2 : a = b <;> by_cases h3 : r < t <;> simp [h1, h2, h3]
theorem sortedS_pw : ∀ {l : List Str}, sortedS l = true → l.Pairwise fun a b => leS a b = true
  | [], _ => List.Pairwise.nil
  | x :: r, h => by
    have go : ∀ (r : List Str) (p : Str), risingS p r = true → (p :: r).Pairwise fun a b => leS a b = true := by
      intro r
      induction r with
      | nil => intro p _; exact List.pairwise_singleton _ _
      | cons y r ih =>
        intro p h
        unfold risingS at h
        rw [Bool.and_eq_true, ltCps_lt] at h
        have i := ih y h.2
        refine List.pairwise_cons.mpr ⟨fun z hz => ?_, i⟩
        rcases List.mem_cons.mp hz with rfl | hz
        · exact h.1
        · exact tot_S.trans _ _ _ h.1 ((List.pairwise_cons.mp i).1 z hz)
    exact go r x h
def keysI : List Key → Option (List Int)
  | [] => some []
  | .inl i :: r => (keysI r).map (i :: ·)
  | _ :: _ => none
def keysS : List Key → Option (List Str)
  | [] => some []
  | .inr i :: r => (keysS r).map (i :: ·)
  | _ :: _ => none
theorem keysI_spec : ∀ {ks : List Key} {ns : List Int}, keysI ks = some ns → ks = ns.map Sum.inl
  | [], ns, e => by simp [keysI] at e; subst e; rfl
  | .inl i :: r, ns, e => by
    simp only [keysI, Option.map_eq_some_iff] at e
    obtain ⟨z, e1, rfl⟩ := e
    rw [List.map_cons, keysI_spec e1]
  | .inr i :: r, ns, e => by simp [keysI] at e
theorem keysS_spec : ∀ {ks : List Key} {ns : List Str}, keysS ks = some ns → ks = ns.map Sum.inr
  | [], ns, e => by simp [keysS] at e; subst e; rfl
  | .inr i :: r, ns, e => by
    simp only [keysS, Option.map_eq_some_iff] at e
    obtain ⟨z, e1, rfl⟩ := e
    rw [List.map_cons, keysS_spec e1]
  | .inl i :: r, ns, e => by simp [keysS] at e
/-! ### lists of pairs of ints -/
def leP (a b : Int × Int) : Bool := decide (a.1 < b.1 ∨ (a.1 = b.1 ∧ a.2 ≤ b.2))
theorem tot_P : Tot leP := ⟨fun a b h1 h2 => by
    obtain ⟨a1, a2⟩ := a; obtain ⟨b1, b2⟩ := b
    simp only [leP, decide_eq_true_eq] at h1 h2
    have e1 : a1 = b1 := by omega
    have e2 : a2 = b2 := by omega
    rw [e1, e2], fun a b => by
    simp only [leP, decide_eq_true_eq]; omega, fun a b c h1 h2 => by
    simp only [leP, decide_eq_true_eq] at h1 h2 ⊢; omega⟩
def pr2D (p : Int × Int) : D := .tup [.int p.1, .int p.2]
def prs2D : List D → Option (List (Int × Int))
  | [] => some []
  | .tup [.int a, .int b] :: r => (prs2D r).map ((a, b) :: ·)
  | _ => none
@[simp] theorem prs2D_map : ∀ ps : List (Int × Int), prs2D (ps.map pr2D) = some ps
  | [] => rfl
  | p :: ps => by
    show (prs2D (ps.map pr2D)).map ((p.1, p.2) :: ·) = _
    rw [prs2D_map ps]
    rfl
theorem prs2D_eq : ∀ {ds : List D} {ps : List (Int × Int)}, prs2D ds = some ps → ds = ps.map pr2D
  | [], ps, e => by simp [prs2D] at e; subst e; rfl
  | .tup [.int a, .int b] :: r, ps, e => by
    simp only [prs2D, Option.map_eq_some_iff] at e
    obtain ⟨z, e1, rfl⟩ := e
    rw [prs2D_eq e1]
    rfl
  | d :: r, ps, e => by
    unfold prs2D at e
    split at e
    · rename_i q; cases q
    · rename_i a b r' q
      cases q
      simp only [Option.map_eq_some_iff] at e
      obtain ⟨z, e1, rfl⟩ := e
      rw [prs2D_eq e1]
      rfl
    · cases e
/-- the items are pairs of ints, these -/
def PrR (K : PySem.W.Frag) (H : Hp) : List V → List (Int × Int) → Prop
  | [], [] => True
  | x :: xs, p :: ps => (∃ t, x = V.ref t ∧ SqT K H t [V.int p.1, V.int p.2]) ∧ PrR K H xs ps
  | _, _ => False
def pkV (h : Heap) (u : Value) : Int × Int := match u with
  | .ref t => match h.get? t with
    | some o => match o.data with
      | .seq its _ => match its.toList with
        | [.int x _, .int y _] => (x, y)
        | _ => (0, 0)
      | _ => (0, 0)
    | none => (0, 0)
  | _ => (0, 0)
theorem prR_vals {X : Cx} {pins : List (Addr × Obj)} {σ : List (Option V)} {H : Hp} {s : Shared} (I : Inv X pins σ H s) : ∀ {xs : List V} {us : List Value} {ps : List (Int × Int)}, Vals xs us → PrR X.K H xs ps →
    xs.zip ps = us.map (fun u => (backV u, pkV s.heap u)) ∧ ∀ u ∈ us, Srt.IsPair s.heap u (pkV s.heap u).1 (pkV s.heap u).2
  | _, _, [], .nil, _ => ⟨rfl, fun u hu => absurd hu (by simp)⟩
  | _, _, p :: ps, .nil, h => False.elim h
  | x :: xs, u :: us, [], .cons r t, h => False.elim h
  | x :: xs, u :: us, p :: ps, .cons r t, h => by
    obtain ⟨⟨a, e, q⟩, h2⟩ := h
    subst e
    cases r
    obtain ⟨i1, i2⟩ := prR_vals I t h2
    obtain ⟨its, r2, ⟨o, ho, hc, n, hd⟩, _⟩ := I.tuple q
    obtain ⟨u1, u2, e3, ri, rj⟩ := vals2 r2
    obtain ⟨t1, rfl⟩ := ri
    obtain ⟨t2, rfl⟩ := rj
    subst e3
    have ek : pkV s.heap (.ref a) = (p.1, p.2) := by
      simp only [pkV, ho, hd]
    refine ⟨?_, fun v hv => ?_⟩
    · rw [List.zip_cons_cons, List.map_cons, i1, ek]
      rfl
    · rcases List.mem_cons.mp hv with e | hv
      · subst e
        rw [ek]
        exact ⟨a, o, t1, t2, n, rfl, ho, hc, hd⟩
      · exact i2 v hv
def rSortedPI (K : PySem.W.Frag) : List V → Hp → VK → Prop := fun vs H Q => ∃ (a : Addr) (xs : List V) (ps : List (Int × Int)), vs = [V.ref a] ∧ SqL K H a xs ∧ PrR K H xs ps ∧
  ∀ (zs : List (V × (Int × Int))) (p : Addr), zs.Perm (xs.zip ps) → (zs.map (·.2)).Pairwise (fun a b => leP a b = true) → H p = none → Q (.ref p) (upd H p (.lst (zs.map (·.1))))
theorem prR_refs {K : PySem.W.Frag} {H : Hp} : ∀ {xs : List V} {ps : List (Int × Int)}, PrR K H xs ps → ∀ x ∈ xs, ∃ a, x = V.ref a
  | [], [], _ => fun x hx => absurd hx (by simp)
  | [], p :: ps, h => False.elim h
  | x :: xs, [], h => False.elim h
  | x :: xs, p :: ps, h => fun y hy => by
    obtain ⟨⟨t, e, _⟩, h2⟩ := h
    rcases List.mem_cons.mp hy with e2 | hy
    · exact ⟨t, e2.trans e⟩
    · exact prR_refs h2 y hy
theorem call_sortedPI {X : Cx} : CallR X (.builtin "sorted") (rSortedPI X.K) := by
  intro pins s σ H vs us Q I r h
  obtain ⟨a, xs, ps, rfl, hs, hx, q⟩ := h
  obtain ⟨its, rv, hl, hz⟩ := I.list hs
  obtain ⟨u, rfl, ru⟩ := vals1 r
  obtain rfl : u = Value.ref a := ru
  obtain ⟨e1, e2⟩ := refs_back rv (prR_refs hx)
  obtain ⟨e3, e4⟩ := prR_vals I rv hx
  refine SrtO.sorted_pairsO (k := pkV s.heap) hl.isList (by rw [← rv.length]; exact hz) e4 fun h' d out h1 h2 kp hd hn => ?_
  have h3 : ∀ u ∈ out, ∃ a, u = Value.ref a := fun u hu => e2 u (h2.perm.mem_iff.mp hu)
  obtain ⟨n, hn⟩ := hn
  have em : ((out.map fun u => (backV u, pkV s.heap u)).map (·.1)) = out.map backV := by rw [List.map_map]; rfl
  have en : ((out.map fun u => (backV u, pkV s.heap u)).map (·.2)) = out.map (pkV s.heap) := by rw [List.map_map]; rfl
  have qq := q (out.map fun u => (backV u, pkV s.heap u)) d (by rw [e3]; exact h2.perm.map _) (by
    rw [en, List.pairwise_map]
    refine List.Pairwise.imp (fun {x y} hxy => ?_) h1
    have z := SrtO.lexB_no.mp hxy
    simp only [leP, decide_eq_true_eq]
    omega) (I.hok.fresh hd)
  rw [em] at qq
  refine ⟨.ref d, upd H d (.lst (out.map backV)), I.laid (t' := s.toks) kp hd ⟨?_, out, n, vals_back h3, hn⟩, rfl, qq⟩
  rw [List.length_map, h2.perm.length_eq, ← rv.length]
  exact hz
/-- data lists of pairs -/
theorem prR_of {K : PySem.W.Frag} {ω : Wo} : ∀ {ps : List (Int × Int)} {us : List V}, RelL K ω (ps.map pr2D) us → PrR K ω.H us ps ∧ ∀ z ∈ us.zip ps, RelD K ω (pr2D z.2) z.1
  | [], us, r => by
    obtain rfl := r.inv0
    exact ⟨trivial, fun z hz => absurd hz (by simp)⟩
  | p :: ps, us, r => by
    rw [List.map_cons] at r
    obtain ⟨v, ws, rfl, e2, e3⟩ := r.inv
    obtain ⟨i1, i2⟩ := prR_of e3
    have e2' := e2
    unfold pr2D at e2
    obtain ⟨t, us', e4, e5, e6⟩ := rd_tup e2
    obtain ⟨v1, w1, rfl, f1, f2⟩ := e6.inv
    obtain ⟨v2, w2, rfl, f3, f4⟩ := f2.inv
    obtain rfl := f4.inv0
    unfold RelD at f1 f3
    subst f1 f3
    refine ⟨⟨⟨t, e4, e5⟩, i1⟩, fun z hz => ?_⟩
    rw [List.zip_cons_cons] at hz
    rcases List.mem_cons.mp hz with e | hz
    · subst e; exact e2'
    · exact i2 z hz
theorem relL_zip {K : PySem.W.Frag} {ω : Wo} : ∀ {zs : List (V × (Int × Int))}, (∀ z ∈ zs, RelD K ω (pr2D z.2) z.1) → RelL K ω ((zs.map (·.2)).map pr2D) (zs.map (·.1))
  | [], _ => RelL.nil
  | z :: zs, h => by
    rw [List.map_cons, List.map_cons, List.map_cons]
    exact RelL.cons (h z List.mem_cons_self) (relL_zip fun y hy => h y (List.mem_cons_of_mem _ hy))
/-- sorted(x): what comes out -/
def sortX (h : Hc) (d : D) : Option (List D) := match rdlD h d with
  | some ys => match strsD ys with
    | some ss => if ss.length < 64 then some ((sortS ss).map D.str) else none
    | none => match intsD ys with
      | some ns => some ((sortI ns).map D.int)
      | none => match prs2D ys with
        | some ps => some ((isort leP ps).map pr2D)
        | none => none
  | none => match dctD h d with
    | some (ks, _) => match keysS ks with
      | some ss => if ss.length < 64 then some ((sortS ss).map D.str) else none
      | none => match keysI ks with
        | some ns => if ns.length < 64 then some ((sortI ns).map D.int) else none
        | none => none
    | none => match d with
      | .tup zs => match intsD zs with
        | some ns => some ((sortI ns).map D.int)
        | none => none
      | _ => none
def sortF (xs : List D) (h : Hc) : R D := match xs with
  | [d] => match sortX h d with
    | some ys => .ok (.lst ys) h
    | none => .bad
  | _ => .bad
def sortC (xs : List D) (h : Hc) : R D := match xs with
  | [d] => match sortX h d with
    | some ys => .ok (.ref h.length) (h ++ [.lst ys])
    | none => .bad
  | _ => .bad
/-- sorted(t), a tuple of ints -/
theorem call_sortedTI {X : Cx} : CallR X (.builtin "sorted") (fun xs H Q => ∃ (a : Addr) (ns : List Int), xs = [V.ref a] ∧ SqT X.K H a (ns.map V.int) ∧
    ∀ (ns' : List Int) (p : Addr), ns'.Perm ns → ns'.Pairwise (· ≤ ·) → H p = none → Q (.ref p) (upd H p (.lst (ns'.map V.int)))) := by
  intro pins s σ H xs us Q I r q
  obtain ⟨a, ns, ex, hs, q⟩ := q
  subst ex
  obtain ⟨its, rv, ⟨o, ho, hc, n, hd⟩, hz⟩ := I.tuple hs
  rw [Vals.ref1 r]
  have hi := rv.ints
  have hzl : its.length ≤ sizeLine := by rw [← rv.length]; exact hz
  refine Calls.call_function_entry PyProof.Rows.kind_sorted PyProof.Rows.plain_sorted PyProof.Rows.entry_sorted (PyProof.Rows.args_sorted1 _) ?_
  unfold Builtin.«sorted»
  refine wpAny_bind (m := checkCount "sorted" 1 1 _) (wpAny_pure ?_)
  refine wpAny_bind (wpAny_collect_seq a (.inr rfl) ho hc hd (fun h' hk => ?_) (by simpa using hzl))
  have e0 : its.toArray.toList = its := by simp
  rw [e0]
  have I1 : Inv X pins σ H { s with heap := h' } := I.kept (t' := s.toks) hk
  refine wpAny_bind (wpAny_newList ?_ hzl)
  have hoL : (h'.push (PyProof.Rows.seqObj "list" its.toArray 0)).get? h'.objs.size = some (PyProof.Rows.seqObj "list" its.toArray 0) := Heap.get?_push_size _ rfl
  show wpAny _ _ _ _ _ { s with heap := h'.push (PyProof.Rows.seqObj "list" its.toArray 0) }
  refine wpAny_bind (wpAny_holding (wpAny_call_entry PyProof.Rows.slot_list_sort ⟨_, hoL, rfl⟩ PyProof.Rows.entry_list_sort
    (SrtO.list_sort_ord (s := { s with heap := h'.push (PyProof.Rows.seqObj "list" its.toArray 0) }) SrtO.swo_int hoL hzl (fun h2 => SrtO.ints_sortable hi h2) fun out g1 g2 => ⟨_, rfl, ?_⟩) (PyProof.Rows.args_list_sort _)))
  obtain ⟨k1, k2, k3⟩ := SrtO.ints_out hi g1 g2
  obtain ⟨e', he'⟩ := PyProof.Rows.sortedHeap_at (vs := its) (out := out.toArray) hoL
  have hlen : ((out.map SrtO.iv).map V.int).length ≤ sizeLine := by
    rw [List.length_map, k2.length_eq]
    rw [List.length_map] at hz
    exact hz
  refine wpAny_pure ⟨_, rfl, .ref h'.objs.size, upd H h'.objs.size (.lst ((out.map SrtO.iv).map V.int)), I1.laid (t' := s.toks) (fun b u e => ?_) (Nat.le_refl _)
    (show ObjOk X.prog X.w _ _ _ (.lst ((out.map SrtO.iv).map V.int)) from ⟨hlen, out, e', vals_of_ints k1, he'⟩), rfl, q _ _ k2 k3 (I1.hok.fresh (Nat.le_refl _))⟩
  have hb : b < h'.objs.size := Heap.lt_size e
  rw [PyProof.Rows.sortedHeap_old (Nat.ne_of_lt hb) (by rw [size_push']; exact Nat.lt_succ_of_lt hb)]
  exact Heap.get?_push_of_some _ e
def rSortA (X : Cx) : List V → Hp → VK → Prop := fun xs H Q => rSortedS X.K xs H Q ∨ rSortedI X.K xs H Q ∨ (∃ (a : Addr) (kvs : List (Key × V)) (ks : List Str), xs = [.ref a] ∧ Rd H a (.dK kvs) ∧ kvs.map (·.1) = ks.map Sum.inr ∧ ks.length < 64 ∧
    ∀ ys p, ys.Perm ks → sortedS ys = true → H p = none → Q (.ref p) (upd H p (.lst (ys.map V.str)))) ∨ (∃ (a : Addr) (kvs : List (Key × V)) (ks : List Int), xs = [.ref a] ∧ Rd H a (.dK kvs) ∧ kvs.map (·.1) = ks.map Sum.inl ∧ ks.length < 64 ∧
    ∀ (ns' : List Int) p, ns'.Perm ks → ns'.Pairwise (· ≤ ·) → H p = none → Q (.ref p) (upd H p (.lst (ns'.map V.int)))) ∨ (∃ (a : Addr) (ns : List Int), xs = [V.ref a] ∧ SqT X.K H a (ns.map V.int) ∧
    ∀ (ns' : List Int) (p : Addr), ns'.Perm ns → ns'.Pairwise (· ≤ ·) → H p = none → Q (.ref p) (upd H p (.lst (ns'.map V.int)))) ∨ rSortedPI X.K xs H Q
theorem call_sortA {X : Cx} (hc : X.calm = true) : CallR X (.builtin "sorted") (rSortA X) := cr_or cr_sortedS (cr_or cr_sortedI (cr_or (call_sortedD hc) (cr_or (call_sortedDI hc) (cr_or call_sortedTI call_sortedPI))))
/-- the rule gives the one sorted list -/
theorem sort_w {K : PySem.W.Frag} {ω : Wo} {h : Hc} {d : D} {v : V} {ys : List D} (X : Cx) (hK : X.K = K) {Q : VK} (r : Rel K ω h) (q : sortX h d = some ys) (x : RelD K ω d v)
    (p : ∀ (a : Addr) (ws : List V), ω.H a = none → RelL K ω ys ws → Q (.ref a) (upd ω.H a (.lst ws))) : rSortA X [v] ω.H Q := by
  subst hK
  unfold sortX at q
  split at q
  · rename_i zs q1
    obtain ⟨a, us, rfl, e2, e3⟩ := rdlD_rel r q1 x
    split at q
    · rename_i ss q2
      split at q
      · rename_i hl
        cases q
        have ez : zs = ss.map D.str := strsD_eq q2
        rw [ez] at e3
        have eu := e3.strs
        subst eu
        refine .inl ⟨a, ss, rfl, e2, hl, fun zs p' hp hs hn => ?_⟩
        rw [isort_uniq tot_S hp (sortedS_pw hs)]
        exact p p' _ hn (RelL.of_strs _)
      · cases q
    · split at q
      · rename_i ns q3
        cases q
        have ez : zs = ns.map D.int := intsD_eq q3
        rw [ez] at e3
        have eu := e3.ints
        subst eu
        refine .inr (.inl ⟨a, ns, rfl, e2, fun ns' p' hp hs hn => ?_⟩)
        rw [isort_uniq tot_I hp (hs.imp fun h => by simpa [leI] using h)]
        exact p p' _ hn (RelL.of_ints _)
      · split at q
        · rename_i ps q4
          cases q
          rw [prs2D_eq q4] at e3
          obtain ⟨f1, f2⟩ := prR_of e3
          refine .inr (.inr (.inr (.inr (.inr ⟨a, us, ps, rfl, e2, f1, fun zs p' hp hs hn => ?_⟩))))
          have el : us.length = ps.length := by have := e3.len; simpa using this.symm
          have ez : (zs.map (·.2)) = isort leP ps := isort_uniq tot_P (by
            have h2 := hp.map (·.2)
            rwa [List.map_snd_zip (by omega)] at h2) hs
          rw [← ez] at p
          exact p p' _ hn (relL_zip fun z hz => f2 z (hp.mem_iff.mp hz))
        · cases q
  · split at q
    · rename_i ks xs q2
      obtain ⟨a, us, rfl, e2, e3, e4⟩ := dctD_rel r q2 x
      have kv : (ks.zip us).map (·.1) = ks := by
        rw [List.map_fst_zip]
        rw [e3]; exact Nat.le_refl _
      split at q
      · rename_i ss q3
        split at q
        · rename_i hl
          cases q
          refine .inr (.inr (.inl ⟨a, _, ss, rfl, .inl e2, kv.trans (keysS_spec q3), hl, fun zs p' hp hs hn => ?_⟩))
          rw [isort_uniq tot_S hp (sortedS_pw hs)]
          exact p p' _ hn (RelL.of_strs _)
        · cases q
      · split at q
        · rename_i ns q4
          split at q
          · rename_i hl
            cases q
            refine .inr (.inr (.inr (.inl ⟨a, _, ns, rfl, .inl e2, kv.trans (keysI_spec q4), hl, fun ns' p' hp hs hn => ?_⟩)))
            rw [isort_uniq tot_I hp (hs.imp fun h => by simpa [leI] using h)]
            exact p p' _ hn (RelL.of_ints _)
          · cases q
        · cases q
    · split at q
      · rename_i zs
        split at q
        · rename_i ns q3
          cases q
          obtain ⟨a, us, rfl, e2, e3⟩ := rd_tup x
          rw [intsD_eq q3] at e3
          have eu := e3.ints
          subst eu
          refine .inr (.inr (.inr (.inr (.inl ⟨a, ns, rfl, e2, fun ns' p' hp hs hn => ?_⟩))))
          rw [isort_uniq tot_I hp (hs.imp fun h => by simpa [leI] using h)]
          exact p p' _ hn (RelL.of_ints _)
        · cases q
      · cases q
theorem cd_sort {X : Cx} : CallD X (rSortA X) sortF := fun W σ ω h xs vs Q r rx p => by
  unfold sortF at p
  split at p
  · rename_i d
    obtain ⟨v, ws, rfl, e2, e3⟩ := rx.inv
    rw [e3.inv0]
    split at p
    · rename_i ys q
      exact sort_w X rfl r q e2 fun a us hn rl => p (.ref a) (ω.up a (.lst us)) (Ext.up hn) (r.up hn) (fz_new r hn rl)
    · exact False.elim p
  · exact False.elim p
/-! ### the signs of a text -/
def sgnD (x : Str) : List D := x.cps.toList.map fun c => .str ⟨#[c]⟩
def iSgn (m : SE) : SI := fun ds h => (m ds h).bd fun d h1 => match d with
  | .str x => .ok ⟨sgnD x, fun _ => true⟩ h1
  | _ => .bad
theorem itOk_sgn {K : PySem.W.Frag} {ω : Wo} {x : Str} : ItOk K ω ⟨sgnD x, fun _ => true⟩ (Its x) := fun i ω' h' e r' hk => by
  unfold sgnD
  refine ⟨fun d hd => ?_, fun hn => ?_⟩
  · rw [List.getElem?_map, Option.map_eq_some_iff] at hd
    obtain ⟨c, e1, rfl⟩ := hd
    have hi : i < x.cps.size := by
      have := (List.getElem?_eq_some_iff.mp e1).1
      simpa using this
    refine ⟨hi, fun y H' ⟨q1, c', q2, q3⟩ => ⟨ω', q1.symm, Ext.refl _, r', ?_⟩⟩
    have : c = c' := by
      rw [Array.getElem?_toList] at e1
      rw [e1] at q2
      exact Option.some.inj q2
    rw [q3, this]; exact str_rd
  · rw [List.getElem?_map, Option.map_eq_none_iff, List.getElem?_eq_none_iff] at hn
    show x.cps.size ≤ i
    simpa using hn
theorem di_str {X : Cx} {W : WX} {tg e : Expr} {m : SE} (he : DE X W e m) : DI X W tg e (iSgn m) := di_of (pi_str he) fun σ H R ⟨ω, h, ds, e1, r, s, p⟩ => by
  subst e1
  refine ⟨ω, h, ds, rfl, r, s, Post.bd (show Post X.K X.mg W σ ω _ R ((m ds h).bd _) from p) fun d h1 v ω1 e1 r1 d1 p1 => ?_⟩
  split at p1
  · rename_i x
    exact ⟨x, rd_str d1, p1 _ ω1 (Ext.refl _) r1 itOk_sgn⟩
  · exact False.elim p1
end Mp
/-! LayX: exceptions of own classes over Exception, their making. -/
namespace Mp
open PySem PySem.Spec PyProof.Rows L2
def exT : List Value := [.type "Exception", .type "BaseException", .type "object"]
/-- own classes, then those of Exception -/
def refsE : List Value → Bool
  | .ref _ :: r => refsE r
  | l => l == exT
theorem refsE_ind {P : List Value → Prop} (h0 : P exT) (h1 : ∀ c r, P r → P (.ref c :: r)) : ∀ l, refsE l = true → P l
  | [], e => absurd e (by decide)
  | a :: r, e => by
    cases a with
    | ref c => exact h1 c r (refsE_ind h0 h1 r e)
    | _ => (have z := (beq_iff_eq (α := List Value)).mp e); (first | (rw [z]; exact h0) | (exact absurd z (by simp [exT])))
theorem refsE_pass (self : Value) : ∀ l, refsE l = true → refuseLoop self "__setattr__" l = pure () :=
  refsE_ind (F.store_Exception.passes self) fun c r h => by rw [refuseLoop_ref]; exact h
theorem refsE_has (X : String) : ∀ l : List Value, refsE l = true → l.contains (.type X) = exT.contains (.type X) :=
  refsE_ind rfl fun c r h => by rw [List.contains_cons, h]; rfl
theorem refsE_ne : ∀ l : List Value, refsE l = true → l.isEmpty = false := refsE_ind rfl fun _ _ _ => rfl
section
open Builtin Builtin.ObjectAttr
variable {prog : Program} {w : World} {A : Around} {R : Result → Shared → Prop} {hp : Heap} {g : Array GenState} {d : Drawn} {t : Nat} {os : OsState}
/-- the walk to the exception's own dict -/
theorem xset_walk {K : W.Frag} {name : Str} {tk : Tok} {v : Value} {x C : Addr} {ox : Obj} {od : Option Obj} {cd : ClassData}
    (X : K.In hp) (I : W.InstAt hp x ox C od) (hcd : W.clsIn K C = some cd) (hm : refsE cd.mro = true) (ha : W.findIn K (.ref C) name = some none)
    (hq : wpAny (model prog w) A.in1 (storeInOwnDict (.ref x) (.ref C) (.str name tk) name v false)
      (fun fin s' => match fin with | .done f => R (.ok f) s' | .again c' => c'.quiet = true ∧ codeAny (model prog w) A c' R s') (fun e s' => R (.error e) s') ⟨hp, g, d, t, os⟩) :
    codeAny (model prog w) A (.call (.builtin "object.__setattr__") ⟨[.ref x, .str name tk, v], []⟩) R ⟨hp, g, d, t, os⟩ := by
  have SF := F.store_object
  have hob : cd.mro.contains (.type "object") = true := (refsE_has "object" _ hm).trans (by decide +kernel)
  have hmro : W.mroIn K C (.type "object") = some true := by
    unfold W.mroIn
    rw [hcd, Option.bind_some, if_neg (by rw [refsE_ne _ hm]; decide), hob]
  have sub : W.Looks (model prog w) hp (isInstance (.ref x) (.type "object")) true := I.type.andThen (W.looks_mroIn X hmro)
  refine codeAny_call_builtin SF.slot.plain SF.entry (@W.check_slot (model prog w) _ _ ⟨hp, g, d, t, os⟩ "object.__setattr__" "object" "__setattr__" (.ref x) [.str name tk, v] [] _ SF.kind SF.split sub (SF.args (.ref x) (.str name tk) v) ?_)
  have hmr : W.Looks (model prog w) hp (mroOf (.ref C)) cd.mro := (W.looks_clsIn X hcd).andThen .now
  have L3 : W.Looks (model prog w) hp (storeTaker? none) none := .now
  rw [W.osa_eq, refuse_eq]
  refine wpAny_bind (wpAny_bind (I.type.at (wpAny_bind (hmr.at ?_))))
  rw [refsE_pass _ _ hm]
  exact wpAny_pure (wpAny_bind (I.type.at (wpAny_bind ((W.looks_findIn X ha).at (wpAny_bind (L3.at hq))))))
theorem xset_new {K : W.Frag} {name : Str} {tk : Tok} {v : Value} {x C : Addr} {fv : Array Value} {cd : ClassData}
    (X : K.In hp) (hx : hp.get? x = some { cls := .ref C, data := .fields fv }) (hcd : W.clsIn K C = some cd) (hm : refsE cd.mro = true) (hh : cd.hasDict = true) (ha : W.findIn K (.ref C) name = some none)
    (hq : ∀ h' tk' dx, (∀ b o, b ≠ x → hp.get? b = some o → h'.get? b = some o) → hp.objs.size ≤ dx → dx ≠ x → h'.get? x = some { cls := .ref C, dict := some dx, data := .fields fv } →
      h'.Ns1 dx (fun y => if y = name then some v else none) → R (.ok (.ret .none)) ⟨h', g, d, tk', os⟩) :
    codeAny (model prog w) A (.call (.builtin "object.__setattr__") ⟨[.ref x, .str name tk, v], []⟩) R ⟨hp, g, d, t, os⟩ := by
  have hxs : x ≠ hp.objs.size := Nat.ne_of_lt (Heap.lt_size hx)
  refine xset_walk X (⟨hx, rfl, rfl, trivial⟩ : W.InstAt hp x { cls := .ref C, data := .fields fv } C none) hcd hm ha ?_
  have hcls : W.Looks (model prog w) hp (classData C) cd := W.looks_clsIn X hcd
  obtain ⟨nm, bs, mro, ns, qn, hd, sn, sb, ab, col, del⟩ := cd
  dsimp only at hh
  subst hh
  unfold storeInOwnDict ownDictForStores
  repeat (first | with_reducible refine HandSPX.store_in_new ?_ ?_ | with_reducible refine wpAny_loadPart_at hx ?_ | with_reducible refine hcls.at ?_ | wp_step)
  · exact ⟨_, #[], _, (Heap.get?_update_ne _ _ _ _ hxs.symm).trans (Heap.get?_push_at rfl rfl), rfl, fun e he => absurd he (by simp), fun _ => rfl⟩
  · intro h' tk' hn' hs
    have hx₁ : (hp.push { cls := .type "dict", data := .dict #[] }).get? x = some { cls := .ref C, data := .fields fv } := Heap.get?_push_of_some _ hx
    refine hq h' tk' hp.objs.size (fun b o hb ho => ?_) (Nat.le_refl _) hxs.symm ?_ hn'
    · exact (hs.2 b (Nat.ne_of_lt (Heap.lt_size ho))).trans ((Heap.get?_update_ne _ _ _ _ hb).trans (Heap.get?_push_of_some _ ho))
    · exact (hs.2 x hxs).trans (Heap.get?_update_self _ hx₁ rfl)
theorem xset_old {K : W.Frag} {name : Str} {tk : Tok} {v : Value} {x C dx : Addr} {fv : Array Value} {cd : ClassData} {m0 : Str → Option Value} {nl : List Str}
    (X : K.In hp) (hx : hp.get? x = some { cls := .ref C, dict := some dx, data := .fields fv }) (hns : hp.Ns1 dx m0) (hw : Within m0 nl) (hz : nl.length ≤ 1000) (hcd : W.clsIn K C = some cd) (hm : refsE cd.mro = true) (hh : cd.hasDict = true)
    (ha : W.findIn K (.ref C) name = some none)
    (hq : ∀ h' tk', (∀ b o, b ≠ dx → hp.get? b = some o → h'.get? b = some o) → h'.Ns1 dx (fun y => if y = name then some v else m0 y) → R (.ok (.ret .none)) ⟨h', g, d, tk', os⟩) :
    codeAny (model prog w) A (.call (.builtin "object.__setattr__") ⟨[.ref x, .str name tk, v], []⟩) R ⟨hp, g, d, t, os⟩ := by
  obtain ⟨oD, esD, epD, hoD, hdD, _⟩ := hns.count hw
  refine xset_walk X (⟨hx, rfl, rfl, hoD⟩ : W.InstAt hp x { cls := .ref C, dict := some dx, data := .fields fv } C (some oD)) hcd hm ha ?_
  have hcls : W.Looks (model prog w) hp (classData C) cd := W.looks_clsIn X hcd
  obtain ⟨nm, bs, mro, ns, qn, hd, sn, sb, ab, col, del⟩ := cd
  dsimp only at hh
  subst hh
  unfold storeInOwnDict ownDictForStores
  repeat (first | with_reducible refine ESX.store_in_old hns hw hz ?_ | with_reducible refine wpAny_loadPart_at hx ?_ | with_reducible refine hcls.at ?_ | wp_step)
  intro h' tk' hn' hs
  exact hq h' tk' (fun b o hb ho => (hs.2 b hb).trans ho) hn'
end
/-- what the written part says of such a class -/
structure ExM (K : PySem.W.Frag) (C : Addr) : Prop where
  cls : ∃ nm q N bs bm sn sub ab col dd k0 k1 k2 k3 k5, K.lookup C = some (excClassObj nm q C N bs bm true sn sub ab col dd k0 k1 k2 k3 k5 "Exception.__new__") ∧ refsE bm = true
  sa : PySem.W.findIn K (.ref C) "__setattr__" = some (some (.builtin "object.__setattr__"))
  exC : PySem.W.subIn K (.ref C) (.type "BaseException") = some true
  tyC : PySem.W.typeIn K (.ref C) = some (.type "type")
  kC : PySem.W.keepIn K (.ref C) = true
section
variable {X : Cx} {pins : List (Addr × Obj)} {σ : L2.St} {H : Hp} {s : Shared} {a C dx : Addr} {f : Str} {y : V} {u : Value} {fs : List (Str × V)} {Q : Unit → Shared → Prop} {E : Value → Shared → Prop} {A : Around}
/-- self.f = y, the first one -/
theorem xst_new (T : ExM X.K C) (I : Inv X pins σ H s) (e : H a = some (exo a C none)) (hno : PySem.W.findIn X.K (.ref C) f = some none) (ry : RelV y u)
    (h : ∀ dx s', H dx = none → dx ≠ a → Inv X pins σ (upd (upd H dx (exd dx [(f, y)])) a (exo a C (some dx))) s' → Q () s') : wpAny (model X.prog X.w) A (setAttr (.ref a) f u) Q E s := by
  obtain ⟨nm, q, N, bs, bm, sn, sub, ab, col, dd, k0, k1, k2, k3, k5, hC, hbm⟩ := T.cls
  have hcl : PySem.W.clsIn X.K C = some { name := nm, bases := bs, mro := .ref C :: bm, ns := N, qualname := q, hasDict := true, slotNames := sn, subclasses := sub, abstract := ab, collection := col, hasDel := false } := by unfold PySem.W.clsIn; rw [hC] <;> rfl
  obtain ⟨t1, ho⟩ := exo_at I.hok e
  obtain ⟨hp, g, d, t, os⟩ := s
  refine PySem.W.set_plain I.kIn (ox := { cls := .ref C, dict := none, data := .fields #[.ref t1, .none, .none, .none, .bool false, .none] }) (od := none) ⟨ho, rfl, rfl, trivial⟩ T.sa ?_
  refine xset_new I.kIn ho hcl (show refsE (.ref C :: bm) = true from hbm) rfl hno (fun h' tk' dx k dn dne hx hn => ?_)
  have hnd : H dx = none := I.hok.fresh dn
  have nd : ∀ {b : Addr} {o : Obj}, hp.get? b = some o → b ≠ dx := fun {b o} q => Nat.ne_of_lt (Nat.lt_of_lt_of_le (Heap.lt_size q) dn)
  have na : ∀ {b : Addr}, H b = none → b ≠ a := fun {b} n z => by
    rw [z, e] at n
    cases n
  have Un1 : Un X.fs [] H (upd (upd H dx (exd dx [(f, y)])) a (exo a C (some dx))) hp h' := {
    keep := fun b o q n _ _ => k b o (na n) q
    slot := fun b o q n _ _ => ⟨o.slots, k b o (na n) q⟩
    free := fun b o q n _ => by rw [upd_ne (na n), upd_ne (nd q)]; exact n
    there := fun b o q _ => by
      by_cases hb : b = a
      · exact ⟨_, by rw [hb]; exact hx⟩
      · exact ⟨o, k b o hb q⟩
    tups := fun b xs q => by rw [upd_ne (at_ne e q exo_tup), upd_ne (ne_of_none q hnd)]; exact q
    frzs := fun b o v q => by rw [upd_ne (at_ne e q exo_frz), upd_ne (ne_of_none q hnd)]; exact q
    tbls := fun b ps q => ⟨#[], by rw [upd_ne (at_ne e q exo_tbl), upd_ne (ne_of_none q hnd), q]; simp⟩ }
  refine h dx _ hnd dne (I.un (t' := tk') Un1 fun b o q => ?_)
  by_cases hb : b = a
  · subst hb
    rw [upd_same] at q
    cases q
    exact exo_ok hx
  · rw [upd_ne hb] at q
    by_cases hd : b = dx
    · subst hd
      rw [upd_same] at q
      cases q
      exact exd_ok hn (relO_put (fs := []) ry fun g => True.intro)
    · rw [upd_ne hd] at q
      exact (I.hok b o q).stay (fun c v hc z => k c v (by
          rcases hc with hc | hc
          · rw [hc]
            exact hb
          · exact at_ne e hc exo_own) z)
        (fun c hc => by rw [upd_ne (at_ne e hc exo_own), upd_ne (ne_of_none hc hnd)]; exact hc) (fun c xs hc => by rw [upd_ne (at_ne e hc exo_tup), upd_ne (ne_of_none hc hnd)]; exact hc)
/-- self.f = y, a further one -/
theorem xst_old (T : ExM X.K C) (I : Inv X pins σ H s) (e : H a = some (exo a C (some dx))) (ed : H dx = some (exd dx fs)) (hl : fs.length ≤ 900) (hno : PySem.W.findIn X.K (.ref C) f = some none) (ry : RelV y u)
    (h : ∀ s', Inv X pins σ (upd H dx (exd dx ((f, y) :: fs))) s' → Q () s') : wpAny (model X.prog X.w) A (setAttr (.ref a) f u) Q E s := by
  obtain ⟨nm, q, N, bs, bm, sn, sub, ab, col, dd, k0, k1, k2, k3, k5, hC, hbm⟩ := T.cls
  have hcl : PySem.W.clsIn X.K C = some { name := nm, bases := bs, mro := .ref C :: bm, ns := N, qualname := q, hasDict := true, slotNames := sn, subclasses := sub, abstract := ab, collection := col, hasDel := false } := by unfold PySem.W.clsIn; rw [hC] <;> rfl
  obtain ⟨t1, ho⟩ := exo_at I.hok e
  obtain ⟨mA, hns, rel⟩ := exd_at I.hok ed
  have hw := within_of rel
  obtain ⟨hp, g, d, t, os⟩ := s
  obtain ⟨oD, _, _, hoD, _, _⟩ := hns.count hw
  refine PySem.W.set_plain I.kIn (ox := { cls := .ref C, dict := some dx, data := .fields #[.ref t1, .none, .none, .none, .bool false, .none] }) (od := some oD) ⟨ho, rfl, rfl, hoD⟩ T.sa ?_
  refine xset_old I.kIn ho hns hw (by rw [List.length_map]; omega) hcl (show refsE (.ref C :: bm) = true from hbm) rfl hno (fun h' tk' k hn => ?_)
  have hd : ∃ o, h'.get? dx = some o := by
    obtain ⟨o, _, _, e', _⟩ := hn
    exact ⟨o, e'⟩
  exact h _ (I.write (t' := tk') (x := dx) (e := dx) (o := exd dx ((f, y) :: fs)) (by rw [ed]; exact True.intro) (.inl rfl) k hd (exd_ok hn (relO_put ry rel)))
end
/-- self.f = e -/
def tXst (K : PySem.W.Frag) (f : Str) (to te : TE) : TS := fun D σ H => te σ H fun y H1 => to σ H1 fun x H2 => ∃ a C : Addr, x = .ref a ∧ ExM K C ∧ PySem.W.findIn K (.ref C) f = some none ∧
  ((H2 a = some (exo a C none) ∧ ∀ dx, H2 dx = none → dx ≠ a → D.nx σ (upd (upd H2 dx (exd dx [(f, y)])) a (exo a C (some dx)))) ∨
    ∃ (dx : Addr) (fs : List (Str × V)), H2 a = some (exo a C (some dx)) ∧ H2 dx = some (exd dx fs) ∧ fs.length ≤ 900 ∧ D.nx σ (upd H2 dx (exd dx ((f, y) :: fs))))
theorem ps_xst {X : Cx} {o e : Expr} {to te : TE} {f : Str} {p' pos : Pos} (ho : PE X o to) (he : PE X e te) (hs : swapsWith e (some (.Attribute o f p')) pos.line X.env = pure false := by rfl) : PS X (.Assign [.Attribute o f p'] e pos) (tXst X.K f to te) := by
  refine ⟨fun pins s σ H D I h => ?_⟩
  refine plainObj_wpAny_Assign_Attribute (thn (he.run pins s σ H _ I h) fun v s1 ⟨y, H1, I1, r1, q1⟩ => thn (ho.run pins s1 σ H1 _ I1 q1) fun u s2 ⟨x, H2, I2, r2, a, C, ex, T, hno, q⟩ => ?_) hs
  subst ex
  obtain rfl : u = Value.ref a := r2
  rcases q with ⟨ea, q⟩ | ⟨dx, fs, ea, ed, hl, q⟩
  · exact xst_new T I2 ea hno r1 fun dx s' n ne J => ⟨σ, _, J, q dx n ne⟩
  · exact xst_old T I2 ea ed hl hno r1 fun s' J => ⟨σ, _, J, q⟩
/-- C(e, ..), C's own __init__ keeping sp -/
theorem pmk_x {X : Cx} {e : Expr} {es : List Expr} {ta : TA} {p pos : Pos} {CX : CXT} {x : Str} {C fI : Addr} {k : Nat} {fd : FuncData} {ps : List Str} {sp : Sp} (T : ExM X.K C) (iC : PySem.W.findIn X.K (.ref C) "__init__" = some (some (.ref fI))) (tI : PySem.W.typeIn X.K (.ref fI) = some (.type "function"))
    (F1 : FnOk X.prog X.w X.K X.mg X.base CX k fI fd ps sp) (hr : Room (k + 1) X.A) (hb : Binds X.K fd ps []) (hx : Passes CX X (fun _ _ _ => False)) (hg : Gl X x) (hm : X.mg x = some (.ref C)) (ha : PA X (e :: es) ta)
    (hdb : (x == ("__debug__" : Str)) = false := by decide) (he : starEach (e :: es) X.env = (false, eval e X.env) :: starEach es X.env := by rfl) (hpl : (backTo pos (starEach es X.env)).any (·.1) = false := by rfl) :
    PMk X (.Call (.Name x p) (e :: es) [] pos) (tMkO C sp [] ta) := by
  intro pins s σ H Q I h
  obtain ⟨nm, q, N, bs, bm, sn, sub, ab, col, dd, k0, k1, k2, k3, k5, hC, hbm⟩ := T.cls
  refine wpAny_Call_Name_kw (ld_glob I hg hm ?_ hdb)
  refine PySem.W.callWith_K (h₀ := X.base) I.ok.mod.kin T.kC (thn (ha.run pos pins s σ H _ I h) fun us s1 ⟨vs, H1, I1, r1, hz, q1⟩ => ⟨I1.kIn, ?_⟩) he hpl
  show wpAny _ _ (call (.ref C) us) _ _ _
  obtain ⟨hp, g, dr, tk, os⟩ := s1
  have hsz : hp.objs.size ≤ hp.objs.size + 1 := Nat.le_succ _
  have hn : H1 (hp.objs.size + 1) = none := I1.hok.fresh hsz
  have hq := q1 (hp.objs.size + 1) hn
  have kk : ∀ b o, hp.get? b = some o → ((hp.push (PySem.W.kdv_tup us)).push (PySem.HandSPX.excO C hp.objs.size)).get? b = some o := fun b o e => Heap.get?_push_of_some _ (Heap.get?_push_of_some _ e)
  have hget : ((hp.push (PySem.W.kdv_tup us)).push (PySem.HandSPX.excO C hp.objs.size)).get? (hp.objs.size + 1) = some (PySem.HandSPX.excO C hp.objs.size) := by heap_get
  have I2 : Inv X pins σ (upd H1 (hp.objs.size + 1) (exo (hp.objs.size + 1) C none)) ⟨(hp.push (PySem.W.kdv_tup us)).push (PySem.HandSPX.excO C hp.objs.size), g, dr, tk, os⟩ :=
    I1.laid (t' := tk) (a := hp.objs.size + 1) (o := exo (hp.objs.size + 1) C none) (h' := (hp.push (PySem.W.kdv_tup us)).push (PySem.HandSPX.excO C hp.objs.size)) kk hsz (exo_ok hget)
  have r2 : Vals (V.ref (hp.objs.size + 1) :: (vs ++ [])) (Value.ref (hp.objs.size + 1) :: (us ++ [])) := .cons rfl (r1.append .nil)
  have hl : (Value.ref (hp.objs.size + 1) :: us ++ []).length = ps.length := by
    have e := r2.length
    rw [F1.len _ _ _ _ hq] at e
    exact e.symm
  have hus : us.length ≤ sizeLine := by
    rw [← Paired.length r1, sizeLine_eq]
    omega
  have hbb := hb _ (Value.ref (hp.objs.size + 1) :: us) I2.kIn hl
  rw [List.cons_append] at hbb
  refine wpAny_call (PySem.HandSPX.call_own F.excBase_Exception (fun Y => refsE_has Y bm hbm) (I1.kIn _ _ hC) (PySem.W.looks_findIn I1.kIn iC) (fun self => PySem.W.bind_fn I1.kIn self tI) hus
    (codeAny_mono (F1.run _ X.stack _ _ ⟨Value.ref (hp.objs.size + 1) :: us, []⟩ (Value.ref (hp.objs.size + 1) :: (us ++ [])) _ _ (fun _ _ _ => False) (hr.make C us []) (I2.env0.make C us []) hbb r2 hq) fun r s' hq' => ?_))
  cases r with
  | error er => exact hx pins σ _ _ er s' I2 hq'
  | ok fl =>
    cases fl with
    | ret u =>
      obtain ⟨v, H2, os2, bare2, un2, hok2, rv, ev, d, fs, ea, ed, hd1, q2⟩ := hq'
      subst ev
      obtain ⟨h2, g2, d2, t2, os'⟩ := s'
      exact ⟨rv, mk_end (raises_own T.exC T.tyC) I1 hsz kk un2 hok2 os2 bare2 ea ed hd1 q2⟩
    | next => exact False.elim hq'
    | brk => exact False.elim hq'
    | cont => exact False.elim hq'
/-! ### __init__ -/
/-- def __init__(self, y): self.f = y -/
def spX1 (f : Str) (K : PySem.W.Frag) : Sp := fun vs H Q _ => ∃ (a C : Addr) (y : V), vs = [.ref a, y] ∧ ExM K C ∧ PySem.W.findIn K (.ref C) f = some none ∧ H a = some (exo a C none) ∧
  ∀ dx, H dx = none → dx ≠ a → Q .non (upd (upd H dx (exd dx [(f, y)])) a (exo a C (some dx)))
/-- def __init__(self, y, z): self.f = y; self.g = z -/
def spX2 (f g : Str) (K : PySem.W.Frag) : Sp := fun vs H Q _ => ∃ (a C : Addr) (y z : V), vs = [.ref a, y, z] ∧ ExM K C ∧ PySem.W.findIn K (.ref C) f = some none ∧ PySem.W.findIn K (.ref C) g = some none ∧ H a = some (exo a C none) ∧
  ∀ dx, H dx = none → dx ≠ a → Q .non (upd (upd (upd H dx (exd dx [(f, y)])) a (exo a C (some dx))) dx (exd dx [(g, z), (f, y)]))
theorem x1_len {f : Str} {K : PySem.W.Frag} (vs : List V) (H : Hp) (Q : VK) (E : XK) (h : spX1 f K vs H Q E) : vs.length = 2 := by
  obtain ⟨a, C, y, rfl, _⟩ := h; rfl
theorem x1_rd {f : Str} {K : PySem.W.Frag} {vs : List V} {H : Hp} {Q : VK} {E : XK} {N : List Str} (hn : N.length = 2) (h : spX1 f K vs H Q E) :
    tXst K f (tVar 0) (tVar 1) { nx := fun _ H' => Q .non H', rt := Q } (L2.start N vs) H := by
  obtain ⟨a, C, y, rfl, T, no, e, q⟩ := h
  match N, hn with
  | [_, _], _ => exact ⟨y, rfl, .ref a, rfl, a, C, rfl, T, no, .inl ⟨e, fun dx n ne => q dx n ne⟩⟩
/-! ### raise -/
/-- a class of exceptions with its __init__ -/
def XCls (P : Program) (w : World) (K : PySem.W.Frag) (mg : Str → Option Value) (x : Str) (ps fs : List Str) (sp : PySem.W.Frag → Sp) : Prop :=
  ∃ (C fI : Addr) (fd : FuncData), mg x = some (.ref C) ∧ ExM K C ∧ PySem.W.findIn K (.ref C) "__init__" = some (some (.ref fI)) ∧ PySem.W.typeIn K (.ref fI) = some (.type "function") ∧ Binds K fd ps [] ∧
    (∀ base : Heap, FnOk P w K mg base CX0 1 fI fd ps (sp K)) ∧ ∀ f ∈ fs, PySem.W.findIn K (.ref C) f = some none
def sRaise (x : Str) (fs : List Str) (as : SA) : SS := fun ds h => sBd (as ds h) ds fun vs h1 => if vs.length = fs.length then .ex x fs vs.reverse ds h1 else .bad
section
variable {X : Cx} {W : WX} {e e2 : Expr} {as : SA} {x f g y z : Str} {p pos pos2 : Pos}
theorem del_x1 {H1 : Hp} {a dx : Addr} {o : HO} (ha : H1 a = none) (ne : dx ≠ a) (u1 u2 u4 : HO) :
    upd (del (upd (upd (upd H1 a u1) dx u2) a u4) a) dx o = upd H1 dx o := by
  funext b
  by_cases hb : b = dx
  · rw [hb, upd_same, upd_same]
  · rw [upd_ne hb, upd_ne hb]
    by_cases hb2 : b = a
    · rw [hb2, del_same, ha]
    · rw [del_ne hb2, upd_ne hb2, upd_ne hb, upd_ne hb2]
theorem ds_raise1 (hc : X.calm = true) (tk : Takes X W) (T : XCls X.prog X.w X.K X.mg x ["self", y] [f] (spX1 f)) (hr : Room 2 X.A) (hg : Gl X x) (ha : DA X W [e] as)
    (hdb : (x == ("__debug__" : Str)) = false := by decide) (he : starEach [e] X.env = [(false, eval e X.env)] := by rfl) :
    DS X W (.Raise (some (.Call (.Name x p) [e] [] pos)) none pos2) (sRaise x [f] as) := by
  obtain ⟨C, fI, fd, gC, E, iC, tI, b, F, no⟩ := T
  refine ds_of (ps_raise hc tk (pmk_x E iC tI (F X.base) hr b pass0 hg gC ha hdb he rfl)) fun D σ H ⟨ω, h, ds, e1, r, s, pp⟩ => ?_
  subst e1
  refine ⟨ω, h, ds, rfl, r, s, PostO.bd r s pp fun xs h1 vs ω1 ex r1 rl s1 p1 => ?_⟩
  obtain ⟨hl, p1⟩ := p1.if_
  match xs, hl with
  | [d], _ =>
    obtain ⟨v, ws, rfl, rv, rn⟩ := rl.inv
    rw [rn.inv0]
    refine ⟨by simp, fun a ha => ⟨a, C, v, rfl, E, no f (by simp), upd_same, fun dx n ne => ?_⟩⟩
    have nd : ω1.H dx = none := by rw [upd_ne ne] at n; exact n
    refine ⟨rfl, dx, [(f, v)], upd_same, ?_, nd, ?_⟩
    · rw [upd_ne ne, upd_same]
    · rw [del_x1 ha ne]
      refine p1 (.ref C) (some dx) σ (ω1.up dx (.xd [(f, v)])) (Ext.up nd) (r1.up nd) (monoS r1 (Ext.up nd) s1) ⟨C, dx, [v], rfl, rfl, gC, upd_same, rfl, monoL r1 (Ext.up nd) _ _ (RelL.cons rv RelL.nil)⟩
end
end Mp
/-! LayY: what a call told: a lambda handed to a def that calls it in a try. -/
namespace Mp
open PySem PySem.Spec PyProof.Rows L2
/-! ### several clauses, each with the name n in slot i -/
abbrev Clauses := List (Value × (Addr → Value → Option Addr → TS))
def wAsM (K : PySem.W.Frag) (i : Nat) (D : Ends) : Clauses → WX
  | [] => fun _ _ _ _ => False
  | (c, ts) :: r => fun cls d σ H => ∃ b, PySem.W.exmOne K cls c = some b ∧
      (b = true → i < σ.length → ∀ a, H a = none → ts a cls d { nx := fun σ' H' => D.nx (σ'.set i none) H', rt := D.rt, bk := fun σ' H' => D.bk (σ'.set i none) H', ct := fun σ' H' => D.ct (σ'.set i none) H' } (σ.set i (some (.ref a))) H) ∧
      (b = false → wAsM K i D r cls d σ H)
inductive HdsAs (X : Cx) (n : Str) : List ExceptHandler → Clauses → Prop
  | nil : HdsAs X n [] []
  | cons {x : Str} {c : Value} {ts : Addr → Value → Option Addr → TS} {b₀ : Stmt} {suite : List Stmt} {np pos' : Pos} {hds : List ExceptHandler} {l : Clauses} (hc : Names X x c)
      (hsu : ∀ (a : Addr) (oe : Obj) (cls : Value) (d : Option Addr) (pn : List (Addr × Obj)), Zc cls d oe → (∃ vs, oe.data = .fields vs) → PSs (X.suite a ((a, oe) :: pn)) (b₀ :: suite) (ts a cls d)) (r : HdsAs X n hds l) :
      HdsAs X n (.ExceptHandler (some (.Name x np)) (some n) (b₀ :: suite) pos' :: hds) ((c, ts) :: l)
section
variable {X : Cx} {n : Str} {i : Nat} {body : List Stmt} {h₀ : ExceptHandler} {hds : List ExceptHandler} {l : Clauses} {pos : Pos} {tb : WX → TS}
end
/-! ### told: try: return ("value", deed()) / except C as why: return ("C", why.f, ..) -/
/-- one clause: the class, what it is called, its fields in the order in which they are told -/
abbrev TTab := List (Addr × Str × List Str)
/-- what the clauses make of an exception -/
def wTold (K : PySem.W.Frag) (Q : VK) : TTab → Value → Option Addr → Hp → Prop
  | [], _, _, _ => False
  | (C, x, fs) :: r, cls, d, H => ∃ b, PySem.W.exmOne K cls (.ref C) = some b ∧
      (b = true → cls = .ref C ∧ ∃ (dd : Addr) (l : List (Str × V)) (vs : List V), d = some dd ∧ H dd = some (.xd l) ∧ (fs.map fun f => l.lookup f) = vs.map some ∧ vs.length ≤ 100 ∧ ∀ t, H t = none → Q (.ref t) (upd H t (.tup (.str x :: vs)))) ∧
      (b = false → wTold K Q r cls d H)
def TTold (K : PySem.W.Frag) (tab : TTab) : (XK → Hp → VK → Prop) → Hp → VK → Prop := fun tl H Q =>
  tl (fun cls d H' => wTold K Q tab cls d H') H (fun v H' => ([.str "value", v] : List V).length ≤ sizeLine ∧ ∀ t, H' t = none → Q (.ref t) (upd H' t (.tup [.str "value", v])))
/-- what the top says of a class that is caught -/
structure XRd (K : PySem.W.Frag) (mg : Str → Option Value) (x : Str) (C : Addr) (fs : List Str) : Prop where
  g : mg x = some (.ref C)
  t : XfC K C
  no : ∀ f ∈ fs, PySem.W.findIn K (.ref C) f = some none
/-- the clauses of such a def, n the name in them -/
inductive ToldHs (K : PySem.W.Frag) (mg : Str → Option Value) (sg : Scope) (n : Str) : List ExceptHandler → TTab → Prop
  | nil : ToldHs K mg sg n [] []
  | one {x f : Str} {C : Addr} {hds : List ExceptHandler} {l : TTab} {j k : Nat} {p1 p2 p3 p4 p5 p6 p7 : Pos} (h : XRd K mg x C [f]) (hg : sg.names.lookup x = some .globalImplicit) (hd : (x == ("__debug__" : Str)) = false) (r : ToldHs K mg sg n hds l) :
      ToldHs K mg sg n (.ExceptHandler (some (.Name x p1)) (some n) [.Return (some (.Tuple [.Constant (.str x) j p2, .Attribute (.Name n p3) f p4] k p5)) p6] p7 :: hds) ((C, x, [f]) :: l)
  | two {x f f2 : Str} {C : Addr} {hds : List ExceptHandler} {l : TTab} {j k : Nat} {p1 p2 p3 p4 p5 p6 p7 p8 p9 : Pos} (h : XRd K mg x C [f, f2]) (hg : sg.names.lookup x = some .globalImplicit) (hd : (x == ("__debug__" : Str)) = false) (r : ToldHs K mg sg n hds l) :
      ToldHs K mg sg n (.ExceptHandler (some (.Name x p1)) (some n) [.Return (some (.Tuple [.Constant (.str x) j p2, .Attribute (.Name n p3) f p4, .Attribute (.Name n p8) f2 p9] k p5)) p6] p7 :: hds) ((C, x, [f, f2]) :: l)
/-- the suites' readings -/
def tSuite1 (i : Nat) (C : Addr) (y f : Str) : Addr → Value → Option Addr → TS := fun a cls d => tRet (tTup (tCons (tC (.str y)) (tCons (tXf a cls d C f (tVar i)) tNil)))
def tSuite2 (i : Nat) (C : Addr) (y f f2 : Str) : Addr → Value → Option Addr → TS := fun a cls d => tRet (tTup (tCons (tC (.str y)) (tCons (tXf a cls d C f (tVar i)) (tCons (tXf a cls d C f2 (tVar i)) tNil))))
def clausesOf (i : Nat) : TTab → Clauses
  | [] => []
  | (C, y, [f]) :: r => (.ref C, tSuite1 i C y f) :: clausesOf i r
  | (C, y, [f, f2]) :: r => (.ref C, tSuite2 i C y f f2) :: clausesOf i r
  | _ :: r => clausesOf i r
/-- one or two fields -/
def tabWf : TTab → Prop
  | [] => True
  | (_, _, fs) :: r => (fs.length = 1 ∨ fs.length = 2) ∧ tabWf r
/-! ### as data -/
def toldTab : List (Str × List Str) := [("BadValue", ["at"]), ("BadText", ["at"]), ("Unknown", ["name"]), ("NoChance", ["word"]), ("Crowded", ["first", "last"]), ("NoDay", ["name"]), ("Missing", ["at"]), ("TakenName", ["name"]), ("Short", ["rows"])]
def toldOk (x : Str) (fs : List Str) (n : Nat) : Bool := (toldTab.any fun p => decide (p.1 = x) && decide (p.2 = fs.reverse)) && (decide fs.Nodup && decide (n = fs.length))
def eTold (m : SE) : SE := fun ds h => match m ds h with
  | .ok v h' => .ok (.tup [.str "value", v]) h'
  | .ex x fs vs h' => if toldOk x fs vs.length = true then .ok (.tup (.str x :: vs.reverse)) h' else .bad
  | .bad => .bad
def exmAll (K : PySem.W.Frag) : TTab → Bool
  | [] => true
  | (C, _, _) :: r => decide (PySem.W.exmOne K (.ref C) (.ref C) = some true) && (r.all (fun p => decide (PySem.W.exmOne K (.ref p.1) (.ref C) = some false)) && exmAll K r)
/-- the def of the text that calls what it got -/
structure TellTxt (K : PySem.W.Frag) (mg : Str → Option Value) (st : Stmt) : Prop where
  D : DefAt K mg "_law_told" "_law_told" st ["deed"]
  S : FnScope ["deed", "why"] ["deed"] (defScope st)
  k : (defScope st).kind = .function
  vd : Vis (defScope st) "deed"
  vw : (defScope st).names.lookup ("why" : Str) = some .local
  ex : ∃ (tab : TTab) (j k : Nat) (p1 p2 p3 p4 p5 p6 : Pos) (h₀ : ExceptHandler) (hds : List ExceptHandler),
    defBody st = [.Try [.Return (some (.Tuple [.Constant (.str "value") j p1, .Call (.Name "deed" p2) [] [] p3] k p4)) p5] (h₀ :: hds) [] [] p6] ∧ ToldHs K mg (defScope st) "why" (h₀ :: hds) tab ∧
    tab.map (·.2) = toldTab ∧ exmAll K tab = true
/-! ### a lambda is made: nothing that was tracked is lost -/
section
variable {X : Cx} {pins : List (Addr × Obj)} {σ : L2.St} {H : Hp} {s : Shared}
def tLam3 (T : List (Addr × Str)) (TT : (XK → Hp → VK → Prop) → Hp → VK → Prop) (t : XK → TE) : TE := fun σ H Q => LamX.Tabs T H ∧ ∀ H1, LamX.ExtN H H1 → (∀ b, H1 b = none → H b = none) → LamX.Tabs T H1 → TT (fun E H' Q' => t E σ H' Q') H1 Q
end
section
variable {X : Cx} {W : WX} {k : Nat} {st : Stmt} {c P : Addr} {params : Arguments} {body : Expr} {scope : Scope} {m : SE} {p lpos pos : Pos}
/-- the same world over another heap -/
def _root_.Mp.Wo.at (ω : Wo) (H : Hp) : Wo := { ω with H := H }
end
/-! ### the law's def, its code object known -/
def DefAtC (K : PySem.W.Frag) (mg : Str → Option Value) (x qual : Str) (st : Stmt) (ps : List Str) (c : Addr) : Prop := ∃ (f : Addr) (fd : FuncData), mg x = some (.ref f) ∧ Fun K x qual st f fd ∧ Binds K fd ps [] ∧ fd.code = .ref c
section
variable {P : Program} {w : World} {K : PySem.W.Frag} {mg : Str → Option Value} {base : Heap}
theorem fn_okC {x qual : Str} {st : Stmt} {f c : Addr} {fd : FuncData} {N ps : List Str} {k : Nat} {m : SS} (F : Fun K x qual st f fd) (hc : fd.code = .ref c) (S : FnScope N ps (defScope st))
    (hb : ∀ (A : Around) (outer : List Env) (s : Shared) (H : Hp) (E : XK), Room k (A.deeper (envOfC qual (defScope st) s.heap.objs.size f (.ref c))) →
      DSs (cxOf (L2.CX P w) P w K mg base N qual (defScope st) f (.ref c) A outer s H E) (WF E) (defBody st) m) :
    FnOk P w K mg base (L2.CX P w) (k + 1) f fd ps (spD K mg ps.length (runB N.length m)) := by
  obtain ⟨oc, od, kV, doc, pm, an, cdv, ct, osl, rfl, lk, hcd⟩ := F.ex
  have hc' : cdv = .ref c := hc
  subst hc'
  refine fn_of lk hcd S (fun vs H Q E h => h.1) fun A outer s H vs Q E hr h => ?_
  refine ⟨_, hb A outer s H E hr, ?_⟩
  obtain ⟨hl, ω, h, ds, e1, r, rl, p⟩ := h
  subst e1
  have e2 : N.length - ds.length = N.length - vs.length := by rw [rl.len]
  refine ⟨ω, h, ds.map some ++ List.replicate (N.length - ds.length) none, rfl, r, by rw [e2]; exact rl.slots, ?_⟩
  unfold runB at p
  cases q : m (ds.map some ++ List.replicate (N.length - ds.length) none) h with
  | nx ds' h' => rw [q] at p; exact fun σ' ω' e r' s' => p _ ω' e r' (by unfold RelD; rfl)
  | rt d h' => rw [q] at p; exact fun v ω' e r' s' => p _ ω' e r' s'
  | bk ds' h' => rw [q] at p; exact False.elim p
  | ct ds' h' => rw [q] at p; exact False.elim p
  | ex x fs vs' ds' h' => rw [q] at p; exact fun c d σ' ω' e r' s' rx => p c d ω' e r' rx
  | bad => rw [q] at p; exact False.elim p
theorem DefAtC.good {x qual : Str} {st : Stmt} {ps N : List Str} {k : Nat} {m : SS} {c : Addr} (D : DefAtC K mg x qual st ps c) (S : FnScope N ps (defScope st))
    (hb : ∀ (f : Addr) (A : Around) (outer : List Env) (s : Shared) (H : Hp) (E : XK), Room k (DefX P w K mg base N qual st f (.ref c) A outer s H E).A → DSs (DefX P w K mg base N qual st f (.ref c) A outer s H E) (WF E) (defBody st) m) :
    Good P w K mg base x (k + 1) ps (runB N.length m) := by
  obtain ⟨f, fd, g, F, b, hc⟩ := D
  exact ⟨f, fd, g, F.kp, b, fun_lk F, fn_okC F hc S fun A outer s H E hr => hb f A outer s H E hr⟩
end
/-- the law's table, from what is written -/
theorem tabIn_mk {K : PySem.W.Frag} {x : Str} {f c P : Addr} {oc oc2 : Value} {od od2 : Option Addr} {sl sl2 : Array (Option Value)} {fd : FuncData} {vs : Array Value} (h1 : PySem.W.nsIn K mainGlobals x = some (some (.ref f))) (h2 : K.lookup f = some ⟨oc, od, .func fd, sl⟩) (h3 : fd.code = .ref c)
    (h4 : K.lookup c = some ⟨oc2, od2, .fields vs, sl2⟩) (h5 : vs[11]? = some (.ref P)) : PySem.W.tabIn K x = some (c, P) := by
  unfold PySem.W.tabIn
  rw [h1]
  simp only [h2, h3, h4, h5]
end Mp
/-! LayZ: further words. -/
namespace Mp
open PySem PySem.Spec PyProof.Rows L2
section
variable {X : Cx} {W : WX} {o i e o2 i2 : Expr} {mo mi me mo2 mi2 : SE} {as : SA} {pos posA p1 p2 : Pos} {k : Nat} {es : List Expr}
/-! ### xs[i], ys[j] = a, b -/
def sSw (as : SA) (mo mi mo2 mi2 : SE) : SS := fun ds h => sBd (as ds h) ds fun xs h1 => match xs with
  | [x, y] => sBd (mo ds h1) ds fun o h2 => sBd (mi ds h2) ds fun i h3 => match setF o i x h3 with
    | some h4 => sBd (mo2 ds h4) ds fun o2 h5 => sBd (mi2 ds h5) ds fun i2 h6 => match setF o2 i2 y h6 with
      | some h7 => .nx ds h7
      | none => .bad
    | none => .bad
  | _ => .bad
/-! ### xs[i] op= e, d[k] op= e -/
def sAugS (fget fop : D → D → Hc → R D) (fset : D → D → D → Hc → Option Hc) (mo mi me : SE) : SS := fun ds h => sBd (mo ds h) ds fun o h1 => sBd (mi ds h1) ds fun i h2 => sBd (fget o i h2) ds fun x h3 => sBd (me ds h3) ds fun y h4 => sBd (fop x y h4) ds fun z h5 => match fset o i z h5 with
  | some h6 => .nx ds h6
  | none => .bad
def ixlF (x y : D) (h : Hc) : R D := match rdlD h x, y with
  | some xs, .int i => match atI xs i with
    | some d => .ok d h
    | none => .bad
  | _, _ => .bad
end
/-! ### xs + ys, that is then changed -/
def addC (x y : D) (h : Hc) : R D := match lstD h x, lstD h y with
  | some xs, some ys => if xs.length + ys.length ≤ lim then .ok (.ref h.length) (h ++ [.lst (xs ++ ys)]) else .bad
  | _, _ => .bad
/-! ### what is never reached -/
section
variable {X : Cx} {W : WX} {e tg : Expr} {es : List Expr}
def eBad : SE := fun _ _ => .bad
def bBad : SB := fun _ _ => .bad
def iBad : SI := fun _ _ => .bad
def aBad : SA := fun _ _ => .bad
end
end Mp
/-! LayW: a, b, c = ..; {k: v}; xs.index(x); d.get(..). -/
namespace Mp
open PySem PySem.Spec PyProof.Rows L2
section
variable {X : Cx} {W : WX} {e o k v : Expr} {mo me mx : SE} {as : SA} {pos apos cpos : Pos}
/-! ### a, b, c = x, y, z -/
def sPar3 (i j l : Nat) (as : SA) : SS := fun ds h => sBd (as ds h) ds fun xs h1 => match xs with
  | [x, y, z] => .nx (((ds.set i (some x)).set j (some y)).set l (some z)) h1
  | _ => .bad
/-! ### {k: v} of plain words -/
structure Pl (X : Cx) (e : Expr) (g : Sl → Option D) : Prop where
  ex : ∃ t : TE, PE X e t ∧ ∀ (σ : L2.St) (ω : Wo) (ds : Sl) (d : D), RelS X.K ω ds σ → g ds = some d → ∃ v, RelD X.K ω d v ∧ ∀ (H : Hp) (Q : VK), Q v H → t σ H Q
def gVar (i : Nat) : Sl → Option D := fun ds => match ds[i]? with
  | some (some d) => some d
  | _ => none
def gC (d : D) : Sl → Option D := fun _ => some d
def eDct1 (gk gv : Sl → Option D) : SE := fun ds h => match gk ds, gv ds with
  | some x, some y => match keyD x with
    | some kk => .ok (.ref h.length) (h ++ [.dct [kk] [y]])
    | none => .bad
  | _, _ => .bad
/-! ### xs.index(i), of ints -/
def allI : List D → Bool
  | [] => true
  | .int _ :: r => allI r
  | _ => false
def idxI : List D → Int → Option Nat
  | .int a :: r, i => if a = i then some 0 else (idxI r i).map (· + 1)
  | _, _ => none
def idxF (x : D) (as : List D) (h : Hc) : R D := match lstD h x, as with
  | some xs, [.int i] => if allI xs = true then (match idxI xs i with
      | some j => .ok (.int (j : Nat)) h
      | none => .bad) else .bad
  | _, _ => .bad
end
end Mp
/-! LayS: how the mirrors are reckoned. -/
namespace Mp
open PySem PySem.Spec PyProof.Rows L2
@[simp] theorem lim_eq : lim = 1000000 := Eq.trans rfl rfl
section
variable (i j : Nat) (ds : Sl) (h : Hc) (d x y : D) (f : D → D → Hc → R D) (m ma mb : SE) (t u : SB) (as : SA) (a b : SS)
@[simp] theorem eVar_s : eVar i ds h = match ds[i]? with
  | some (some d) => .ok d h
  | _ => .bad := Eq.trans rfl rfl
@[simp] theorem eC_s : eC d ds h = .ok d h := Eq.trans rfl rfl
@[simp] theorem eOp_s : eOp f ma mb ds h = (ma ds h).bd fun x h1 => (mb ds h1).bd fun y h2 => f x y h2 := Eq.trans rfl rfl
@[simp] theorem isBl_bl (b : Bool) : isBl (.bl b) = some b := Eq.trans rfl rfl
@[simp] theorem eAnd_s : eAnd ma mb ds h = (ma ds h).bd fun x h1 => match isBl x with
  | some true => mb ds h1
  | some false => .ok (.bl false) h1
  | none => .bad := Eq.trans rfl rfl
@[simp] theorem eNot_s : eNot ma ds h = (ma ds h).bd fun x h1 => match isBl x with
  | some b => .ok (.bl (!b)) h1
  | none => .bad := Eq.trans rfl rfl
@[simp] theorem eIf_s : eIf t ma mb ds h = (t ds h).bd fun b h1 => if b = true then ma ds h1 else mb ds h1 := Eq.trans rfl rfl
@[simp] theorem bEx_s : bEx m ds h = (m ds h).bd fun x h1 => match isBl x with
  | some b => .ok b h1
  | none => .bad := Eq.trans rfl rfl
@[simp] theorem bTru_s : bTru m ds h = (m ds h).bd fun x h1 => match truD h1 x with
  | some b => .ok b h1
  | none => .bad := Eq.trans rfl rfl
@[simp] theorem bAnd_s : bAnd t u ds h = (t ds h).bd fun b h1 => if b = true then u ds h1 else .ok false h1 := Eq.trans rfl rfl
@[simp] theorem bOr_s : bOr t u ds h = (t ds h).bd fun b h1 => if b = true then .ok true h1 else u ds h1 := Eq.trans rfl rfl
@[simp] theorem bNot_s : bNot t ds h = (t ds h).bd fun b h1 => .ok (!b) h1 := Eq.trans rfl rfl
@[simp] theorem aNil_s : aNil ds h = .ok [] h := Eq.trans rfl rfl
@[simp] theorem aCons_s : aCons m as ds h = (m ds h).bd fun x h1 => (as ds h1).bd fun xs h2 => .ok (x :: xs) h2 := Eq.trans rfl rfl
@[simp] theorem eTup_s : eTup as ds h = (as ds h).bd fun xs h1 => if xs.length ≤ 1000000 then .ok (.tup xs) h1 else .bad := Eq.trans rfl rfl
@[simp] theorem eLst_s : eLst as ds h = (as ds h).bd fun xs h1 => if xs.length ≤ 1000000 then .ok (.lst xs) h1 else .bad := Eq.trans rfl rfl
@[simp] theorem eCell_s : eCell as ds h = (as ds h).bd fun xs h1 => if xs.length ≤ 1000000 then .ok (.ref h1.length) (h1 ++ [.lst xs]) else .bad := Eq.trans rfl rfl
@[simp] theorem eCB_s (g : List D → Hc → R D) : eCB g as ds h = (as ds h).bd fun xs h1 => g xs h1 := Eq.trans rfl rfl
@[simp] theorem eCall_s (g : Fn) : eCall g as ds h = (as ds h).bd fun xs h1 => callL g xs h1 := Eq.trans rfl rfl
@[simp] theorem eBM_s (T : String) (g : D → List D → Hc → R D) : eBM T g m as ds h = (m ds h).bd fun x h1 => if kindOk h1 T x = true then (as ds h1).bd fun xs h2 => g x xs h2 else .bad := Eq.trans rfl rfl
@[simp] theorem eIs2_s (p q : String) : eIs2 m p q ds h = (m ds h).bd fun x h1 => match tyD h1 x with
  | some t => if tyAsked.contains p = true ∧ tyAsked.contains q = true then .ok (.bl (isB t p || isB t q)) h1 else .bad
  | none => .bad := Eq.trans rfl rfl
@[simp] theorem eSl_s (g : D → Option Int → Option Int → Hc → R D) (lo hi : Option SE) : eSl g m lo hi ds h = (m ds h).bd fun x h1 => (optI lo ds h1).bd fun l h2 => (optI hi ds h2).bd fun u h3 => g x l u h3 := Eq.trans rfl rfl
@[simp] theorem optI_none : optI none ds h = .ok none h := Eq.trans rfl rfl
@[simp] theorem optI_some : optI (some m) ds h = (m ds h).bd fun d h1 => match d with
    | .int i => .ok (some i) h1
    | _ => .bad := Eq.trans rfl rfl
/-! ### statements -/
def O.sq (o : O) (b : SS) : O := match o with
  | .nx ds h => b ds h
  | o => o
@[simp] theorem sq_nx : (O.nx ds h).sq b = b ds h := Eq.trans rfl rfl
@[simp] theorem sq_rt : (O.rt d h).sq b = .rt d h := Eq.trans rfl rfl
@[simp] theorem sq_bk : (O.bk ds h).sq b = .bk ds h := Eq.trans rfl rfl
@[simp] theorem sSeq_s : sSeq a b ds h = (a ds h).sq b := by
  unfold sSeq O.sq; cases a ds h <;> rfl
@[simp] theorem sNext_s : sNext ds h = .nx ds h := Eq.trans rfl rfl
@[simp] theorem sRet_s : sRet m ds h = sBd (m ds h) ds fun d h1 => .rt d h1 := Eq.trans rfl rfl
@[simp] theorem sDrop_s : sDrop m ds h = sBd (m ds h) ds fun _ h1 => .nx ds h1 := Eq.trans rfl rfl
@[simp] theorem sIf_s : sIf t a b ds h = sBd (t ds h) ds fun c h1 => if c = true then a ds h1 else b ds h1 := Eq.trans rfl rfl
@[simp] theorem sSet_s : sSet i m ds h = sBd (m ds h) ds fun d h1 => .nx (ds.set i (some d)) h1 := Eq.trans rfl rfl
@[simp] theorem sAug_s (g : D → D → Hc → R D) : sAug i g m ds h = match ds[i]? with
  | some (some x) => sBd ((m ds h).bd fun y h1 => g x y h1) ds fun z h2 => .nx (ds.set i (some z)) h2
  | _ => .bad := Eq.trans rfl rfl
@[simp] theorem sPut_s (g : D → D → D → Hc → Option Hc) (me mo mi : SE) : sPut g me mo mi ds h = sBd (me ds h) ds fun x h1 => sBd (mo ds h1) ds fun o h2 => sBd (mi ds h2) ds fun i h3 => match g o i x h3 with
  | some h4 => .nx ds h4
  | none => .bad := Eq.trans rfl rfl
@[simp] theorem sFor_s (mi : SI) (p : Pt) : sFor mi p b ds h = sBd (mi ds h) ds fun it h1 => fl it.chk p b it.items ds h1 := Eq.trans rfl rfl
@[simp] theorem iSeq_s : iSeq m ds h = (m ds h).bd fun d h1 => match seqD h1 d with
  | some xs => .ok ⟨xs, chkQ d xs⟩ h1
  | none => .bad := Eq.trans rfl rfl
@[simp] theorem chkQ_tup (xs : List D) : chkQ (.tup xs) xs = fun _ => true := funext fun _ => chkQ_of (Eq.trans rfl rfl)
@[simp] theorem chkQ_lst (xs : List D) : chkQ (.lst xs) xs = fun _ => true := funext fun _ => chkQ_of (Eq.trans rfl rfl)
theorem chkQ_ref {i : Nat} {xs : List D} {h : Hc} (e : h[i]? = some (.lst xs)) : chkQ (.ref i) xs h = true := chkQ_of (by simp [seqD, e])
def rg1F (xs : List D) (h : Hc) : R ItD := match xs with
  | [.int j] => if -(2 ^ 62) ≤ j ∧ j < 2 ^ 62 then .ok ⟨upFrom 0 j.toNat, fun _ => true⟩ h else .bad
  | _ => .bad
def rg2F (xs : List D) (h : Hc) : R ItD := match xs with
  | [.int i, .int j] => if -(2 ^ 62) ≤ i ∧ i < 2 ^ 62 ∧ -(2 ^ 62) ≤ j ∧ j < 2 ^ 62 then .ok ⟨upFrom i (j - i).toNat, fun _ => true⟩ h else .bad
  | _ => .bad
@[simp] theorem iRg1_s : iRg1 as ds h = (as ds h).bd rg1F := Eq.trans rfl rfl
/-- a number that a walk of a range can take -/
def rgOk (j : Int) : Bool := decide (-4611686018427387904 ≤ j) && decide (j < 4611686018427387904)
theorem rgOk_of {j : Int} (h1 : -4611686018427387904 ≤ j) (h2 : j < 4611686018427387904) : rgOk j = true := by unfold rgOk; simp [h1, h2]
theorem rgOk_spec {j : Int} : rgOk j = true ↔ -(2 ^ 62) ≤ j ∧ j < 2 ^ 62 := by
  unfold rgOk
  simp only [Bool.and_eq_true, decide_eq_true_eq]
  have : (2 : Int) ^ 62 = 4611686018427387904 := by decide +kernel
  rw [this]
@[simp] theorem rg1F_int (j : Int) : rg1F [.int j] h = if rgOk j = true then .ok ⟨upFrom 0 j.toNat, fun _ => true⟩ h else .bad := by
  unfold rg1F
  by_cases q : rgOk j = true
  · have := rgOk_spec.mp q
    simp only [q, this, and_self, if_true]
  · have : ¬ (-(2 ^ 62) ≤ j ∧ j < 2 ^ 62) := fun z => q (rgOk_spec.mpr z)
    simp only [q, this, if_false, Bool.false_eq_true]
theorem rgOk_nat {n : Nat} (hn : n < 4000000000000000000) : rgOk (n : Int) = true := rgOk_of (by omega) (by omega)
@[simp] theorem seqD_tup (xs : List D) : seqD h (.tup xs) = some xs := Eq.trans rfl rfl
@[simp] theorem seqD_lst (xs : List D) : seqD h (.lst xs) = some xs := Eq.trans rfl rfl
@[simp] theorem seqD_ref : seqD h (.ref i) = match h[i]? with
    | some (.lst xs) => some xs
    | _ => none := Eq.trans rfl rfl
@[simp] theorem rdlD_lst (xs : List D) : rdlD h (.lst xs) = some xs := Eq.trans rfl rfl
@[simp] theorem rdlD_scr (xs : List D) : rdlD h (.scr xs) = some xs := Eq.trans rfl rfl
@[simp] theorem rdlD_ref : rdlD h (.ref i) = match h[i]? with
    | some (.lst xs) => some xs
    | _ => none := Eq.trans rfl rfl
@[simp] theorem bindP_n : bindP h (.n i) d ds = some (ds.set i (some d)) := by unfold bindP; rfl
@[simp] theorem bindP_t (ps : List Pt) : bindP h (.t ps) d ds = match seqD h d with
    | some xs => bindPs h ps xs ds
    | none => none := by
  conv => lhs; unfold bindP
  all_goals rfl
@[simp] theorem bindPs_nil : bindPs h [] [] ds = some ds := by unfold bindPs; rfl
@[simp] theorem bindPs_cons (p : Pt) (ps : List Pt) (xs : List D) : bindPs h (p :: ps) (x :: xs) ds = match bindP h p x ds with
    | some ds1 => bindPs h ps xs ds1
    | none => none := by
  conv => lhs; unfold bindPs
  all_goals rfl
/-! ### turns of a loop, its body as it is -/
section
variable {chk : Hc → Bool} {p : Pt} {b : SS} {d : D} {r : List D} {ds ds1 ds' : Sl} {h h' : Hc} {i : Nat}
theorem fl_end (hc : chk h = true) : fl chk p b [] ds h = .nx ds h := by
  unfold fl
  rw [if_pos hc]
theorem fl_nx (hc : chk h = true) (e1 : bindP h p d ds = some ds1) (e2 : b ds1 h = .nx ds' h') : fl chk p b (d :: r) ds h = fl chk p b r ds' h' := by
  conv => lhs; unfold fl
  rw [if_pos hc, e1]
  simp only [e2]
theorem fl_bk (hc : chk h = true) (e1 : bindP h p d ds = some ds1) (e2 : b ds1 h = .bk ds' h') : fl chk p b (d :: r) ds h = .nx ds' h' := by
  conv => lhs; unfold fl
  rw [if_pos hc, e1]
  simp only [e2]
/-- one turn over a name -/
theorem fl_n (e2 : b (ds.set i (some d)) h = .nx ds' h') : fl (fun _ => true) (.n i) b (d :: r) ds h = fl (fun _ => true) (.n i) b r ds' h' := fl_nx rfl (bindP_n ..) e2
end
/-! ### runs -/
def O.fin : O → R D
  | .nx _ h' => .ok .non h'
  | .rt d h' => .ok d h'
  | .ex x fs vs _ h' => .ex x fs vs h'
  | _ => .bad
@[simp] theorem fin_nx : (O.nx ds h).fin = .ok .non h := Eq.trans rfl rfl
@[simp] theorem fin_rt : (O.rt d h).fin = .ok d h := Eq.trans rfl rfl
theorem runB_s (n : Nat) (xs : List D) : runB n a xs h = (a (xs.map some ++ List.replicate (n - xs.length) none) h).fin := by
  unfold runB O.fin; cases a _ h <;> rfl
end
/-! ### values -/
section
variable (h : Hc) (i j : Int) (s t : Str) (b c : Bool)
@[simp] theorem eq_int (neg : Bool) : eqG neg (.int i) (.int j) h = .ok (.bl (if neg then !decide (i = j) else decide (i = j))) h := Eq.trans rfl rfl
@[simp] theorem eq_str (neg : Bool) : eqG neg (.str s) (.str t) h = .ok (.bl (if neg then !decide (s = t) else decide (s = t))) h := Eq.trans rfl rfl
@[simp] theorem eq_bl (neg : Bool) : eqG neg (.bl b) (.bl c) h = .ok (.bl (if neg then !decide (b = c) else decide (b = c))) h := Eq.trans rfl rfl
@[simp] theorem isN_int : isN (.int i) = false := Eq.trans rfl rfl
@[simp] theorem isN_str : isN (.str s) = false := Eq.trans rfl rfl
@[simp] theorem isN_bl : isN (.bl b) = false := Eq.trans rfl rfl
@[simp] theorem isN_non : isN .non = true := Eq.trans rfl rfl
@[simp] theorem isN_tup (xs : List D) : isN (.tup xs) = false := Eq.trans rfl rfl
@[simp] theorem flat_int : flat (.int i) = true := by unfold flat; rfl
@[simp] theorem flat_str : flat (.str s) = true := by unfold flat; rfl
@[simp] theorem flat_bl : flat (.bl b) = true := by unfold flat; rfl
@[simp] theorem flat_non : flat .non = true := by unfold flat; rfl
@[simp] theorem flat_ref (n : Nat) : flat (.ref n) = false := by unfold flat; rfl
@[simp] theorem flat_tup (xs : List D) : flat (.tup xs) = flatL xs := by conv => lhs; unfold flat
@[simp] theorem flat_lst (xs : List D) : flat (.lst xs) = flatL xs := by conv => lhs; unfold flat
@[simp] theorem flat_scr (xs : List D) : flat (.scr xs) = flatL xs := by conv => lhs; unfold flat
@[simp] theorem flatL_nil : flatL [] = true := by unfold flatL; rfl
@[simp] theorem flatL_cons (x : D) (xs : List D) : flatL (x :: xs) = (flat x && flatL xs) := by conv => lhs; unfold flatL
@[simp] theorem flatL_append (xs ys : List D) : flatL (xs ++ ys) = (flatL xs && flatL ys) := by
  induction xs with
  | nil => simp
  | cons x xs ih => simp [ih, Bool.and_assoc]
@[simp] theorem flatL_ints (ns : List Int) : flatL (ns.map D.int) = true := by induction ns <;> simp_all
@[simp] theorem flatL_strs (ns : List Str) : flatL (ns.map D.str) = true := by induction ns <;> simp_all
theorem flatL_map {α : Type} (g : α → D) (hg : ∀ a, flat (g a) = true) (xs : List α) : flatL (xs.map g) = true := by induction xs <;> simp_all
@[simp] theorem flatC_lst (xs : List D) : flatC (.lst xs) = flatL xs := Eq.trans rfl rfl
@[simp] theorem tyD_int : tyD h (.int i) = some "int" := Eq.trans rfl rfl
@[simp] theorem tyD_str : tyD h (.str s) = some "str" := Eq.trans rfl rfl
@[simp] theorem tyD_bl : tyD h (.bl b) = some "bool" := Eq.trans rfl rfl
@[simp] theorem tyD_non : tyD h .non = some "NoneType" := Eq.trans rfl rfl
@[simp] theorem tyD_tup (xs : List D) : tyD h (.tup xs) = some "tuple" := Eq.trans rfl rfl
@[simp] theorem tyD_lst (xs : List D) : tyD h (.lst xs) = some "list" := Eq.trans rfl rfl
@[simp] theorem isF_s (d : D) (c : String) : isF [d, .ty c] h = match tyD h d with
    | some t => if tyAsked.contains c = true then .ok (.bl (isB t c)) h else .bad
    | none => .bad := Eq.trans rfl rfl
@[simp] theorem lenF_lst (xs : List D) : lenF [.lst xs] h = .ok (.int xs.length) h := Eq.trans rfl rfl
@[simp] theorem lenF_tup (xs : List D) : lenF [.tup xs] h = .ok (.int xs.length) h := Eq.trans rfl rfl
@[simp] theorem lenF_str : lenF [.str s] h = if s.length ≤ lim then .ok (.int s.length) h else .bad := Eq.trans rfl rfl
theorem lenF_ref {n : Nat} {xs : List D} (e : h[n]? = some (.lst xs)) : lenF [.ref n] h = .ok (.int xs.length) h := by simp [lenF, e]
@[simp] theorem ixF_tup (xs : List D) : ixF (.tup xs) (.int i) h = match atI xs i with
    | some d => .ok d h
    | none => .bad := Eq.trans rfl rfl
@[simp] theorem ixF_lst (xs : List D) : ixF (.lst xs) (.int i) h = match atI xs i with
    | some d => .ok d h
    | none => .bad := Eq.trans rfl rfl
theorem ixF_ref {n : Nat} {xs : List D} (e : h[n]? = some (.lst xs)) : ixF (.ref n) (.int i) h = match atI xs i with
    | some d => .ok d h
    | none => .bad := by
  simp [ixF, e]
  all_goals rfl
theorem atI_of {α : Type} {xs : List α} {i : Int} (h0 : 0 ≤ i) (h1 : i < xs.length) : atI xs i = xs[i.toNat]? := by
  unfold atI ixN
  rw [if_pos h0, if_pos h1]; rfl
@[simp] theorem atI_0 {α : Type} (x : α) (xs : List α) : atI (x :: xs) 0 = some x := by rw [atI_of (by omega) (by simp only [List.length_cons]; omega)]; rfl
@[simp] theorem atI_1 {α : Type} (x y : α) (xs : List α) : atI (x :: y :: xs) 1 = some y := by rw [atI_of (by omega) (by simp only [List.length_cons]; omega)]; rfl
@[simp] theorem atI_2 {α : Type} (x y z : α) (xs : List α) : atI (x :: y :: z :: xs) 2 = some z := by rw [atI_of (by omega) (by simp only [List.length_cons]; omega)]; rfl
theorem mulOk_r (h1 : -18446744073709551616 < j) (h2 : j < 18446744073709551616) : mulOk i j = true := by unfold mulOk; simp; exact .inl (.inr ⟨h1, h2⟩)
theorem divOk_of (h0 : j ≠ 0) (h1 : -(2 ^ 64) < j) (h2 : j < 2 ^ 64) : divOk j = true := by
  unfold divOk
  simp only [Bool.and_eq_true, decide_eq_true_eq]
  refine ⟨h0, ?_⟩
  have : j.natAbs < 2 ^ 64 := by omega
  have := (Nat.log2_lt (n := j.natAbs) (k := 64) (by omega)).mpr this
  omega
end
/-! ### kinds -/
@[simp] theorem rgOk_4 : rgOk 4 = true := by decide +kernel
@[simp] theorem rgOk_40 : rgOk 40 = true := by decide +kernel
@[simp] theorem rgOk_60 : rgOk 60 = true := by decide +kernel
@[simp] theorem asked_bool : "bool" ∈ tyAsked := by decide +kernel
@[simp] theorem isB_bool_bool : isB "bool" "bool" = true := by decide +kernel
@[simp] theorem isB_int_bool : isB "int" "bool" = false := by decide +kernel
@[simp] theorem isB_str_bool : isB "str" "bool" = false := by decide +kernel
@[simp] theorem asked_int : "int" ∈ tyAsked := by decide +kernel
@[simp] theorem isB_int_int : isB "int" "int" = true := by decide +kernel
@[simp] theorem isB_str_int : isB "str" "int" = false := by decide +kernel
@[simp] theorem asked_str : "str" ∈ tyAsked := by decide +kernel
@[simp] theorem isB_str_str : isB "str" "str" = true := by decide +kernel
@[simp] theorem asked_tuple : "tuple" ∈ tyAsked := by decide +kernel
@[simp] theorem isB_NoneType_tuple : isB "NoneType" "tuple" = false := by decide +kernel
@[simp] theorem isB_bool_tuple : isB "bool" "tuple" = false := by decide +kernel
@[simp] theorem isB_int_tuple : isB "int" "tuple" = false := by decide +kernel
@[simp] theorem isB_str_tuple : isB "str" "tuple" = false := by decide +kernel
@[simp] theorem isB_tuple_tuple : isB "tuple" "tuple" = true := by decide +kernel
@[simp] theorem isB_list_tuple : isB "list" "tuple" = false := by decide +kernel
@[simp] theorem asked_list : "list" ∈ tyAsked := by decide +kernel
@[simp] theorem isB_tuple_list : isB "tuple" "list" = false := by decide +kernel
@[simp] theorem isB_list_list : isB "list" "list" = true := by decide +kernel
/-! ### truth and comprehensions -/
section
variable (h : Hc) (b : Bool) (i : Int) (xs : List D) (ds : Sl)
@[simp] theorem truD_bl : truD h (.bl b) = some b := Eq.trans rfl rfl
@[simp] theorem wipeD_nil : wipeD ds [] = ds := by unfold wipeD; rfl
@[simp] theorem wipeD_cons (v : Nat) (vs : List Nat) : wipeD ds (v :: vs) = (wipeD ds vs).set v none := by conv => lhs; unfold wipeD
@[simp] theorem lcR_nil (chk : Hc → Bool) (p : Pt) (own : List Nat) (c : SB) (m : SE) (acc : List D) : lcR chk p own c m ds [] acc h = if chk h = true then .ok acc h else .bad := by conv => lhs; unfold lcR
@[simp] theorem lcR_cons (chk : Hc → Bool) (p : Pt) (own : List Nat) (c : SB) (m : SE) (acc : List D) (d : D) (r : List D) : lcR chk p own c m ds (d :: r) acc h = if chk h = true then (match bindP h p d (wipeD ds own) with
      | some ds1 => (c ds1 h).nox.bd fun b h1 => if b = true then (m ds1 h1).nox.bd fun y h2 => if acc.length < lim then lcR chk p own c m ds r (acc ++ [y]) h2 else .bad else lcR chk p own c m ds r acc h1
      | none => .bad) else .bad := by
  conv => lhs; unfold lcR
  all_goals rfl
@[simp] theorem eLc_s (mi : SI) (p : Pt) (own : List Nat) (c : SB) (m : SE) : eLc mi p own c m ds h = (mi ds h).bd fun it h1 => (lcR it.chk p own c m ds it.items [] h1).bd fun xs h2 => .ok (.lst xs) h2 := Eq.trans rfl rfl
@[simp] theorem eLcC_s (mi : SI) (p : Pt) (own : List Nat) (c : SB) (m : SE) : eLcC mi p own c m ds h = (mi ds h).bd fun it h1 => (lcR it.chk p own c m ds it.items [] h1).bd fun xs h2 => .ok (.ref h2.length) (h2 ++ [.lst xs]) := Eq.trans rfl rfl
end
/-- each with its own -/
def All2 {α β : Type} (P : α → β → Prop) : List α → List β → Prop
  | [], [] => True
  | a :: as, b :: bs => P a b ∧ All2 P as bs
  | _, _ => False
theorem All2.map {α β γ : Type} {P : β → γ → Prop} {f : α → β} {g : α → γ} : ∀ {xs : List α}, (∀ x ∈ xs, P (f x) (g x)) → All2 P (xs.map f) (xs.map g)
  | [], _ => trivial
  | x :: xs, h => ⟨h x (by simp), All2.map fun y hy => h y (by simp [hy])⟩
/-- a comprehension whose element does no harm -/
theorem lcR_two {chk : Hc → Bool} {p : Pt} {own : List Nat} {m : SE} {ds : Sl} {h : Hc} (hc : chk h = true) : ∀ (items outs acc : List D), acc.length + items.length ≤ 1000000 → All2 (fun d y => ∃ ds1, bindP h p d (wipeD ds own) = some ds1 ∧ m ds1 h = .ok y h) items outs →
    lcR chk p own (fun _ h => .ok true h) m ds items acc h = .ok (acc ++ outs) h
  | [], [], acc, _, _ => by simp [hc]
  | [], _ :: _, acc, _, a => a.elim
  | _ :: _, [], acc, _, a => a.elim
  | d :: r, y :: ys, acc, hl, ⟨⟨ds1, e1, e2⟩, a⟩ => by
    have ih := lcR_two hc r ys (acc ++ [y]) (by simp at hl ⊢; omega) a
    have : acc.length < 1000000 := by simp at hl; omega
    simp [hc, e1, e2, this, ih]
/-- a comprehension over values whose element does no harm -/
theorem lcR_map {chk : Hc → Bool} {p : Pt} {own : List Nat} {m : SE} {ds : Sl} {h : Hc} (f : D → D) (hc : chk h = true) : ∀ (items acc : List D), acc.length + items.length ≤ 1000000 → (∀ d ∈ items, ∃ ds1, bindP h p d (wipeD ds own) = some ds1 ∧ m ds1 h = .ok (f d) h) →
    lcR chk p own (fun _ h => .ok true h) m ds items acc h = .ok (acc ++ items.map f) h
  | [], acc, _, _ => by simp [hc]
  | d :: r, acc, hl, hi => by
    obtain ⟨ds1, e1, e2⟩ := hi d (by simp)
    have ih := lcR_map f hc r (acc ++ [f d]) (by simp at hl ⊢; omega) fun d hd => hi d (by simp [hd])
    have : acc.length < 1000000 := by simp at hl; omega
    simp [hc, e1, e2, this, ih]
/-! ### what LayH brings -/
section
variable (h : Hc) (i j : Int) (xs : List D) (ds : Sl)
@[simp] theorem enF_tup : enF [.tup xs] h = .ok ⟨enumD 0 xs, chkQ (.tup xs) xs⟩ h := Eq.trans rfl rfl
@[simp] theorem enF_lst : enF [.lst xs] h = .ok ⟨enumD 0 xs, chkQ (.lst xs) xs⟩ h := Eq.trans rfl rfl
@[simp] theorem allF_lst (bs : List Bool) : allF [.lst (bs.map D.bl)] h = .ok (.bl (bs.all id)) h := by simp [allF, lF]
@[simp] theorem minF_2 : minF [.int i, .int j] h = .ok (.int (if j < i then j else i)) h := Eq.trans rfl rfl
@[simp] theorem maxF_2 : maxF [.int i, .int j] h = .ok (.int (if i < j then j else i)) h := Eq.trans rfl rfl
end
/-! ### calls -/
theorem refsOf_flat : ∀ {as : List D}, flatL as = true → refsOf as = []
  | [], _ => rfl
  | d :: ds, hf => by
    simp at hf
    have := refsOf_flat hf.2
    cases d <;> first | exact this | simp at hf
theorem renL_flat {rs : List Nat} : ∀ {as : List D}, flatL as = true → renL rs as = some as
  | [], _ => rfl
  | d :: ds, hf => by
    simp at hf
    have h2 := renL_flat (rs := rs) hf.2
    have h1 : renD rs d = some d := by
      cases d <;> first | (unfold renD; simp [hf.1]; done) | (simp at hf; done)
    unfold renL
    rw [h1, h2]
theorem frzD_flat {rs : List Nat} {h : Hc} {n : Nat} {d : D} (hf : flat d = true) : frzD rs h n d = some d := by
  cases n <;> simp [frzD, hf]
/-- no cell is passed -/
theorem call_pure {m : Fn} {as : List D} {d0 d : D} {h' : Hc} (ha : flatL as = true) (hm : m as [] = .ok d0 h') (hd : frzD [] h' 8 d0 = some d) (h : Hc) : callL m as h = .ok d h := by
  unfold callL
  rw [refsOf_flat ha, renL_flat ha]
  simp [cellsAt, hm, hd, wb]
theorem call_flat {m : Fn} {as : List D} {d : D} {h' : Hc} (ha : flatL as = true) (hm : m as [] = .ok d h') (hd : flat d = true) (h : Hc) : callL m as h = .ok d h := call_pure ha hm (frzD_flat hd) h
/-- a list that was made within is handed back -/
theorem frz_cell {rs : List Nat} {h : Hc} {n i : Nat} {xs : List D} (hi : rs.length ≤ i) (e : h[i]? = some (.lst xs)) (hf : flatL xs = true) : frzD rs h (n + 2) (.ref i) = some (.lst xs) := by
  have go : ∀ ys : List D, flatL ys = true → frzD.frzL (frzD rs h (n + 1)) ys = some ys := by
    intro ys
    induction ys with
    | nil => intro _; rfl
    | cons y ys ih =>
      intro hy
      simp at hy
      unfold frzD.frzL
      rw [frzD_flat hy.1, ih hy.2]
  unfold frzD
  simp only [flat_ref, Bool.false_eq_true, if_false]
  rw [if_neg (Nat.not_lt.mpr hi), e]
  simp only
  rw [go xs hf]; rfl
/-- the law's defs that draw: the second argument is the cell of the place -/
theorem call_spot {m : Fn} {R rest : List D} {i : Nat} {h h' : Hc} {k k' : Int} {d0 d : D} (hR : flatL R = true) (hr : flatL rest = true) (hi : h[i]? = some (.lst [.int k])) (hm : m (.lst R :: .ref 0 :: rest) [.lst [.int k]] = .ok d0 h') (h0 : h'[0]? = some (.lst [.int k']))
    (hd : ∀ j, frzD [j] h' 8 d0 = some d) : callL m (.lst R :: .ref i :: rest) h = .ok d (h.set i (.lst [.int k'])) := by
  have e1 : refsOf (.lst R :: .ref i :: rest) = [i] := by
    show refsOf (.ref i :: rest) = [i]
    unfold refsOf
    rw [refsOf_flat hr]; simp
  have e2 : renL [i] (.lst R :: .ref i :: rest) = some (.lst R :: .ref 0 :: rest) := by
    unfold renL
    have a1 : renD [i] (.lst R) = some (.lst R) := by unfold renD; simp [hR]
    have a2 : renL [i] (.ref i :: rest) = some (.ref 0 :: rest) := by
      unfold renL
      rw [renL_flat hr]
      have : renD [i] (.ref i) = some (.ref 0) := by unfold renD; simp [List.findIdx?_cons]
      rw [this]
    rw [a1, a2]
  obtain ⟨t, ht⟩ : ∃ t, h' = .lst [.int k'] :: t := by
    cases h' with
    | nil => simp at h0
    | cons c t => simp at h0; exact ⟨t, by rw [h0]⟩
  unfold callL
  rw [e1, e2]
  simp only [cellsAt, hi]
  simp only [List.all_cons, List.all_nil, flatC_lst, flatL_cons, flat_int, flatL_nil, Bool.and_true, Bool.and_self, if_true, hm, hd i]
  subst ht
  simp [wb]
/-- one cell is passed -/
theorem call_ref1 {m : Fn} {as as' : List D} {i : Nat} {c c' : C} {h h' : Hc} {d0 d : D} (hrefs : refsOf as = [i]) (hren : renL [i] as = some as') (hi : h[i]? = some c) (hc : flatC c = true) (hm : m as' [c] = .ok d0 h') (h0 : h'[0]? = some c')
    (hc2 : flatC c' = true) (hd : frzD [i] h' 8 d0 = some d) : callL m as h = .ok d (h.set i c') := by
  obtain ⟨t, ht⟩ : ∃ t, h' = c' :: t := by
    cases h' with
    | nil => simp at h0
    | cons x t => simp at h0; exact ⟨t, by rw [h0]⟩
  unfold callL
  rw [hrefs, hren]
  simp only [cellsAt, hi]
  simp only [List.all_cons, List.all_nil, hc, Bool.and_true, if_true, hm, hd]
  subst ht
  simp [wb, hc2]
/-! ### what LayX, LayY bring -/
section
variable (h h' : Hc) (ds ds' : Sl) (d v : D) (x : Str) (fs : List Str) (vs : List D) (m : SE) (as : SA) (a b : SS)
@[simp] theorem sRaise_s : sRaise x fs as ds h = sBd (as ds h) ds fun vs h1 => if vs.length = fs.length then .ex x fs vs.reverse ds h1 else .bad := Eq.trans rfl rfl
end
end Mp
/-! LayV: name = {k: v for ..} on one line. -/
namespace Mp
open PySem PySem.Spec PyProof.Rows L2
section
variable {X : Cx} {W : WX}
/-- in each block of a comprehension -/
abbrev InBlk (X : Cx) (scope : Scope) (P : Cx → Prop) : Prop := ∀ (s : Shared) (H : Hp) (C : Addr) (cl : List (Str × Addr)) (fp : List Addr), P (X.blk s H scope (compEnvC scope cl C X.env) fp)
end
/-! a def under a second name of its module -/
def DefAs (K : PySem.W.Frag) (mg : Str → Option Value) (y x qual : Str) (st : Stmt) (ps : List Str) : Prop := ∃ (f : Addr) (fd : FuncData), mg y = some (.ref f) ∧ Fun K x qual st f fd ∧ Binds K fd ps []
section
variable {P : Program} {w : World} {K : PySem.W.Frag} {mg : Str → Option Value} {base : Heap} {y x qual : Str} {st : Stmt} {ps N : List Str} {k j : Nat} {m : SS}
end
end Mp
namespace Mp
open PySem PySem.Spec PyProof.Rows L2
/-! list(d) of a dict: its keys -/
def kD : Key → D
  | .inl i => .int i
  | .inr x => .str x
def listDF (xs : List D) (h : Hc) : R D := match xs with
  | [d] => match dctD h d with
    | some (ks, _) => .ok (.lst (ks.map kD)) h
    | none => .bad
  | _ => .bad
end Mp
namespace Mp
open PySem PySem.Spec PyProof.Rows L2
/-! ### mirrors: Pre -/
def m_law_numbers_l1 : SS :=
  (sSeq (sIf (bEx (eOp eqF (eVar 3) (eC (.int 0))))
          (fun ds h => .bk ds h)
          sNext)
        (sSeq (sDrop (eBM "list" appF (eVar 1) (aCons (eOp modF (eCB intF (aCons (eVar 3) aNil)) (eC (.int 997))) aNil)))
        (sSet 3 (eOp fdivF (eVar 3) (eC (.int 997))))))
def m_law_numbers_l2 : SS :=
  (sSeq (sSet 5 (eOp modF (eCB intF (aCons (eOp addF (eOp addF (eOp mulF (eVar 2) (eC (.int 48271))) (eOp mulF (eVar 4) (eC (.int 69621)))) (eC (.int 11))) aNil)) (eC (.int 2147483647))))
        (sDrop (eBM "list" appF (eVar 1) (aCons (eOp modF (eCB intF (aCons (eOp addF (eOp mulF (eVar 5) (eC (.int 16807))) (eVar 4)) aNil)) (eC (.int 2147483629))) aNil))))
def m_law_numbers_l3 : SS :=
  (sIf (bEx (eOp geF (eVar 2) (eOp powF (eC (.int 10)) (eC (.int 18)))))
      (sSeq (sSet 3 (eVar 2))
      (sFor (iRg1 (aCons (eC (.int 60)) aNil)) (.n 4)
        m_law_numbers_l1))
      (sFor (iRg1 (aCons (eC (.int 4)) aNil)) (.n 4)
        m_law_numbers_l2))
/-- _law_numbers: script 0, row 1, cell 2, left 3, k 4, mixed 5 -/
def m_law_numbers : Fn := runB 6
  (sSeq (sSet 1 (eCell aNil))
  (sSeq (sFor (iSeq (eSl slF (eVar 0) none (some (eC (.int 63))))) (.n 2)
    m_law_numbers_l3)
  (sSeq (sIf (bEx (eOp eqF (eCB lenF (aCons (eVar 1) aNil)) (eC (.int 0))))
    (sDrop (eBM "list" appF (eVar 1) (aCons (eC (.int 0)) aNil)))
    sNext)
  (sRet (eVar 1)))))
def m_law_gcd_l1 : SS :=
  (sSeq (sIf (bEx (eOp eqF (eVar 3) (eC (.int 0))))
      (fun ds h => .bk ds h)
      sNext)
    (sSeq (sSet 5 (eOp modF (eCB intF (aCons (eVar 2) aNil)) (eVar 3)))
    (sSeq (sSet 2 (eVar 3))
    (sSet 3 (eVar 5)))))
/-- _law_gcd: one 0, other 1, left 2, right 3, k 4, rest 5 -/
def m_law_gcd : Fn := runB 6
  (sSeq (sSet 2 (eIf (bEx (eOp geF (eVar 0) (eC (.int 0)))) (eVar 0) (eUn negF (eVar 0))))
  (sSeq (sSet 3 (eIf (bEx (eOp geF (eVar 1) (eC (.int 0)))) (eVar 1) (eUn negF (eVar 1))))
  (sSeq (sFor (iRg1 (aCons (eC (.int 20000)) aNil)) (.n 4)
    m_law_gcd_l1)
  (sRet (eVar 2)))))
/-- _law_red: n 0, d 1, common 2 -/
def m_law_red : Nat → Fn
  | 0 => fun _ _ => .bad
  | n + 1 => runB 3 (sSeq (sIf (bEx (eOp ltF (eVar 1) (eC (.int 0))))
    (sRet (eCall (m_law_red n) (aCons (eUn negF (eVar 0)) (aCons (eUn negF (eVar 1)) aNil))))
    sNext)
  (sSeq (sSet 2 (eCall m_law_gcd (aCons (eVar 0) (aCons (eVar 1) aNil))))
  (sSeq (sIf (bEx (eOp eqF (eVar 2) (eC (.int 0))))
    (sRet (eTup (aCons (eC (.int 0)) (aCons (eC (.int 1)) aNil))))
    sNext)
  (sRet (eTup (aCons (eOp fdivF (eVar 0) (eVar 2)) (aCons (eOp fdivF (eVar 1) (eVar 2)) aNil)))))))
/-- _law_draw: row 0, at 1, limit 2, mixed 3 -/
def m_law_draw : Fn := runB 4
  (sSeq (sIf (bEx (eOp ltF (eVar 1) (eCB lenF (aCons (eVar 0) aNil))))
    (sRet (eOp modF (eCB intF (aCons (eOp ixF (eVar 0) (eVar 1)) aNil)) (eVar 2)))
    sNext)
  (sSeq (sSet 3 (eOp modF (eCB intF (aCons (eOp addF (eOp addF (eOp mulF (eOp ixF (eVar 0) (eOp modF (eCB intF (aCons (eVar 1) aNil)) (eCB lenF (aCons (eVar 0) aNil)))) (eC (.int 40692))) (eOp mulF (eVar 1) (eC (.int 7919)))) (eC (.int 3))) aNil)) (eC (.int 2147483399))))
  (sRet (eOp modF (eCB intF (aCons (eOp modF (eCB intF (aCons (eOp addF (eOp mulF (eVar 3) (eC (.int 48271))) (eVar 1)) aNil)) (eC (.int 2147483647))) aNil)) (eVar 2)))))
/-- _law_take: row 0, spot 1, limit 2 -/
def m_law_take : Fn := runB 3
  (sSeq (sPut setF (eOp addF (eOp ixF (eVar 1) (eC (.int 0))) (eC (.int 1))) (eVar 1) (eC (.int 0)))
  (sRet (eCall m_law_draw (aCons (eVar 0) (aCons (eOp subF (eOp ixF (eVar 1) (eC (.int 0))) (eC (.int 1))) (aCons (eVar 2) aNil))))))
/-- _law_wide: row 0, spot 1, limit 2, first 3, second 4, third 5 -/
def m_law_wide : Fn := runB 6
  (sSeq (sSet 3 (eCall m_law_take (aCons (eVar 0) (aCons (eVar 1) (aCons (eC (.int 997)) aNil)))))
  (sSeq (sSet 4 (eCall m_law_take (aCons (eVar 0) (aCons (eVar 1) (aCons (eC (.int 997)) aNil)))))
  (sSeq (sSet 5 (eCall m_law_take (aCons (eVar 0) (aCons (eVar 1) (aCons (eC (.int 997)) aNil)))))
  (sRet (eOp modF (eCB intF (aCons (eOp addF (eOp addF (eOp mulF (eVar 3) (eC (.int 994009))) (eOp mulF (eVar 4) (eC (.int 997)))) (eVar 5)) aNil)) (eVar 2))))))
/-- _law_frac: row 0, spot 1, top 2, low 3 -/
def m_law_frac : Fn := runB 4
  (sSeq (sSet 2 (eIf (bEx (eOp eqF (eCall m_law_take (aCons (eVar 0) (aCons (eVar 1) (aCons (eC (.int 2)) aNil)))) (eC (.int 0)))) (eOp subF (eCall m_law_wide (aCons (eVar 0) (aCons (eVar 1) (aCons (eC (.int 2000001)) aNil)))) (eC (.int 1000000))) (eOp subF (eCall m_law_take (aCons (eVar 0) (aCons (eVar 1) (aCons (eC (.int 21)) aNil)))) (eC (.int 10)))))
  (sSeq (sSet 3 (eOp addF (eC (.int 1)) (eIf (bEx (eOp eqF (eCall m_law_take (aCons (eVar 0) (aCons (eVar 1) (aCons (eC (.int 2)) aNil)))) (eC (.int 0)))) (eCall m_law_wide (aCons (eVar 0) (aCons (eVar 1) (aCons (eC (.int 1000000)) aNil)))) (eCall m_law_take (aCons (eVar 0) (aCons (eVar 1) (aCons (eC (.int 12)) aNil)))))))
  (sRet (eCall (m_law_red 24) (aCons (eVar 2) (aCons (eVar 3) aNil))))))
def m_law_so_l1 (self : Fn) : SS :=
  (sIf (bNot (bTru (eCall self (aCons (eOp ixF (eVar 0) (eVar 2)) (aCons (eOp ixF (eVar 1) (eVar 2)) aNil)))))
        (sRet (eC (.bl false)))
        sNext)
/-- _law_so: found 0, meant 1, k 2 -/
def m_law_so : Nat → Fn
  | 0 => fun _ _ => .bad
  | n + 1 => runB 3 (sSeq (sIf (bEx (eOp isnF (eVar 1) (eC .non)))
    (sRet (eOp isnF (eVar 0) (eC .non)))
    sNext)
  (sSeq (sIf (bTru (eCB isF (aCons (eVar 1) (aCons (eC (.ty "tuple")) aNil))))
    (sSeq (sIf (bOr (bNot (bTru (eCB isF (aCons (eVar 0) (aCons (eC (.ty "tuple")) aNil))))) (bEx (eOp neF (eCB lenF (aCons (eVar 0) aNil)) (eCB lenF (aCons (eVar 1) aNil)))))
      (sRet (eC (.bl false)))
      sNext)
    (sSeq (sFor (iRg1 (aCons (eCB lenF (aCons (eVar 1) aNil)) aNil)) (.n 2)
      (m_law_so_l1 (m_law_so n)))
    (sRet (eC (.bl true)))))
    sNext)
  (sSeq (sIf (bOr (bTru (eCB isF (aCons (eVar 1) (aCons (eC (.ty "bool")) aNil)))) (bTru (eCB isF (aCons (eVar 0) (aCons (eC (.ty "bool")) aNil)))))
    (sRet (eAnd (eCB isF (aCons (eVar 1) (aCons (eC (.ty "bool")) aNil))) (eAnd (eCB isF (aCons (eVar 0) (aCons (eC (.ty "bool")) aNil))) (eOp eqF (eVar 0) (eVar 1)))))
    sNext)
  (sSeq (sIf (bTru (eCB isF (aCons (eVar 1) (aCons (eC (.ty "int")) aNil))))
    (sRet (eAnd (eCB isF (aCons (eVar 0) (aCons (eC (.ty "int")) aNil))) (eOp eqF (eVar 0) (eVar 1))))
    sNext)
  (sRet (eAnd (eCB isF (aCons (eVar 1) (aCons (eC (.ty "str")) aNil))) (eAnd (eCB isF (aCons (eVar 0) (aCons (eC (.ty "str")) aNil))) (eOp eqF (eVar 0) (eVar 1)))))))))
/-- _law_add: one 0, other 1 -/
def m_law_add : Fn := runB 2
  (sRet (eCall (m_law_red 24) (aCons (eOp addF (eOp mulF (eOp ixF (eVar 0) (eC (.int 0))) (eOp ixF (eVar 1) (eC (.int 1)))) (eOp mulF (eOp ixF (eVar 1) (eC (.int 0))) (eOp ixF (eVar 0) (eC (.int 1))))) (aCons (eOp mulF (eOp ixF (eVar 0) (eC (.int 1))) (eOp ixF (eVar 1) (eC (.int 1)))) aNil))))
/-- _law_sub: one 0, other 1 -/
def m_law_sub : Fn := runB 2
  (sRet (eCall (m_law_red 24) (aCons (eOp subF (eOp mulF (eOp ixF (eVar 0) (eC (.int 0))) (eOp ixF (eVar 1) (eC (.int 1)))) (eOp mulF (eOp ixF (eVar 1) (eC (.int 0))) (eOp ixF (eVar 0) (eC (.int 1))))) (aCons (eOp mulF (eOp ixF (eVar 0) (eC (.int 1))) (eOp ixF (eVar 1) (eC (.int 1)))) aNil))))
/-- _law_mul: one 0, other 1 -/
def m_law_mul : Fn := runB 2
  (sRet (eCall (m_law_red 24) (aCons (eOp mulF (eOp ixF (eVar 0) (eC (.int 0))) (eOp ixF (eVar 1) (eC (.int 0)))) (aCons (eOp mulF (eOp ixF (eVar 0) (eC (.int 1))) (eOp ixF (eVar 1) (eC (.int 1)))) aNil))))
def m_law_listed_c1 (self : Fn) : SE :=
  (eCall self (aCons (eVar 1) aNil))
/-- _law_listed: value 0, one 1 -/
def m_law_listed : Nat → Fn
  | 0 => fun _ _ => .bad
  | n + 1 => runB 2 (sSeq (sIf (bTru (eCB isF (aCons (eVar 0) (aCons (eC (.ty "tuple")) aNil))))
    (sRet (eLc (iSeq (eVar 0)) (.n 1) [1] (fun _ h => .ok true h) (m_law_listed_c1 (m_law_listed n))))
    sNext)
  (sRet (eVar 0)))
/-- _law_handed: row 0, spot 1, value 2 -/
def m_law_handed : Fn := runB 3
  (sRet (eIf (bEx (eOp eqF (eCall m_law_take (aCons (eVar 0) (aCons (eVar 1) (aCons (eC (.int 2)) aNil)))) (eC (.int 0)))) (eCall (m_law_listed 24) (aCons (eVar 2) aNil)) (eVar 2)))
/-- _law_div: one 0, other 1 -/
def m_law_div : Fn := runB 2
  (sRet (eCall (m_law_red 24) (aCons (eOp mulF (eOp ixF (eVar 0) (eC (.int 0))) (eOp ixF (eVar 1) (eC (.int 1)))) (aCons (eOp mulF (eOp ixF (eVar 0) (eC (.int 1))) (eOp ixF (eVar 1) (eC (.int 0)))) aNil))))
/-- _law_less: one 0, other 1 -/
def m_law_less : Fn := runB 2
  (sRet (eOp ltF (eOp mulF (eOp ixF (eVar 0) (eC (.int 0))) (eOp ixF (eVar 1) (eC (.int 1)))) (eOp mulF (eOp ixF (eVar 1) (eC (.int 0))) (eOp ixF (eVar 0) (eC (.int 1))))))
end Mp
/-! PreSpec: what the laws' own helpers reckon. -/
namespace Mp
open PySem PySem.Spec PyProof.Rows L2
/-! ### loops -/
theorem upFrom_int {lo : Int} {n : Nat} : ∀ d ∈ upFrom lo n, ∃ j : Int, d = .int j ∧ lo ≤ j ∧ j < lo + n := by
  intro d hd
  unfold upFrom at hd
  obtain ⟨i, hi, rfl⟩ := List.mem_map.mp hd
  have := List.mem_range.mp hi
  exact ⟨_, rfl, by omega, by omega⟩
theorem upFrom_len {lo : Int} {n : Nat} : (upFrom lo n).length = n := by unfold upFrom; simp
theorem cutD_map {α β : Type} (f : α → β) (xs : List α) (lo hi : Option Int) : cutD (xs.map f) lo hi = (cutD xs lo hi).map f := by
  unfold cutD
  simp [List.map_take, List.map_drop]
theorem cutD_len {α : Type} (xs : List α) (lo hi : Option Int) : (cutD xs lo hi).length ≤ xs.length := by
  unfold cutD
  simp only [List.length_take, List.length_drop]; omega
/-! ### the row of numbers -/
theorem dok997 : divOk 997 = true := divOk_of _ (by decide) (by decide) (by decide)
theorem numbers_l1 (sc : Option D) (c : Option D) (x5 : Option D) : ∀ (items : List D) (l : Int) (x4 : Option D) (acc : List Int), (∃ y3 y4 acc', fl (fun _ => true) (.n 4) m_law_numbers_l1 items [sc, some (.ref 0), c, some (.int l), x4, x5] [.lst (acc.map D.int)] = .nx [sc, some (.ref 0), c, y3, y4, x5] [.lst ((acc' : List Int).map D.int)] ∧ acc'.length ≤ acc.length + items.length) ∨ 999999 < acc.length + items.length
  | [], l, x4, acc => .inl ⟨some (.int l), x4, acc, by simp [fl], by simp⟩
  | d :: r, l, x4, acc => by
    by_cases hb : acc.length + (d :: r).length ≤ 999999
    · left
      unfold fl
      simp only [if_true, bindP_n]
      by_cases hl : l = 0
      · subst hl
        exact ⟨some (.int 0), some d, acc, by simp [m_law_numbers_l1], by simp⟩
      · have hacc : acc.length < 1000000 := by simp at hb; omega
        have e1 : m_law_numbers_l1 [sc, some (.ref 0), c, some (.int l), some d, x5] [.lst (acc.map D.int)] = .nx [sc, some (.ref 0), c, some (.int (l.fdiv 997)), some d, x5] [.lst ((acc ++ [l % 997]).map D.int)] := by
          simp [m_law_numbers_l1, hl, kindOk, appF, hacc, dok997]
        simp only [List.set_cons_succ, List.set_cons_zero, e1]
        rcases numbers_l1 sc c x5 r (l.fdiv 997) (some d) (acc ++ [l % 997]) with ⟨y3, y4, acc', e, hlen⟩ | z
        · exact ⟨y3, y4, acc', e, by simp at hlen ⊢; omega⟩
        · simp at z hb; omega
    · right; omega
theorem numbers_l2 (sc x3 : Option D) (c : Int) : ∀ (items : List D) (x4 x5 : Option D) (acc : List Int), (∀ d ∈ items, ∃ j : Int, d = .int j) → acc.length + items.length ≤ 999999 →
    ∃ y4 y5 acc', fl (fun _ => true) (.n 4) m_law_numbers_l2 items [sc, some (.ref 0), some (.int c), x3, x4, x5] [.lst (acc.map D.int)] = .nx [sc, some (.ref 0), some (.int c), x3, y4, y5] [.lst ((acc' : List Int).map D.int)] ∧ acc'.length ≤ acc.length + items.length
  | [], x4, x5, acc, _, _ => ⟨x4, x5, acc, by simp [fl], by simp⟩
  | d :: r, x4, x5, acc, hi, hb => by
    obtain ⟨j, rfl⟩ := hi d (by simp)
    have hacc : acc.length < 1000000 := by simp at hb; omega
    unfold fl
    simp only [if_true, bindP_n, List.set_cons_succ, List.set_cons_zero]
    have m1 : mulOk c 48271 = true := mulOk_r _ _ (by decide) (by decide)
    have m2 : mulOk j 69621 = true := mulOk_r _ _ (by decide) (by decide)
    have m3 : ∀ z, mulOk z 16807 = true := fun z => mulOk_r _ _ (by decide) (by decide)
    obtain ⟨v, w, e1⟩ : ∃ v w, m_law_numbers_l2 [sc, some (.ref 0), some (.int c), x3, some (.int j), x5] [.lst (acc.map D.int)] = .nx [sc, some (.ref 0), some (.int c), x3, some (.int j), some v] [.lst ((acc ++ [w]).map D.int)] := by
      simp [m_law_numbers_l2, kindOk, appF, hacc, m1, m2, m3]
    simp only [e1]
    obtain ⟨y4, y5, acc', e, hlen⟩ := numbers_l2 sc x3 c r (some (.int j)) (some v) (acc ++ [w]) (fun d hd => hi d (by simp [hd])) (by simp at hb ⊢; omega)
    exact ⟨y4, y5, acc', e, by simp at hlen ⊢; omega⟩
theorem numbers_l3 (sc : Option D) : ∀ (zs : List Int) (x2 x3 x4 x5 : Option D) (acc : List Int), acc.length + 60 * zs.length ≤ 999999 →
    ∃ y2 y3 y4 y5 acc', fl (fun _ => true) (.n 2) m_law_numbers_l3 (zs.map D.int) [sc, some (.ref 0), x2, x3, x4, x5] [.lst (acc.map D.int)] = .nx [sc, some (.ref 0), y2, y3, y4, y5] [.lst ((acc' : List Int).map D.int)] ∧ acc'.length ≤ acc.length + 60 * zs.length
  | [], x2, x3, x4, x5, acc, _ => ⟨x2, x3, x4, x5, acc, by simp [fl], by simp⟩
  | c :: r, x2, x3, x4, x5, acc, hb => by
    simp only [List.length_cons] at hb
    have key : ∃ y2 y3 y4 y5 acc', m_law_numbers_l3 [sc, some (.ref 0), some (.int c), x3, x4, x5] [.lst (acc.map D.int)] = .nx [sc, some (.ref 0), y2, y3, y4, y5] [.lst ((acc' : List Int).map D.int)] ∧ acc'.length ≤ acc.length + 60 := by
      by_cases hc : (1000000000000000000 : Int) ≤ c
      · rcases numbers_l1 sc (some (.int c)) x5 (upFrom 0 60) c x4 acc with ⟨y3, y4, acc', e, hl⟩ | z
        · exact ⟨some (.int c), y3, y4, x5, acc', by simp [m_law_numbers_l3, hc, e], by rw [upFrom_len] at hl; exact hl⟩
        · rw [upFrom_len] at z; omega
      · obtain ⟨y4, y5, acc', e, hl⟩ := numbers_l2 sc x3 c (upFrom 0 4) x4 x5 acc (fun d hd => by obtain ⟨j, e, _⟩ := upFrom_int d hd; exact ⟨j, e⟩) (by rw [upFrom_len]; omega)
        exact ⟨some (.int c), x3, y4, y5, acc', by simp [m_law_numbers_l3, hc, e], by rw [upFrom_len] at hl; omega⟩
    obtain ⟨y2, y3, y4, y5, acc1, e1, h1⟩ := key
    obtain ⟨z2, z3, z4, z5, acc2, e2, h2⟩ := numbers_l3 sc r y2 y3 y4 y5 acc1 (by omega)
    refine ⟨z2, z3, z4, z5, acc2, ?_, by simp only [List.length_cons]; omega⟩
    rw [List.map_cons]
    unfold fl
    simp only [if_true, bindP_n, List.set_cons_succ, List.set_cons_zero, e1]
    exact e2
theorem numbers_raw (b : Bool) (ns : List Int) (hn : ns.length ≤ 63) : ∃ row : List Int, row ≠ [] ∧ row.length ≤ 4000 ∧ m_law_numbers [scD b (ns.map D.int)] [] = .ok (.ref 0) [.lst (row.map D.int)] := by
  unfold m_law_numbers
  rw [runB_s]
  have e0 : ∀ h, slF (scD b (ns.map D.int)) none (some 63) h = .ok (.lst (cutD (ns.map D.int) none (some 63))) h := fun h => by cases b <;> simp [scD, slF]
  simp [e0, cutD_map]
  generalize hz : cutD ns none (some 63) = zs
  have hzl : zs.length ≤ 63 := by rw [← hz]; exact Nat.le_trans (cutD_len _ _ _) hn
  obtain ⟨y2, y3, y4, y5, row, e, hl⟩ := numbers_l3 (some (scD b (ns.map D.int))) zs none none none none [] (by simp; omega)
  simp only [List.map_nil] at e
  rw [e]
  by_cases hr : row = []
  · subst hr
    exact ⟨[0], by simp, by simp, by simp [kindOk, appF, lenF]⟩
  · have : (row.map D.int).length ≠ 0 := by simpa using hr
    refine ⟨row, hr, by simp at hl; omega, ?_⟩
    simp [lenF, hr]
/-- the row of numbers that a law makes of its script -/
theorem numbers_ok (b : Bool) (ns : List Int) (hn : ns.length ≤ 63) : ∃ row : List Int, row ≠ [] ∧ row.length ≤ 4000 ∧ ∀ h, callL m_law_numbers [scD b (ns.map D.int)] h = .ok (.lst (row.map D.int)) h := by
  obtain ⟨row, h1, h2, e⟩ := numbers_raw b ns hn
  exact ⟨row, h1, h2, call_pure (by cases b <;> simp [scD]) e (frz_cell (by simp) rfl (by simp))⟩
/-! ### draws -/
def draw (row : List Int) (at_ lim : Int) : Int :=
  if at_ < row.length then row.getD at_.toNat 0 % lim else ((((row.getD (at_ % row.length).toNat 0 * 40692 + at_ * 7919 + 3) % 2147483399) * 48271 + at_) % 2147483647) % lim
theorem draw_range {row : List Int} {a l : Int} (hl : 0 < l) : 0 ≤ draw row a l ∧ draw row a l < l := by
  unfold draw
  split
  · exact ⟨Int.emod_nonneg _ (by omega), Int.emod_lt_of_pos _ hl⟩
  · exact ⟨Int.emod_nonneg _ (by omega), Int.emod_lt_of_pos _ hl⟩
theorem draw_ok {row : List Int} (hr : row ≠ []) {a l : Int} (ha : 0 ≤ a) (hl : 0 < l) (h : Hc) : callL m_law_draw [.lst (row.map D.int), .int a, .int l] h = .ok (.int (draw row a l)) h := by
  refine call_flat (h' := []) (by simp) ?_ (by simp) h
  unfold m_law_draw
  rw [runB_s]
  have hp : 0 < row.length := by cases row <;> simp_all
  have m1 : ∀ z, mulOk z 40692 = true := fun z => mulOk_r _ _ (by decide) (by decide)
  have m2 : mulOk a 7919 = true := mulOk_r _ _ (by decide) (by decide)
  have m3 : ∀ z, mulOk z 48271 = true := fun z => mulOk_r _ _ (by decide) (by decide)
  by_cases hc : a < row.length
  · have e : atI (row.map D.int) a = some (.int (row.getD a.toNat 0)) := by
      rw [atI_of ha (by simpa using hc)]
      have : a.toNat < row.length := by omega
      simp [this]
    simp [hc, e, hl, draw]
  · have h1 := Int.emod_nonneg a (show (row.length : Int) ≠ 0 by omega)
    have h2 := Int.emod_lt_of_pos a (show (0 : Int) < row.length by omega)
    have e : atI (row.map D.int) (a % row.length) = some (.int (row.getD (a % row.length).toNat 0)) := by
      rw [atI_of h1 (by simpa using h2)]
      have : (a % row.length).toNat < row.length := by omega
      simp [this]
    simp [hc, e, hl, draw, m1, m2, m3, hp]
theorem take_raw {row : List Int} (hr : row ≠ []) {k l : Int} (hk : 0 ≤ k) (hl : 0 < l) : m_law_take [.lst (row.map D.int), .ref 0, .int l] [.lst [.int k]] = .ok (.int (draw row k l)) [.lst [.int (k + 1)]] := by
  unfold m_law_take
  rw [runB_s]
  simp [ixF, setF, ixN, draw_ok hr hk hl]
theorem take_ok {row : List Int} (hr : row ≠ []) {k l : Int} {i : Nat} {h : Hc} (hi : h[i]? = some (.lst [.int k])) (hk : 0 ≤ k) (hl : 0 < l) : callL m_law_take [.lst (row.map D.int), .ref i, .int l] h = .ok (.int (draw row k l)) (h.set i (.lst [.int (k + 1)])) :=
  call_spot (by simp) (by simp) hi (take_raw hr hk hl) (by simp) fun j => frzD_flat (by simp)
end Mp
/-! PreSpecB: draws that are wide, and the law's own quotients. -/
namespace Mp
open PySem PySem.Spec PyProof.Rows L2
section
variable {row : List Int} (hr : row ≠ [])
include hr
theorem take_ex {k l : Int} {i : Nat} {h : Hc} (hi : h[i]? = some (.lst [.int k])) (hk : 0 ≤ k) (hl : 0 < l) : ∃ v k', 0 ≤ v ∧ v < l ∧ 0 ≤ k' ∧ callL m_law_take [.lst (row.map D.int), .ref i, .int l] h = .ok (.int v) (h.set i (.lst [.int k'])) :=
  ⟨draw row k l, k + 1, (draw_range hl).1, (draw_range hl).2, by omega, take_ok hr hi hk hl⟩
end
/-! ### the gcd -/
/-! ### quotients -/
/-- the number that divides both, with the sign of the divisor -/
def sg (n d : Int) : Int := if d < 0 then -(Int.gcd n d : Int) else (Int.gcd n d : Int)
/-- a quotient in lowest terms -/
def rdc (n d : Int) : D := .tup [.int (n.fdiv (sg n d)), .int (d.fdiv (sg n d))]
end Mp
/-! PreSpecC: sums of quotients, the same answer, what is handed in. -/
namespace Mp
open PySem PySem.Spec PyProof.Rows L2
/-- a quotient as a value -/
abbrev qv (n d : Int) : D := .tup [.int n, .int d]
/-- a number that is small -/
def sm (m : Nat) (n : Int) : Prop := n.natAbs < 2 ^ m
/-! ### a quotient that is drawn -/
section
variable {row : List Int} (hr : row ≠ [])
include hr
end
/-! ### the same answer -/
def soFit : Nat → D → Bool
  | 0, _ => false
  | n + 1, d => match d with
    | .int _ => true
    | .bl _ => true
    | .str _ => true
    | .non => true
    | .tup xs => decide (xs.length < 1000000) && xs.all (soFit n)
    | _ => false
theorem soFit_flat : ∀ {n : Nat} {d : D}, soFit n d = true → flat d = true
  | 0, d, h => by simp [soFit] at h
  | n + 1, d, h => by
    cases d <;> simp [soFit] at h ⊢
    rename_i xs
    obtain ⟨_, h⟩ := h
    have : ∀ ys : List D, (∀ a ∈ ys, soFit n a = true) → flatL ys = true := by
      intro ys
      induction ys with
      | nil => simp
      | cons x ys ih =>
        intro h
        simp at h ⊢
        exact ⟨soFit_flat h.1, ih h.2⟩
    exact this xs h
theorem so_loop {n : Nat} {xs : List D} (ih : ∀ d h, soFit n d = true → callL (m_law_so n) [d, d] h = .ok (.bl true) h) (hx : ∀ x ∈ xs, soFit n x = true) : ∀ (items : List D) (x2 : Option D), (∀ d ∈ items, ∃ j : Int, d = .int j ∧ 0 ≤ j ∧ j < xs.length) → ∃ y2, fl (fun _ => true) (.n 2) (m_law_so_l1 (m_law_so n)) items [some (.tup xs), some (.tup xs), x2] [] = .nx [some (.tup xs), some (.tup xs), y2] []
  | [], x2, _ => ⟨x2, by simp [fl]⟩
  | d :: r, x2, hi => by
    obtain ⟨j, rfl, j0, j1⟩ := hi d (by simp)
    obtain ⟨y2, e⟩ := so_loop ih hx r (some (.int j)) fun d hd => hi d (by simp [hd])
    refine ⟨y2, ?_⟩
    have hj : j.toNat < xs.length := by omega
    have e2 : atI xs j = some xs[j.toNat] := by rw [atI_of j0 j1]; simp [hj]
    have e3 := ih xs[j.toNat] [] (hx _ (List.getElem_mem hj))
    unfold fl
    simp [m_law_so_l1, e2, e3]
    exact e
theorem so_step {n : Nat} (ih : ∀ d h, soFit n d = true → callL (m_law_so n) [d, d] h = .ok (.bl true) h) (d : D) (h : Hc) (hf : soFit (n + 1) d = true) : callL (m_law_so (n + 1)) [d, d] h = .ok (.bl true) h := by
  have hfl := soFit_flat hf
  refine call_flat (h' := []) (by simp [hfl]) ?_ (by simp) h
  unfold m_law_so
  rw [runB_s]
  cases d <;> simp [soFit] at hf
  · simp
  · simp
  · simp
  · simp
  · rename_i xs
    obtain ⟨hl, hx⟩ := hf
    obtain ⟨y2, e⟩ := so_loop ih hx (upFrom 0 xs.length) none (fun d hd => by
      obtain ⟨j, e, j0, j1⟩ := upFrom_int d hd
      exact ⟨j, e, j0, by omega⟩)
    simp [e, rgOk_nat (show xs.length < 4000000000000000000 by omega)]
theorem so_refl : ∀ (n : Nat) (d : D) (h : Hc), soFit n d = true → callL (m_law_so n) [d, d] h = .ok (.bl true) h := by
  intro n
  induction n with
  | zero => intro d h hf; simp [soFit] at hf
  | succ n ih => exact so_step ih
/-! ### what is handed in -/
/-- a row of two, as a tuple or as a list -/
def pq (b : Bool) (n d : Int) : D := if b then .lst [.int n, .int d] else qv n d
end Mp
namespace Mp
open PySem PySem.Spec PyProof.Rows L2
/-! ### mirrors: Quo -/
/-- lowest: n 0, d 1, common 2 -/
def m_lowest : Fn := runB 3
  (sSeq (sSet 2 (eCB gcdF (aCons (eVar 0) (aCons (eVar 1) aNil))))
  (sSeq (sIf (bEx (eOp ltF (eVar 1) (eC (.int 0))))
    (sSet 2 (eUn negF (eVar 2)))
    sNext)
  (sRet (eTup (aCons (eOp fdivF (eVar 0) (eVar 2)) (aCons (eOp fdivF (eVar 1) (eVar 2)) aNil))))))
/-- is_integer: x 0 -/
def m_is_integer : Fn := runB 1
  (sRet (eAnd (eCB isF (aCons (eVar 0) (aCons (eC (.ty "int")) aNil))) (eNot (eCB isF (aCons (eVar 0) (aCons (eC (.ty "bool")) aNil))))))
/-- reduced: n 0, d 1 -/
def m_reduced : Fn := runB 2
  (sSeq (sIf (bNot (bTru (eCall m_is_integer (aCons (eVar 0) aNil))))
    (sRaise "BadValue" ["at"] (aCons (eC (.int 0)) aNil))
    sNext)
  (sSeq (sIf (bOr (bNot (bTru (eCall m_is_integer (aCons (eVar 1) aNil)))) (bEx (eOp eqF (eVar 1) (eC (.int 0)))))
    (sRaise "BadValue" ["at"] (aCons (eC (.int 1)) aNil))
    sNext)
  (sRet (eCall m_lowest (aCons (eVar 0) (aCons (eVar 1) aNil))))))
/-- is_sequence: x 0 -/
def m_is_sequence : Fn := runB 1
  (sRet (eIs2 (eVar 0) "list" "tuple"))
/-- is_row: x 0, least 1, most 2 -/
def m_is_row : Fn := runB 3
  (sRet (eAnd (eCall m_is_sequence (aCons (eVar 0) aNil)) (eAnd (eOp leF (eVar 1) (eCB lenF (aCons (eVar 0) aNil))) (eOp leF (eCB lenF (aCons (eVar 0) aNil)) (eVar 2)))))
/-- is_fraction: x 0 -/
def m_is_fraction : Fn := runB 1
  (sSeq (sIf (bOr (bNot (bTru (eCall m_is_row (aCons (eVar 0) (aCons (eC (.int 2)) (aCons (eC (.int 2)) aNil)))))) (bOr (bNot (bTru (eCall m_is_integer (aCons (eOp ixF (eVar 0) (eC (.int 0))) aNil)))) (bNot (bTru (eCall m_is_integer (aCons (eOp ixF (eVar 0) (eC (.int 1))) aNil))))))
    (sRet (eC (.bl false)))
    sNext)
  (sRet (eAnd (eOp geF (eOp ixF (eVar 0) (eC (.int 1))) (eC (.int 1))) (eOp eqF (eCB gcdF (aCons (eOp ixF (eVar 0) (eC (.int 0))) (aCons (eOp ixF (eVar 0) (eC (.int 1))) aNil))) (eC (.int 1))))))
/-- _look: a 0, b 1 -/
def m_look : Fn := runB 2
  (sSeq (sIf (bNot (bTru (eCall m_is_fraction (aCons (eVar 0) aNil))))
    (sRaise "BadValue" ["at"] (aCons (eC (.int 0)) aNil))
    sNext)
  (sIf (bNot (bTru (eCall m_is_fraction (aCons (eVar 1) aNil))))
    (sRaise "BadValue" ["at"] (aCons (eC (.int 1)) aNil))
    sNext))
/-- plus: a 0, b 1 -/
def m_plus : Fn := runB 2
  (sSeq (sDrop (eCall m_look (aCons (eVar 0) (aCons (eVar 1) aNil))))
  (sRet (eCall m_lowest (aCons (eOp addF (eOp mulF (eOp ixF (eVar 0) (eC (.int 0))) (eOp ixF (eVar 1) (eC (.int 1)))) (eOp mulF (eOp ixF (eVar 1) (eC (.int 0))) (eOp ixF (eVar 0) (eC (.int 1))))) (aCons (eOp mulF (eOp ixF (eVar 0) (eC (.int 1))) (eOp ixF (eVar 1) (eC (.int 1)))) aNil)))))
/-- minus: a 0, b 1 -/
def m_minus : Fn := runB 2
  (sSeq (sDrop (eCall m_look (aCons (eVar 0) (aCons (eVar 1) aNil))))
  (sRet (eCall m_lowest (aCons (eOp subF (eOp mulF (eOp ixF (eVar 0) (eC (.int 0))) (eOp ixF (eVar 1) (eC (.int 1)))) (eOp mulF (eOp ixF (eVar 1) (eC (.int 0))) (eOp ixF (eVar 0) (eC (.int 1))))) (aCons (eOp mulF (eOp ixF (eVar 0) (eC (.int 1))) (eOp ixF (eVar 1) (eC (.int 1)))) aNil)))))
/-- times: a 0, b 1 -/
def m_times : Fn := runB 2
  (sSeq (sDrop (eCall m_look (aCons (eVar 0) (aCons (eVar 1) aNil))))
  (sRet (eCall m_lowest (aCons (eOp mulF (eOp ixF (eVar 0) (eC (.int 0))) (eOp ixF (eVar 1) (eC (.int 0)))) (aCons (eOp mulF (eOp ixF (eVar 0) (eC (.int 1))) (eOp ixF (eVar 1) (eC (.int 1)))) aNil)))))
/-- over: a 0, b 1 -/
def m_over : Fn := runB 2
  (sSeq (sDrop (eCall m_look (aCons (eVar 0) (aCons (eVar 1) aNil))))
  (sSeq (sIf (bEx (eOp eqF (eOp ixF (eVar 1) (eC (.int 0))) (eC (.int 0))))
    (sRaise "BadValue" ["at"] (aCons (eC (.int 1)) aNil))
    sNext)
  (sRet (eCall m_lowest (aCons (eOp mulF (eOp ixF (eVar 0) (eC (.int 0))) (eOp ixF (eVar 1) (eC (.int 1)))) (aCons (eOp mulF (eOp ixF (eVar 0) (eC (.int 1))) (eOp ixF (eVar 1) (eC (.int 0)))) aNil))))))
/-- less: a 0, b 1 -/
def m_less : Fn := runB 2
  (sSeq (sDrop (eCall m_look (aCons (eVar 0) (aCons (eVar 1) aNil))))
  (sRet (eOp ltF (eOp mulF (eOp ixF (eVar 0) (eC (.int 0))) (eOp ixF (eVar 1) (eC (.int 1)))) (eOp mulF (eOp ixF (eVar 1) (eC (.int 0))) (eOp ixF (eVar 0) (eC (.int 1)))))))
end Mp
/-! QuoSpec: what the program's quotients reckon. -/
namespace Mp
open PySem PySem.Spec PyProof.Rows L2
theorem is_integer_int (i : Int) (h : Hc) : callL m_is_integer [.int i] h = .ok (.bl true) h := by
  refine call_flat (h' := []) (by simp) ?_ (by simp) h
  unfold m_is_integer
  rw [runB_s]
  simp
section
variable (x y : Bool) {a b c d : Int} (ha : sm 4000 a) (hb : sm 4000 b) (hc : sm 4000 c) (hd : sm 4000 d) (b1 : 1 ≤ b) (gab : Int.gcd a b = 1) (d1 : 1 ≤ d) (gcd_ : Int.gcd c d = 1) (h : Hc)
include ha hb hc hd b1 gab d1 gcd_
end
end Mp
/-! LayU: three sequences walked side by side, each a list or a tuple. -/
namespace Mp
open PySem PySem.Spec PyProof.Rows L2
/-- three sequences, their items in new triples -/
def ItT3 (t1 t2 t3 : Bool) (K : PySem.W.Frag) (a b c : Addr) : It where
  go i H := ∃ (xs ys zs : List V) (x y z : V), SqX t1 K H a xs ∧ SqX t2 K H b ys ∧ SqX t3 K H c zs ∧ xs[i]? = some x ∧ ys[i]? = some y ∧ zs[i]? = some z
  yld i H v H' := ∃ T x y z, v = .ref T ∧ H T = none ∧ H' = upd H T (.tup [x, y, z]) ∧ (∀ xs, SqX t1 K H a xs → xs[i]? = some x) ∧ (∀ ys, SqX t2 K H b ys → ys[i]? = some y) ∧ ∀ zs, SqX t3 K H c zs → zs[i]? = some z
  stop i H := ∃ xs ys zs : List V, SqX t1 K H a xs ∧ SqX t2 K H b ys ∧ SqX t3 K H c zs ∧ (xs.length ≤ i ∨ ys.length ≤ i ∨ zs.length ≤ i)
section
variable {prog : Program} {w : World} {A : Around}
end
/-- zip of three sequences -/
def iZpB3 (K : PySem.W.Frag) (ta : TA) : TI := fun σ H R => ta σ H fun vs H1 => ∃ t1 t2 t3 a b c xs ys zs, vs = [.ref a, .ref b, .ref c] ∧ SqX t1 K H1 a xs ∧ SqX t2 K H1 b ys ∧ SqX t3 K H1 c zs ∧ R (ItT3 t1 t2 t3 K a b c) H1
/-- the triples -/
def zipD3 : List D → List D → List D → List D
  | x :: xs, y :: ys, z :: zs => .tup [x, y, z] :: zipD3 xs ys zs
  | _, _, _ => []
def chkZ3 (d : D) (xs : List D) (e : D) (ys : List D) (f : D) (zs : List D) : Hc → Bool := fun h => chkQ d xs h && chkQ e ys h && chkQ f zs h
def zp3F (xs : List D) (h : Hc) : R ItD := match xs with
  | [d, e, f] => match seqD h d, seqD h e, seqD h f with
    | some us, some ws, some ts => .ok ⟨zipD3 us ws ts, chkZ3 d us e ws f ts⟩ h
    | _, _, _ => .bad
  | _ => .bad
def iZip3 (as : SA) : SI := fun ds h => (as ds h).bd zp3F
section
variable {K : PySem.W.Frag} {ω : Wo} {h : Hc} {d e f : D}
end
section
variable {X : Cx} {W : WX} {e : Expr} {as : SA}
end
end Mp
/-! LayT: x in a list, the items data of any depth. -/
namespace Mp
open PySem PySem.Spec PyProof.Rows L2
def inZ (neg : Bool) (x y : D) (h : Hc) : R D := if scalD x = true then inG neg x y h else match toPyR h x, toPyR h y with
  | some d, some (.list ds) => if SeqAt.shaped d = true ∧ SeqAt.shaped (.list ds) = true then .ok (.bl (if neg then !(ds.any fun z => PyData.eqv z d) else ds.any fun z => PyData.eqv z d)) h else .bad
  | _, _ => .bad
def rInZ (K : PySem.W.Frag) (neg : Bool) : R2 := fun x y H Q => rInA K neg x y H Q ∨ ∃ d ds, Dp K H x d ∧ Dp K H y (.list ds) ∧ SeqAt.shaped d = true ∧ SeqAt.shaped (.list ds) = true ∧ Q (.bl (if neg then !(ds.any fun z => PyData.eqv z d) else ds.any fun z => PyData.eqv z d)) H
section
variable {X : Cx}
theorem hu_of65 {k : Nat} (hr : Room k X.A) : X.A.units + 65 < cLine := by have := hr.un; omega
end
end Mp
/-! LayR: max(xs, default=d), xs a list of ints. -/
namespace Mp
open PySem PySem.Spec PyProof.Rows L2
theorem reads_ints41 (h : Heap) : ∀ {vs : List Value} {xs : List Int}, IntsAre vs xs → ReadsAll h vs (xs.map PyData.int) [] := by
  intro vs xs x
  exact ints_readAll h x
theorem alike_ints (xs : List Int) : PySem.W.AlikeAll (xs.map PyData.int) := by
  refine ⟨fun x hx y hy => ?_, fun x hx => ?_⟩
  · obtain ⟨i, _, rfl⟩ := List.mem_map.mp hx
    obtain ⟨j, _, rfl⟩ := List.mem_map.mp hy
    rfl
  · obtain ⟨i, _, rfl⟩ := List.mem_map.mp hx
    intro z
    cases z
theorem depth_ints : ∀ xs : List Int, PyData.depthAll (xs.map PyData.int) = 0
  | [] => rfl
  | x :: r => by
    rw [List.map_cons, PyData.depthAll, depth_ints r]
    rfl
def rMaxD (K : PySem.W.Frag) : List V → List V → Hp → VK → Prop := fun vs zs H Q => ∃ (a : Addr) (ns : List Int) (z : V), vs = [V.ref a] ∧ zs = [z] ∧ SqL K H a (ns.map V.int) ∧ (ns = [] → Q z H) ∧ ∀ n r, ns = n :: r → Q (V.int (r.foldl max n)) H
section
variable {X : Cx}
theorem cr_maxD (hc : X.calm = true) (hu : X.A.units + 65 < cLine) : CallRK X (.builtin "max") [Str.ofString "default"] (rMaxD X.K) := by
  intro pins s σ H vs zs us ws Q I r rz h
  obtain ⟨a, ns, z, rfl, rfl, hs, q0, q1⟩ := h
  obtain rfl := Vals.ref1 r
  obtain ⟨w1, rfl, e1⟩ := vals1 rz
  obtain ⟨its, rv, hl, hz⟩ := I.list hs
  have hr : ReadsAll s.heap its.toArray.toList (ns.map PyData.int) [] := by
    rw [List.toList_toArray]
    exact reads_ints41 s.heap rv.ints
  refine PySem.W.max_list_default (I.ok.hd hc) hl.isList hr (alike_ints ns) (by rw [depth_ints]; omega) (fun he h' tk hk => ?_) fun y ys i v h' tk bs he hv hrd hk => ?_
  · have : ns = [] := by simpa using he
    exact ⟨z, H, I.kept hk, e1, q0 this⟩
  · cases ns with
    | nil => simp at he
    | cons n r =>
      rw [List.map_cons] at he
      injection he with e2 e3
      subst e2 e3
      rw [PySem.W.maxD_ints] at hrd
      obtain ⟨t, rfl⟩ : ∃ t, v = .int (r.foldl max n) t := by
        cases hrd
        exact ⟨_, rfl⟩
      exact ⟨.int (r.foldl max n), H, I.kept hk, ⟨t, rfl⟩, q1 n r rfl⟩
def mxdF (x d : D) (h : Hc) : R D := match rdlD h x with
  | some ys => match intsD ys with
    | some [] => .ok d h
    | some (n :: r) => .ok (.int (r.foldl max n)) h
    | none => .bad
  | none => .bad
variable {W : WX} {e ed : Expr} {ma md : SE} {p pos kp : Pos}
theorem de_maxD (hc : X.calm = true) (hu : X.A.units + 65 < cLine) (hg : Gl X "max") (hm : X.mg "max" = none) (hv : bootBuiltins "max" = some (.builtin "max")) (ha : DE X W e ma) (hd : DE X W ed md)
    (hs : starEach [e] X.env = (false, eval e X.env) :: starEach [] X.env := by rfl)
    (he : backTo pos (starEach [e] X.env) = (false, eval e X.env) :: backTo pos (starEach [] X.env) := by rfl) (hpl : (backTo pos (starEach [e] X.env)).any (·.1) = false := by rfl)
    (hall : (backToKw pos (keywordEach [⟨some "default", ed, kp⟩] X.env)).all (·.1.isSome) = true := by rfl) (hnone : (backToKw pos (keywordEach [⟨some "default", ed, kp⟩] X.env)).any (·.1.isNone) = false := by rfl) (hks : (backToKw pos (keywordEach [⟨some "default", ed, kp⟩] X.env)).filterMap (·.1) = [Str.ofString "default"] := by rfl) :
    DE X W (.Call (.Name "max" p) [e] [⟨some "default", ed, kp⟩] pos) (eOp mxdF ma md) :=
  de_of (pe_callBK (cr_maxD hc hu) hg hm hv (pa_cons ha pa_nil hs) (pk_cons hd pk_nil) (by decide) (by decide) he hpl hall hnone hks) fun σ H Q ⟨ω, h, ds, e1, r, s, p⟩ => by
    subst e1
    refine ⟨ω, h, ds, rfl, r, s, p.bd fun x h1 v ω1 e1 r1 d1 p1 => ⟨ω1, h1, ds, rfl, r1, monoS r e1 s, p1.bd fun y h2 u ω2 e2 r2 d2 p2 => ?_⟩⟩
    unfold mxdF at p2
    split at p2
    · rename_i ys q
      obtain ⟨a, us, rfl, f2, f3⟩ := rdlD_rel r2 q (mono r1 e2 _ _ d1)
      split at p2
      · rename_i q2
        rw [intsD_eq q2] at f3
        rw [f3.ints] at f2
        exact ⟨a, [], u, rfl, rfl, f2, fun _ => p2.here r2 d2, (fun n r z => nomatch z)⟩
      · rename_i n rr q2
        rw [intsD_eq q2] at f3
        rw [f3.ints] at f2
        refine ⟨a, n :: rr, u, rfl, rfl, f2, (fun z => nomatch z), fun n' r' z => ?_⟩
        injection z with z1 z2
        subst z1 z2
        exact p2.here r2 int_rd
      · exact False.elim p2
    · exact False.elim p2
end
end Mp
namespace Mp
open PySem PySem.Spec PyProof.Rows L2
/-! ### mirrors: Age -/
/-- _law_pick: row 0, spot 1, things 2 -/
def m_law_pick : Fn := runB 3
  (sRet (eOp ixF (eVar 2) (eCall m_law_take (aCons (eVar 0) (aCons (eVar 1) (aCons (eCB lenF (aCons (eVar 2) aNil)) aNil))))))
def m_law_life_c1 : SE :=
  (eCall m_law_pick (aCons (eVar 0) (aCons (eVar 1) (aCons (eLst (aCons (eC (.int 0)) (aCons (eC (.int 0)) (aCons (eC (.int 1)) (aCons (eC (.int 1)) (aCons (eC (.int 2)) (aCons (eC (.int 3)) (aCons (eC (.int 9)) aNil)))))))) aNil))))
/-- _law_life: row 0, spot 1, made 2, k 3 -/
def m_law_life : Fn := runB 4
  (sSeq (sSet 2 (eLcC (iRg1 (aCons (eOp addF (eC (.int 1)) (eCall m_law_take (aCons (eVar 0) (aCons (eVar 1) (aCons (eC (.int 12)) aNil))))) aNil)) (.n 3) [3] (fun _ h => .ok true h) m_law_life_c1))
  (sSeq (sIf (bEx (eOp eqF (eOp ixF (eVar 2) (eOp subF (eCB lenF (aCons (eVar 2) aNil)) (eC (.int 1)))) (eC (.int 0))))
    (sPut setF (eOp addF (eC (.int 1)) (eCall m_law_take (aCons (eVar 0) (aCons (eVar 1) (aCons (eC (.int 4)) aNil))))) (eVar 2) (eOp subF (eCB lenF (aCons (eVar 2) aNil)) (eC (.int 1))))
    sNext)
  (sRet (eCB tupleF (aCons (eVar 2) aNil)))))
/-- is_within: x 0, low 1, high 2 -/
def m_is_within : Fn := runB 3
  (sRet (eAnd (eCall m_is_integer (aCons (eVar 0) aNil)) (eAnd (eOp leF (eVar 1) (eVar 0)) (eOp leF (eVar 0) (eVar 2)))))
def m_is_life_c1 : SE :=
  (eCall m_is_within (aCons (eVar 1) (aCons (eC (.int 0)) (aCons (eC (.int 9)) aNil))))
/-- is_life: life 0, weight 1 -/
def m_is_life : Fn := runB 2
  (sSeq (sIf (bNot (bTru (eCall m_is_row (aCons (eVar 0) (aCons (eC (.int 1)) (aCons (eC (.int 12)) aNil))))))
    (sRet (eC (.bl false)))
    sNext)
  (sSeq (sIf (bNot (bTru (eCB allF (aCons (eLc (iSeq (eVar 0)) (.n 1) [1] (fun _ h => .ok true h) m_is_life_c1) aNil))))
    (sRet (eC (.bl false)))
    sNext)
  (sRet (eOp geF (eOp ixF (eVar 0) (eUn negF (eC (.int 1)))) (eC (.int 1))))))
def m_used_days_c1 : SE :=
  (eOp mulF (eVar 3) (eCB minF (aCons (eOp addF (eVar 2) (eC (.int 1))) (aCons (eVar 1) aNil))))
/-- used_days: life 0, age 1, at 2, weight 3 -/
def m_used_days : Fn := runB 4
  (sRet (eCB sumA (aCons (eLc (iEnu (aCons (eVar 0) aNil)) (.t ((.n 2) :: ((.n 3) :: []))) [2, 3] (fun _ h => .ok true h) m_used_days_c1) aNil)))
/-- mean_life: life 0 -/
def m_mean_life : Fn := runB 1
  (sSeq (sIf (bNot (bTru (eCall m_is_life (aCons (eVar 0) aNil))))
    (sRaise "BadValue" ["at"] (aCons (eC (.int 0)) aNil))
    sNext)
  (sRet (eCall m_reduced (aCons (eCall m_used_days (aCons (eVar 0) (aCons (eCB lenF (aCons (eVar 0) aNil)) aNil))) (aCons (eCB sumA (aCons (eVar 0) aNil)) aNil)))))
/-- check_costs: life 0, plan 1, fail 2 -/
def m_check_costs : Fn := runB 3
  (sSeq (sIf (bNot (bTru (eCall m_is_life (aCons (eVar 0) aNil))))
    (sRaise "BadValue" ["at"] (aCons (eC (.int 0)) aNil))
    sNext)
  (sSeq (sIf (bNot (bTru (eCall m_is_within (aCons (eVar 1) (aCons (eC (.int 0)) (aCons (eC (.int 1000)) aNil))))))
    (sRaise "BadValue" ["at"] (aCons (eC (.int 1)) aNil))
    sNext)
  (sIf (bNot (bTru (eCall m_is_within (aCons (eVar 2) (aCons (eC (.int 0)) (aCons (eC (.int 1000)) aNil))))))
    (sRaise "BadValue" ["at"] (aCons (eC (.int 2)) aNil))
    sNext)))
/-- paid: life 0, plan 1, fail 2, age 3, ended 4 -/
def m_paid : Fn := runB 5
  (sSeq (sSet 4 (eCB sumA (aCons (eSl slF (eVar 0) none (some (eVar 3))) aNil)))
  (sRet (eOp addF (eOp mulF (eVar 2) (eVar 4)) (eOp mulF (eVar 1) (eOp subF (eCB sumA (aCons (eVar 0) aNil)) (eVar 4))))))
/-- cost_of_age: life 0, plan 1, fail 2, age 3 -/
def m_cost_of_age : Fn := runB 4
  (sRet (eCall m_reduced (aCons (eCall m_paid (aCons (eVar 0) (aCons (eVar 1) (aCons (eVar 2) (aCons (eVar 3) aNil))))) (aCons (eCall m_used_days (aCons (eVar 0) (aCons (eVar 3) aNil))) aNil))))
/-- age_cost: life 0, plan 1, fail 2, age 3 -/
def m_age_cost : Fn := runB 4
  (sSeq (sDrop (eCall m_check_costs (aCons (eVar 0) (aCons (eVar 1) (aCons (eVar 2) aNil)))))
  (sSeq (sIf (bNot (bTru (eCall m_is_within (aCons (eVar 3) (aCons (eC (.int 1)) (aCons (eCB lenF (aCons (eVar 0) aNil)) aNil))))))
    (sRaise "BadValue" ["at"] (aCons (eC (.int 3)) aNil))
    sNext)
  (sRet (eCall m_cost_of_age (aCons (eVar 0) (aCons (eVar 1) (aCons (eVar 2) (aCons (eVar 3) aNil))))))))
def m_law_age_cost_l1 : SS :=
  (sSeq (sSet 4 (eOp addF (eVar 4) (eOp mulF (eOp ixF (eVar 0) (eVar 6)) (eIf (bEx (eOp leF (eOp addF (eVar 6) (eC (.int 1))) (eVar 3))) (eVar 2) (eVar 1)))))
    (sSet 5 (eOp addF (eVar 5) (eOp mulF (eOp ixF (eVar 0) (eVar 6)) (eIf (bEx (eOp leF (eOp addF (eVar 6) (eC (.int 1))) (eVar 3))) (eOp addF (eVar 6) (eC (.int 1))) (eVar 3))))))
/-- _law_age_cost: life 0, plan 1, fail 2, age 3, cost 4, days 5, k 6 -/
def m_law_age_cost : Fn := runB 7
  (sSeq (sSet 4 (eC (.int 0)))
  (sSeq (sSet 5 (eC (.int 0)))
  (sSeq (sFor (iRg1 (aCons (eCB lenF (aCons (eVar 0) aNil)) aNil)) (.n 6)
    m_law_age_cost_l1)
  (sRet (eCall (m_law_red 24) (aCons (eVar 4) (aCons (eVar 5) aNil)))))))
end Mp
/-! AgeSpec: lives, what they use and pay. -/
namespace Mp
open PySem PySem.Spec PyProof.Rows L2
/-- a row of numbers, as a list or as a tuple -/
def sq (b : Bool) (xs : List Int) : D := if b then .lst (xs.map D.int) else .tup (xs.map D.int)
theorem flatL_of {xs : List D} (h : ∀ x ∈ xs, flat x = true) : flatL xs = true := by
  induction xs with
  | nil => simp
  | cons x xs ih => simp [h x (by simp), ih fun y hy => h y (by simp [hy])]
section
variable {row : List Int} (hr : row ≠ [])
include hr
/-- one of some things -/
theorem pick_ex {k : Int} {i : Nat} {h : Hc} {xs : List D} (hf : ∀ x ∈ xs, flat x = true) (hx : xs ≠ []) (hi : h[i]? = some (.lst [.int k])) (hk : 0 ≤ k) : ∃ v k', v ∈ xs ∧ 0 ≤ k' ∧ callL m_law_pick [.lst (row.map D.int), .ref i, .lst xs] h = .ok v (h.set i (.lst [.int k'])) := by
  have hp : 0 < xs.length := by cases xs <;> simp_all
  obtain ⟨v, k1, a1, b1, c1, e1⟩ := take_ex hr (h := [.lst [.int k]]) (i := 0) (l := (xs.length : Int)) rfl hk (by omega)
  simp at e1
  have hj : v.toNat < xs.length := by omega
  have e2 : atI xs v = some xs[v.toNat] := by rw [atI_of a1 (by omega)]; simp [hj]
  refine ⟨xs[v.toNat], k1, List.getElem_mem hj, c1, call_spot (d0 := xs[v.toNat]) (h' := [.lst [.int k1]]) (by simp) (by simp [flatL_of hf]) hi ?_ rfl fun j => frzD_flat (hf _ (List.getElem_mem hj))⟩
  unfold m_law_pick
  rw [runB_s]
  simp [e1, e2]
end
theorem is_within_int (x lo hi : Int) (h : Hc) : callL m_is_within [.int x, .int lo, .int hi] h = .ok (.bl (decide (lo ≤ x) && decide (x ≤ hi))) h := by
  refine call_flat (h' := []) (by simp) ?_ (by simp) h
  unfold m_is_within
  rw [runB_s]
  by_cases h1 : lo ≤ x <;> simp [is_integer_int, h1]
/-- a life: some days, each with a weight, the last with one -/
structure Life (l : List Int) : Prop where
  ne : l ≠ []
  len : l.length ≤ 12
  w : ∀ x ∈ l, 0 ≤ x ∧ x ≤ 9
  last : ∀ h : l ≠ [], 1 ≤ l.getLast h
theorem setF_ok {n : Nat} {xs : List D} {h : Hc} {i : Int} {x : D} (e : h[n]? = some (.lst xs)) (h0 : 0 ≤ i) (h1 : i < xs.length) : setF (.ref n) (.int i) x h = some (h.set n (.lst (xs.set i.toNat x))) := by
  unfold setF
  simp only [e]
  have : ixN xs.length i = some i.toNat := by unfold ixN; rw [if_pos h0, if_pos h1]
  rw [this]; rfl
section
variable {row : List Int} (hr : row ≠ [])
include hr
end
/-- the days that a life uses, up to an age -/
def usedF (age : Int) : Int → List Int → Int
  | _, [] => 0
  | n, w :: r => w * (if age < n + 1 then age else n + 1) + usedF age (n + 1) r
/-- what a policy pays -/
def paidF (l : List Int) (plan fail : Int) (age : Nat) : Int := fail * (l.take age).sum + plan * (l.sum - (l.take age).sum)
/-! ### what the law pays -/
def costF (plan fail age : Int) : Int → List Int → Int
  | _, [] => 0
  | n, w :: r => w * (if n + 1 ≤ age then fail else plan) + costF plan fail age (n + 1) r
def daysF (age : Int) : Int → List Int → Int
  | _, [] => 0
  | n, w :: r => w * (if n + 1 ≤ age then n + 1 else age) + daysF age (n + 1) r
theorem upFrom_range (n : Nat) : upFrom 0 n = (List.range' 0 n).map fun (j : Nat) => D.int (j : Int) := by
  unfold upFrom
  rw [List.range_eq_range']
  simp
end Mp
/-! RdcSpec: quotients in lowest terms are one for each value. -/
namespace Mp
open PySem PySem.Spec PyProof.Rows L2
section
variable {a b c d N M : Int} (hb : 0 < b) (hd : 0 < d) (hM : 0 < M) (sa : sm 4000 a) (sb : sm 4000 b) (sc : sm 4000 c) (sd : sm 4000 d)
include hb hd hM sa sb sc sd
end
end Mp
namespace Mp
open PySem PySem.Spec PyProof.Rows L2
/-! ### mirrors: Chn -/
def m_law_chain_c1 : SE :=
  (eCall m_law_pick (aCons (eVar 0) (aCons (eVar 1) (aCons (eLst (aCons (eC (.int 0)) (aCons (eC (.int 0)) (aCons (eC (.int 0)) (aCons (eC (.int 1)) (aCons (eC (.int 1)) (aCons (eC (.int 2)) (aCons (eC (.int 9)) aNil)))))))) aNil))))
def m_law_chain_l1 : SS :=
  (sSeq (sSet 6 (eLcC (iRg1 (aCons (eVar 3) aNil)) (.n 7) [7] (fun _ h => .ok true h) m_law_chain_c1))
    (sSeq (sIf (bEx (eOp eqF (eCB sumA (aCons (eVar 6) aNil)) (eC (.int 0))))
      (sPut setF (eOp addF (eC (.int 1)) (eCall m_law_take (aCons (eVar 0) (aCons (eVar 1) (aCons (eC (.int 4)) aNil))))) (eVar 6) (eCall m_law_take (aCons (eVar 0) (aCons (eVar 1) (aCons (eVar 3) aNil)))))
      sNext)
    (sDrop (eBM "list" appF (eVar 4) (aCons (eCB tupleF (aCons (eVar 6) aNil)) aNil)))))
/-- _law_chain: row 0, spot 1, most 2, many 3, made 4, s 5, weights 6, j 7 -/
def m_law_chain : Fn := runB 8
  (sSeq (sSet 3 (eOp addF (eC (.int 1)) (eCall m_law_take (aCons (eVar 0) (aCons (eVar 1) (aCons (eVar 2) aNil))))))
  (sSeq (sSet 4 (eCell aNil))
  (sSeq (sFor (iRg1 (aCons (eVar 3) aNil)) (.n 5)
    m_law_chain_l1)
  (sRet (eCB tupleF (aCons (eVar 4) aNil))))))
def m_sure_c1 : SE :=
  (eIf (bEx (eOp eqF (eVar 2) (eVar 1))) (eTup (aCons (eC (.int 1)) (aCons (eC (.int 1)) aNil))) (eTup (aCons (eC (.int 0)) (aCons (eC (.int 1)) aNil))))
/-- sure: many 0, at 1, k 2 -/
def m_sure : Fn := runB 3
  (sRet (eCB tupleF (aCons (eLc (iRg1 (aCons (eVar 0) aNil)) (.n 2) [2] (fun _ h => .ok true h) m_sure_c1) aNil)))
def m_is_weights_c1 : SE :=
  (eCall m_is_within (aCons (eVar 2) (aCons (eC (.int 0)) (aCons (eC (.int 9)) aNil))))
/-- is_weights: row 0, many 1, weight 2 -/
def m_is_weights : Fn := runB 3
  (sSeq (sIf (bNot (bTru (eCall m_is_row (aCons (eVar 0) (aCons (eVar 1) (aCons (eVar 1) aNil))))))
    (sRet (eC (.bl false)))
    sNext)
  (sRet (eAnd (eCB allF (aCons (eLc (iSeq (eVar 0)) (.n 2) [2] (fun _ h => .ok true h) m_is_weights_c1) aNil)) (eOp gtF (eCB sumA (aCons (eVar 0) aNil)) (eC (.int 0))))))
def m_is_chain_c1 : SE :=
  (eCall m_is_weights (aCons (eVar 1) (aCons (eCB lenF (aCons (eVar 0) aNil)) aNil)))
/-- is_chain: chain 0, row 1 -/
def m_is_chain : Fn := runB 2
  (sSeq (sIf (bNot (bTru (eCall m_is_row (aCons (eVar 0) (aCons (eC (.int 1)) (aCons (eC (.int 6)) aNil))))))
    (sRet (eC (.bl false)))
    sNext)
  (sRet (eCB allF (aCons (eLc (iSeq (eVar 0)) (.n 1) [1] (fun _ h => .ok true h) m_is_chain_c1) aNil))))
def m_common_bottom_l1 : SS :=
  (sSet 1 (eCB lcmF (aCons (eVar 1) (aCons (eVar 2) aNil))))
/-- common_bottom: bottoms 0, common 1, bottom 2 -/
def m_common_bottom : Fn := runB 3
  (sSeq (sSet 1 (eC (.int 1)))
  (sSeq (sFor (iSeq (eVar 0)) (.n 2)
    m_common_bottom_l1)
  (sRet (eVar 1))))
def m_lifted_c1 : SE :=
  (eOp mulF (eOp ixF (eVar 4) (eC (.int 1))) (eCB sumA (aCons (eVar 5) aNil)))
def m_lifted_c2 : SE :=
  (eOp mulF (eOp ixF (eVar 4) (eC (.int 0))) (eOp fdivF (eVar 3) (eVar 6)))
/-- lifted: rows 0, shares 1, bottoms 2, common 3, share 4, row 5, bottom 6 -/
def m_lifted : Fn := runB 7
  (sSeq (sSet 2 (eLc (iZip (aCons (eVar 1) (aCons (eVar 0) aNil))) (.t ((.n 4) :: ((.n 5) :: []))) [4, 5] (fun _ h => .ok true h) m_lifted_c1))
  (sSeq (sSet 3 (eCall m_common_bottom (aCons (eVar 2) aNil)))
  (sRet (eTup (aCons (eLc (iZip (aCons (eVar 1) (aCons (eVar 2) aNil))) (.t ((.n 4) :: ((.n 6) :: []))) [4, 6] (fun _ h => .ok true h) m_lifted_c2) (aCons (eVar 3) aNil))))))
def m_spread_c1 : SE :=
  (eOp mulF (eVar 7) (eOp ixF (eVar 8) (eVar 5)))
def m_spread_l1 : SS :=
  (sSeq (sSet 6 (eCB sumA (aCons (eLc (iZip (aCons (eVar 2) (aCons (eVar 0) aNil))) (.t ((.n 7) :: ((.n 8) :: []))) [7, 8] (fun _ h => .ok true h) m_spread_c1) aNil)))
    (sDrop (eBM "list" appF (eVar 4) (aCons (eCall m_reduced (aCons (eVar 6) (aCons (eVar 3) aNil))) aNil))))
/-- spread: rows 0, shares 1, factors 2, common 3, found 4, at 5, top 6, factor 7, row 8 -/
def m_spread : Fn := runB 9
  (sSeq (sAsg (.t ((.n 2) :: ((.n 3) :: []))) (eCall m_lifted (aCons (eVar 0) (aCons (eVar 1) aNil))))
  (sSeq (sSet 4 (eCell aNil))
  (sSeq (sFor (iRg1 (aCons (eCB lenF (aCons (eOp ixF (eVar 0) (eC (.int 0))) aNil)) aNil)) (.n 5)
    m_spread_l1)
  (sRet (eCB tupleF (aCons (eVar 4) aNil))))))
def m_law_shares_c1 : SE :=
  (eCall (m_law_red 24) (aCons (eVar 2) (aCons (eCB sumA (aCons (eOp ixF (eVar 0) (eVar 1)) aNil)) aNil)))
/-- _law_shares: chain 0, s 1, one 2 -/
def m_law_shares : Fn := runB 3
  (sRet (eLc (iSeq (eOp ixF (eVar 0) (eVar 1))) (.n 2) [2] (fun _ h => .ok true h) m_law_shares_c1))
end Mp
/-! ChnSpec: chains, shares, what a day makes of them. -/
namespace Mp
open PySem PySem.Spec PyProof.Rows L2
/-! ### sequences of either kind -/
def sqs (b : Bool) (ds : List D) : D := if b then .lst ds else .tup ds
@[simp] theorem seqD_sqs (b : Bool) (xs : List D) (h : Hc) : seqD h (sqs b xs) = some xs := by cases b <;> rfl
@[simp] theorem chkQ_sqs (b : Bool) (xs : List D) : chkQ (sqs b xs) xs = fun _ => true := by cases b <;> simp [sqs]
@[simp] theorem len_sqs (b : Bool) (xs : List D) (h : Hc) : lenF [sqs b xs] h = .ok (.int xs.length) h := by cases b <;> simp [sqs]
theorem ix_sqs (b : Bool) (xs : List D) (i : Int) (h : Hc) : ixF (sqs b xs) (.int i) h = match atI xs i with
    | some d => .ok d h
    | none => .bad := by cases b <;> simp [sqs] <;> rfl
theorem flat_sqs (b : Bool) {xs : List D} (hx : flatL xs = true) : flat (sqs b xs) = true := by cases b <;> simp [sqs, hx]
/-! ### quotients: their two numbers -/
def nm (n d : Int) : Int := n.fdiv (sg n d)
def dn (n d : Int) : Int := d.fdiv (sg n d)
def shD (e : Bool) (a N : Int) : D := pq e (nm a N) (dn a N)
/-! ### one bottom for all -/
def lcmL (a : Int) : List Int → Int
  | [] => a
  | b :: r => lcmL ((Nat.lcm a.natAbs b.natAbs : Nat) : Int) r
/-! ### shares lifted to one bottom -/
section
variable {N L : Int} (hN : 0 < N) (hL : 0 < L) (sN : sm 4000 N) (sL : sm 4000 L) {Z : List (Int × List Int)} (hZ : ∀ z ∈ Z, 0 < z.2.sum ∧ z.2.sum ∣ L ∧ sm 4000 z.1) (hlen : Z.length ≤ 1000)
abbrev bt (N : Int) (z : Int × List Int) : Int := dn z.1 N * z.2.sum
abbrev cbt (N : Int) (Z : List (Int × List Int)) : Int := lcmL 1 (Z.map (bt N))
abbrev fc (N : Int) (Z : List (Int × List Int)) (z : Int × List Int) : Int := nm z.1 N * (cbt N Z).fdiv (bt N z)
include hN hL hZ
include sN sL hlen
end

/-! ### a day -/
def stepZ (L : Int) (Z : List (Int × List Int)) (j : Nat) : Int := (Z.map fun z => z.1 * (L / z.2.sum) * z.2.getD j 0).sum
section
variable {N L : Int} (hN : 0 < N) (hL : 0 < L) (sN : sm 4000 N) (sL : sm 4000 L) {Z : List (Int × List Int)} (hZ : ∀ z ∈ Z, 0 < z.2.sum ∧ z.2.sum ∣ L ∧ sm 4000 z.1) (hlen : Z.length ≤ 1000) {n : Nat} (hn : n ≤ 1000) (hr : ∀ z ∈ Z, z.2.length = n ∧ ∀ x ∈ z.2, 0 ≤ x ∧ x ≤ 9)
include hN hL hZ sN sL hlen hn hr
end

/-! ### chains -/
structure Chn (M : List (List Int)) : Prop where
  lo : 1 ≤ M.length
  hi : M.length ≤ 5
  row : ∀ r ∈ M, r.length = M.length ∧ 0 < r.sum ∧ ∀ x ∈ r, 0 ≤ x ∧ x ≤ 9
def ch (b : Bool) (M : List (List Int)) : D := sqs b (M.map (sq b))
def prodL : List (List Int) → Int
  | [] => 1
  | r :: R => r.sum * prodL R
/-! ### the shares of a day -/
def dayA (M : List (List Int)) (s : Nat) : Nat → List Int
  | 0 => (List.range' 0 M.length).map fun k => if k = s then 1 else 0
  | d + 1 => (List.range' 0 M.length).map fun j => stepZ (prodL M) ((dayA M s d).zip M) j
/-! ### handed in as it is or as lists throughout -/
def lsdN : Nat → D → D
  | 0, d => d
  | n + 1, .tup xs => .lst (xs.map (lsdN n))
  | _ + 1, d => d
def lsFit : Nat → D → Bool
  | 0, _ => false
  | n + 1, .tup xs => decide (xs.length ≤ 1000000) && xs.all (lsFit n)
  | _ + 1, .int _ => true
  | _ + 1, .str _ => true
  | _ + 1, .bl _ => true
  | _ + 1, .non => true
  | _ + 1, _ => false
theorem lsFit_flat : ∀ (n : Nat) (d : D), lsFit n d = true → flat d = true ∧ flat (lsdN n d) = true
  | 0, d, h => by simp [lsFit] at h
  | n + 1, d, h => by
    cases d with
    | tup xs =>
      unfold lsFit at h
      rw [Bool.and_eq_true] at h
      have hx := List.all_eq_true.mp h.2
      refine ⟨by rw [flat_tup]; exact flatL_of fun x hx' => (lsFit_flat n x (hx x hx')).1, ?_⟩
      show flat (.lst (xs.map (lsdN n))) = true
      rw [flat_lst]
      refine flatL_of fun y hy => ?_
      obtain ⟨x, hx', rfl⟩ := List.mem_map.mp hy
      exact (lsFit_flat n x (hx x hx')).2
    | int i => exact ⟨by simp, by simp [lsdN]⟩
    | str i => exact ⟨by simp, by simp [lsdN]⟩
    | bl i => exact ⟨by simp, by simp [lsdN]⟩
    | non => exact ⟨by simp, by simp [lsdN]⟩
    | _ => simp [lsFit] at h
theorem listed_gen : ∀ (n : Nat) (d : D) (h : Hc), lsFit n d = true → callL (m_law_listed n) [d] h = .ok (lsdN n d) h
  | 0, d, h, f => by simp [lsFit] at f
  | n + 1, d, h, f => by
    have ff := lsFit_flat (n + 1) d f
    refine call_flat (h' := []) (by simp [ff.1]) ?_ ff.2 h
    unfold m_law_listed
    rw [runB_s]
    cases d with
    | tup xs =>
      unfold lsFit at f
      rw [Bool.and_eq_true] at f
      have hx := List.all_eq_true.mp f.2
      have hl : xs.length ≤ 1000000 := by simpa using f.1
      have e := lcR_map (chk := fun _ => true) (p := .n 1) (own := [1]) (m := m_law_listed_c1 (m_law_listed n)) (ds := [some (.tup xs), none]) (h := []) (lsdN n) rfl xs [] (by simpa using hl) (fun d hd => ⟨_, bindP_n .., by
        have := fun h => listed_gen n d h (hx d hd)
        simp [m_law_listed_c1, this]⟩)
      simp only [List.nil_append] at e
      simp [e, lsdN]
    | int i => simp [lsdN]
    | str i => simp [lsdN]
    | bl i => simp [lsdN]
    | non => simp [lsdN]
    | _ => simp [lsFit] at f
theorem handed_gen {row : List Int} (hr : row ≠ []) {k : Int} {d : D} {i : Nat} {h : Hc} (f : lsFit 24 d = true) (hi : h[i]? = some (.lst [.int k])) (hk : 0 ≤ k) : ∃ (b : Bool) (k' : Int), 0 ≤ k' ∧ callL m_law_handed [.lst (row.map D.int), .ref i, d] h = .ok (if b then lsdN 24 d else d) (h.set i (.lst [.int k'])) := by
  obtain ⟨v1, k1, a1, b1, c1, e1⟩ := take_ex hr (h := [.lst [.int k]]) (i := 0) (l := 2) rfl hk (by decide)
  simp at e1
  have ff := lsFit_flat 24 d f
  refine ⟨decide (v1 = 0), k1, c1, call_spot (d0 := if decide (v1 = 0) then lsdN 24 d else d) (h' := [.lst [.int k1]]) (by simp) (by simp [ff.1]) hi ?_ rfl fun j => frzD_flat (by split; exact ff.2; exact ff.1)⟩
  unfold m_law_handed
  rw [runB_s]
  have e2 := fun h => listed_gen 24 d h f
  by_cases hv : v1 = 0
  · simp [e1, hv, e2]
  · simp [e1, hv]
/-! ### the start, the law's shares -/
/-! ### drawn chains -/
section
variable {row : List Int} (hr : row ≠ [])
include hr
end
end Mp
namespace Mp
open PySem PySem.Spec PyProof.Rows L2
/-! ### mirrors: Str -/
def m_law_letters_l1 : SS :=
  (sSet 3 (eOp addF (eVar 3) (eOp ixF (eC (.str "abcdefghijklmnopqrstuvwxyz")) (eCall m_law_take (aCons (eVar 0) (aCons (eVar 1) (aCons (eC (.int 26)) aNil)))))))
/-- _law_letters: row 0, spot 1, many 2, made 3, k 4 -/
def m_law_letters : Fn := runB 5
  (sSeq (sSet 3 (eC (.str "")))
  (sSeq (sFor (iRg1 (aCons (eVar 2) aNil)) (.n 4)
    m_law_letters_l1)
  (sRet (eVar 3))))
/-- _law_reserved:  -/
def m_law_reserved : Fn := runB 0
  (sRet (eLst (aCons (eC (.str "and")) (aCons (eC (.str "or")) (aCons (eC (.str "of")) (aCons (eC (.str "always")) (aCons (eC (.str "never")) aNil)))))))
def m_law_name_l1 : SS :=
  (sSeq (sIf (bAnd (bEx (eOp (inG true) (eVar 3) (eVar 2))) (bEx (eOp (inG true) (eVar 3) (eCall m_law_reserved aNil))))
      (fun ds h => .bk ds h)
      sNext)
    (sSeq (sSet 3 (eOp addF (eSl slF (eVar 3) none (some (eC (.int 7)))) (eOp ixF (eC (.str "abcdefghijklmnopqrstuvwxyz")) (eOp modF (eCB intF (aCons (eOp addF (eOp mulF (eVar 4) (eC (.int 7))) (eCB lenF (aCons (eVar 2) aNil))) aNil)) (eC (.int 26))))))
    (sIf (bEx (eOp gtF (eVar 4) (eC (.int 20))))
      (sSet 3 (eOp addF (eSl slF (eVar 3) (some (eC (.int 1))) none) (eC (.str "z"))))
      sNext)))
/-- _law_name: row 0, spot 1, used 2, made 3, k 4 -/
def m_law_name : Fn := runB 5
  (sSeq (sSet 3 (eCall m_law_letters (aCons (eVar 0) (aCons (eVar 1) (aCons (eOp addF (eC (.int 1)) (eCall m_law_take (aCons (eVar 0) (aCons (eVar 1) (aCons (eIf (bEx (eOp gtF (eCall m_law_take (aCons (eVar 0) (aCons (eVar 1) (aCons (eC (.int 4)) aNil)))) (eC (.int 0)))) (eC (.int 2)) (eC (.int 8))) aNil))))) aNil)))))
  (sSeq (sFor (iRg1 (aCons (eC (.int 40)) aNil)) (.n 4)
    m_law_name_l1)
  (sSeq (sDrop (eBM "list" appF (eVar 2) (aCons (eVar 3) aNil)))
  (sRet (eVar 3)))))
def m_law_names_l1 : SS :=
  (sDrop (eCall m_law_name (aCons (eVar 0) (aCons (eVar 1) (aCons (eVar 3) aNil)))))
/-- _law_names: row 0, spot 1, many 2, used 3, k 4 -/
def m_law_names : Fn := runB 5
  (sSeq (sSet 3 (eCell aNil))
  (sSeq (sFor (iRg1 (aCons (eVar 2) aNil)) (.n 4)
    m_law_names_l1)
  (sRet (eCB sortF (aCons (eVar 3) aNil)))))
def m_law_tree_l1 (self : Fn) : SS :=
  (sDrop (eBM "list" appF (eVar 7) (aCons (eCall self (aCons (eVar 0) (aCons (eVar 1) (aCons (eVar 2) (aCons (eOp subF (eVar 3) (eC (.int 1))) (aCons (eIf (bEx (eOp gtF (eVar 3) (eC (.int 2)))) (eVar 4) (eC (.int 3))) aNil)))))) aNil)))
/-- _law_tree: row 0, spot 1, names 2, depth 3, most 4, kind 5, many 6, es 7, k 8 -/
def m_law_tree : Nat → Fn
  | 0 => fun _ _ => .bad
  | n + 1 => runB 9 (sSeq (sSet 5 (eCall m_law_take (aCons (eVar 0) (aCons (eVar 1) (aCons (eC (.int 10)) aNil)))))
  (sSeq (sIf (bOr (bEx (eOp leF (eVar 3) (eC (.int 1)))) (bEx (eOp leF (eVar 5) (eC (.int 2)))))
    (sSeq (sIf (bAnd (bEx (eOp eqF (eVar 5) (eC (.int 0)))) (bEx (eOp eqF (eCall m_law_take (aCons (eVar 0) (aCons (eVar 1) (aCons (eC (.int 3)) aNil)))) (eC (.int 0)))))
      (sRet (eIf (bEx (eOp eqF (eCall m_law_take (aCons (eVar 0) (aCons (eVar 1) (aCons (eC (.int 2)) aNil)))) (eC (.int 0)))) (eTup (aCons (eC (.str "all")) (aCons (eTup aNil) aNil))) (eTup (aCons (eC (.str "any")) (aCons (eTup aNil) aNil)))))
      sNext)
    (sRet (eTup (aCons (eC (.str "part")) (aCons (eCall m_law_pick (aCons (eVar 0) (aCons (eVar 1) (aCons (eVar 2) aNil)))) aNil)))))
    sNext)
  (sSeq (sSet 6 (eOp addF (eC (.int 2)) (eCall m_law_take (aCons (eVar 0) (aCons (eVar 1) (aCons (eOp subF (eVar 4) (eC (.int 1))) aNil))))))
  (sSeq (sIf (bEx (eOp geF (eVar 5) (eC (.int 7))))
    (sSet 6 (eOp addF (eC (.int 1)) (eCall m_law_take (aCons (eVar 0) (aCons (eVar 1) (aCons (eVar 4) aNil))))))
    sNext)
  (sSeq (sSet 7 (eCell aNil))
  (sSeq (sFor (iRg1 (aCons (eVar 6) aNil)) (.n 8)
    (m_law_tree_l1 (m_law_tree n)))
  (sSeq (sIf (bEx (eOp leF (eVar 5) (eC (.int 4))))
    (sRet (eTup (aCons (eC (.str "all")) (aCons (eCB tupleF (aCons (eVar 7) aNil)) aNil))))
    sNext)
  (sSeq (sIf (bEx (eOp leF (eVar 5) (eC (.int 6))))
    (sRet (eTup (aCons (eC (.str "any")) (aCons (eCB tupleF (aCons (eVar 7) aNil)) aNil))))
    sNext)
  (sRet (eTup (aCons (eC (.str "some")) (aCons (eOp addF (eC (.int 1)) (eCall m_law_take (aCons (eVar 0) (aCons (eVar 1) (aCons (eVar 6) aNil))))) (aCons (eCB tupleF (aCons (eVar 7) aNil)) aNil)))))))))))))
def m_law_flat_c1 : SE :=
  (eTup (aCons (eC (.str "part")) (aCons (eVar 6) aNil)))
def m_law_flat_l1 : SS :=
  (sIf (bEx (eOp eqF (eCall m_law_take (aCons (eVar 0) (aCons (eVar 1) (aCons (eC (.int 2)) aNil)))) (eC (.int 0))))
      (sDrop (eBM "list" appF (eVar 3) (aCons (eTup (aCons (eC (.str "part")) (aCons (eCall m_law_pick (aCons (eVar 0) (aCons (eVar 1) (aCons (eVar 2) aNil)))) aNil))) aNil)))
      sNext)
/-- _law_flat: row 0, spot 1, names 2, es 3, k 4, kind 5, name 6 -/
def m_law_flat : Fn := runB 7
  (sSeq (sSet 3 (eLcC (iSeq (eSl slF (eVar 2) none (some (eC (.int 8))))) (.n 6) [6] (fun _ h => .ok true h) m_law_flat_c1))
  (sSeq (sFor (iRg1 (aCons (eOp subF (eC (.int 8)) (eCB lenF (aCons (eVar 3) aNil))) aNil)) (.n 4)
    m_law_flat_l1)
  (sSeq (sIf (bEx (eOp ltF (eCB lenF (aCons (eVar 3) aNil)) (eC (.int 2))))
    (sRet (eTup (aCons (eC (.str "some")) (aCons (eC (.int 1)) (aCons (eCB tupleF (aCons (eVar 3) aNil)) aNil)))))
    sNext)
  (sSeq (sSet 5 (eCall m_law_take (aCons (eVar 0) (aCons (eVar 1) (aCons (eC (.int 4)) aNil)))))
  (sSeq (sIf (bEx (eOp eqF (eVar 5) (eC (.int 0))))
    (sRet (eTup (aCons (eC (.str "all")) (aCons (eCB tupleF (aCons (eVar 3) aNil)) aNil))))
    sNext)
  (sSeq (sIf (bEx (eOp eqF (eVar 5) (eC (.int 1))))
    (sRet (eTup (aCons (eC (.str "any")) (aCons (eCB tupleF (aCons (eVar 3) aNil)) aNil))))
    sNext)
  (sRet (eTup (aCons (eC (.str "some")) (aCons (eOp addF (eC (.int 1)) (eCall m_law_take (aCons (eVar 0) (aCons (eVar 1) (aCons (eCB lenF (aCons (eVar 3) aNil)) aNil))))) (aCons (eCB tupleF (aCons (eVar 3) aNil)) aNil)))))))))))
/-- _law_structure: row 0, spot 1, names 2, kind 3 -/
def m_law_structure : Fn := runB 4
  (sSeq (sSet 3 (eCall m_law_take (aCons (eVar 0) (aCons (eVar 1) (aCons (eC (.int 6)) aNil)))))
  (sSeq (sIf (bEx (eOp eqF (eVar 3) (eC (.int 0))))
    (sRet (eCall m_law_flat (aCons (eVar 0) (aCons (eVar 1) (aCons (eVar 2) aNil)))))
    sNext)
  (sSeq (sIf (bEx (eOp eqF (eVar 3) (eC (.int 1))))
    (sRet (eCall (m_law_tree 24) (aCons (eVar 0) (aCons (eVar 1) (aCons (eVar 2) (aCons (eC (.int 2)) (aCons (eC (.int 6)) aNil)))))))
    sNext)
  (sRet (eCall (m_law_tree 24) (aCons (eVar 0) (aCons (eVar 1) (aCons (eVar 2) (aCons (eOp addF (eC (.int 2)) (eCall m_law_take (aCons (eVar 0) (aCons (eVar 1) (aCons (eC (.int 3)) aNil))))) (aCons (eC (.int 3)) aNil))))))))))
def m_law_works_c1 (self : Fn) : SE :=
  (eVar 3)
def m_law_works_t1 (self : Fn) : SB :=
  (bTru (eCall self (aCons (eVar 3) (aCons (eVar 1) aNil))))
/-- _law_works: e 0, up 1, many 2, one 3 -/
def m_law_works : Nat → Fn
  | 0 => fun _ _ => .bad
  | n + 1 => runB 4 (sSeq (sIf (bEx (eOp eqF (eOp ixF (eVar 0) (eC (.int 0))) (eC (.str "part"))))
    (sRet (eOp (inG false) (eOp ixF (eVar 0) (eC (.int 1))) (eVar 1)))
    sNext)
  (sSeq (sSet 2 (eCB lenF (aCons (eLc (iSeq (eOp ixF (eVar 0) (eOp subF (eCB lenF (aCons (eVar 0) aNil)) (eC (.int 1))))) (.n 3) [3] (m_law_works_t1 (m_law_works n)) (m_law_works_c1 (m_law_works n))) aNil)))
  (sSeq (sIf (bEx (eOp eqF (eOp ixF (eVar 0) (eC (.int 0))) (eC (.str "all"))))
    (sRet (eOp eqF (eVar 2) (eCB lenF (aCons (eOp ixF (eVar 0) (eC (.int 1))) aNil))))
    sNext)
  (sSeq (sIf (bEx (eOp eqF (eOp ixF (eVar 0) (eC (.int 0))) (eC (.str "any"))))
    (sRet (eOp gtF (eVar 2) (eC (.int 0))))
    sNext)
  (sRet (eOp geF (eVar 2) (eOp ixF (eVar 0) (eC (.int 1)))))))))
def m_is_name_c1 : SE :=
  (eOp (inG false) (eVar 1) (eC (.str "abcdefghijklmnopqrstuvwxyz")))
/-- is_name: x 0, sign 1 -/
def m_is_name : Fn := runB 2
  (sSeq (sIf (bOr (bNot (bTru (eCB isF (aCons (eVar 0) (aCons (eC (.ty "str")) aNil))))) (bOr (bEx (eOp eqF (eCB lenF (aCons (eVar 0) aNil)) (eC (.int 0)))) (bOr (bEx (eOp gtF (eCB lenF (aCons (eVar 0) aNil)) (eC (.int 8)))) (bEx (eOp (inG false) (eVar 0) (eC (.tup [(.str "and"), (.str "or"), (.str "of"), (.str "always"), (.str "never")])))))))
    (sRet (eC (.bl false)))
    sNext)
  (sRet (eCB allF (aCons (eLc (iSgn (eVar 0)) (.n 1) [1] (fun _ h => .ok true h) m_is_name_c1) aNil))))
/-- _is_outline: e 0 -/
def m_is_outline : Fn := runB 1
  (sSeq (sIf (bOr (bNot (bTru (eCall m_is_sequence (aCons (eVar 0) aNil)))) (bOr (bEx (eOp ltF (eCB lenF (aCons (eVar 0) aNil)) (eC (.int 2)))) (bOr (bEx (eOp gtF (eCB lenF (aCons (eVar 0) aNil)) (eC (.int 3)))) (bNot (bTru (eCB isF (aCons (eOp ixF (eVar 0) (eC (.int 0))) (aCons (eC (.ty "str")) aNil))))))))
    (sRet (eC (.bl false)))
    sNext)
  (sSeq (sIf (bEx (eOp eqF (eCB lenF (aCons (eVar 0) aNil)) (eC (.int 3))))
    (sRet (eAnd (eOp eqF (eOp ixF (eVar 0) (eC (.int 0))) (eC (.str "some"))) (eAnd (eCall m_is_row (aCons (eOp ixF (eVar 0) (eC (.int 2))) (aCons (eC (.int 1)) (aCons (eC (.int 8)) aNil)))) (eCall m_is_within (aCons (eOp ixF (eVar 0) (eC (.int 1))) (aCons (eC (.int 1)) (aCons (eCB lenF (aCons (eOp ixF (eVar 0) (eC (.int 2))) aNil)) aNil)))))))
    sNext)
  (sSeq (sIf (bEx (eOp eqF (eOp ixF (eVar 0) (eC (.int 0))) (eC (.str "part"))))
    (sRet (eCall m_is_name (aCons (eOp ixF (eVar 0) (eC (.int 1))) aNil)))
    sNext)
  (sSeq (sIf (bAnd (bEx (eOp neF (eOp ixF (eVar 0) (eC (.int 0))) (eC (.str "all")))) (bEx (eOp neF (eOp ixF (eVar 0) (eC (.int 0))) (eC (.str "any")))))
    (sRet (eC (.bl false)))
    sNext)
  (sRet (eAnd (eCall m_is_row (aCons (eOp ixF (eVar 0) (eC (.int 1))) (aCons (eC (.int 0)) (aCons (eC (.int 8)) aNil)))) (eOp neF (eCB lenF (aCons (eOp ixF (eVar 0) (eC (.int 1))) aNil)) (eC (.int 1)))))))))
def m_is_structure_l1 : SS :=
  (sDrop (eBM "list" appF (eVar 3) (aCons (eTup (aCons (eVar 6) (aCons (eOp addF (eVar 5) (eC (.int 1))) aNil))) aNil)))
def m_is_structure_l2 : SS :=
  (sSeq (sAsg (.t ((.n 4) :: ((.n 5) :: []))) (eBM0 "list" popF (eVar 3)))
    (sSeq (sAug 2 addI (eC (.int 1)))
    (sSeq (sIf (bOr (bEx (eOp gtF (eVar 2) (eC (.int 60)))) (bOr (bEx (eOp gtF (eVar 5) (eC (.int 10)))) (bNot (bTru (eCall m_is_outline (aCons (eVar 4) aNil))))))
      (sRet (eC (.bl false)))
      sNext)
    (sIf (bEx (eOp eqF (eOp ixF (eVar 4) (eC (.int 0))) (eC (.str "part"))))
      (sSeq (sPut putF (eC (.bl true)) (eVar 1) (eOp ixF (eVar 4) (eC (.int 1))))
      (sIf (bEx (eOp gtF (eCB lenF (aCons (eVar 1) aNil)) (eC (.int 10))))
        (sRet (eC (.bl false)))
        sNext))
      (sFor (iSeq (eOp ixF (eVar 4) (eUn negF (eC (.int 1))))) (.n 6)
        m_is_structure_l1)))))
/-- is_structure: e 0, names 1, count 2, waiting 3, one 4, level 5, member 6 -/
def m_is_structure : Fn := runB 7
  (sSeq (sSet 1 eDct0)
  (sSeq (sSet 2 (eC (.int 0)))
  (sSeq (sSet 3 (eCell (aCons (eTup (aCons (eVar 0) (aCons (eC (.int 1)) aNil))) aNil)))
  (sSeq (wl (bTru (eVar 3))
    m_is_structure_l2 100000)
  (sRet (eC (.bl true)))))))
/-- _look: e 0 -/
def m_look_2 : Fn := runB 1
  (sIf (bNot (bTru (eCall m_is_structure (aCons (eVar 0) aNil))))
    (sRaise "BadValue" ["at"] (aCons (eC (.int 0)) aNil))
    sNext)
def m_names_in_l1 : SS :=
  (sDrop (eBM "list" appF (eVar 2) (aCons (eVar 4) aNil)))
def m_names_in_l2 : SS :=
  (sSeq (sSet 3 (eBM0 "list" popF (eVar 2)))
    (sIf (bEx (eOp eqF (eOp ixF (eVar 3) (eC (.int 0))) (eC (.str "part"))))
      (sPut putF (eC (.bl true)) (eVar 1) (eOp ixF (eVar 3) (eC (.int 1))))
      (sFor (iSeq (eOp ixF (eVar 3) (eUn negF (eC (.int 1))))) (.n 4)
        m_names_in_l1)))
/-- names_in: e 0, names 1, waiting 2, one 3, member 4 -/
def m_names_in : Fn := runB 5
  (sSeq (sSet 1 eDct0)
  (sSeq (sSet 2 (eCell (aCons (eVar 0) aNil)))
  (sSeq (wl (bTru (eVar 2))
    m_names_in_l2 100000)
  (sRet (eCB tupleF (aCons (eCB sortF (aCons (eVar 1) aNil)) aNil))))))
/-- parts: e 0 -/
def m_parts : Fn := runB 1
  (sSeq (sDrop (eCall m_look_2 (aCons (eVar 0) aNil)))
  (sRet (eCall m_names_in (aCons (eVar 0) aNil))))
def m_holds_c1 (self : Fn) : SE :=
  (eC (.int 1))
def m_holds_t1 (self : Fn) : SB :=
  (bTru (eCall self (aCons (eVar 3) (aCons (eVar 1) aNil))))
/-- holds: e 0, up 1, working 2, member 3 -/
def m_holds : Nat → Fn
  | 0 => fun _ _ => .bad
  | n + 1 => runB 4 (sSeq (sIf (bEx (eOp eqF (eOp ixF (eVar 0) (eC (.int 0))) (eC (.str "part"))))
    (sRet (eOp (inG false) (eOp ixF (eVar 0) (eC (.int 1))) (eVar 1)))
    sNext)
  (sSeq (sSet 2 (eCB sumA (aCons (eLc (iSeq (eOp ixF (eVar 0) (eUn negF (eC (.int 1))))) (.n 3) [3] (m_holds_t1 (m_holds n)) (m_holds_c1 (m_holds n))) aNil)))
  (sSeq (sIf (bEx (eOp eqF (eOp ixF (eVar 0) (eC (.int 0))) (eC (.str "all"))))
    (sRet (eOp eqF (eVar 2) (eCB lenF (aCons (eOp ixF (eVar 0) (eUn negF (eC (.int 1)))) aNil))))
    sNext)
  (sSeq (sIf (bEx (eOp eqF (eOp ixF (eVar 0) (eC (.int 0))) (eC (.str "any"))))
    (sRet (eOp gtF (eVar 2) (eC (.int 0))))
    sNext)
  (sRet (eOp geF (eVar 2) (eOp ixF (eVar 0) (eC (.int 1)))))))))
def m_works_c1 : SE :=
  (eCall m_is_name (aCons (eVar 2) aNil))
/-- works: e 0, up 1, name 2 -/
def m_works : Fn := runB 3
  (sSeq (sDrop (eCall m_look_2 (aCons (eVar 0) aNil)))
  (sSeq (sIf (bOr (bNot (bTru (eCall m_is_row (aCons (eVar 1) (aCons (eC (.int 0)) (aCons (eC (.int 30)) aNil)))))) (bNot (bTru (eCB allF (aCons (eLc (iSeq (eVar 1)) (.n 2) [2] (fun _ h => .ok true h) m_works_c1) aNil)))))
    (sRaise "BadValue" ["at"] (aCons (eC (.int 1)) aNil))
    sNext)
  (sRet (eCall (m_holds 24) (aCons (eVar 0) (aCons (eVar 1) aNil))))))
def m_law_parts_l1 (self : Fn) : SS :=
  (sIf (bEx (eOp (inG true) (eVar 3) (eVar 1)))
        (sDrop (eBM "list" appF (eVar 1) (aCons (eVar 3) aNil)))
        sNext)
def m_law_parts_l2 (self : Fn) : SS :=
  (sFor (iSeq (eCall self (aCons (eVar 2) aNil))) (.n 3)
      (m_law_parts_l1 self))
/-- _law_parts: e 0, made 1, one 2, name 3 -/
def m_law_parts : Nat → Fn
  | 0 => fun _ _ => .bad
  | n + 1 => runB 4 (sSeq (sIf (bEx (eOp eqF (eOp ixF (eVar 0) (eC (.int 0))) (eC (.str "part"))))
    (sRet (eLst (aCons (eOp ixF (eVar 0) (eC (.int 1))) aNil)))
    sNext)
  (sSeq (sSet 1 (eCell aNil))
  (sSeq (sFor (iSeq (eOp ixF (eVar 0) (eOp subF (eCB lenF (aCons (eVar 0) aNil)) (eC (.int 1))))) (.n 2)
    (m_law_parts_l2 (m_law_parts n)))
  (sRet (eCB sortF (aCons (eVar 1) aNil))))))
end Mp
/-! words that differ -/
namespace Mp
open PySem PySem.Spec PyProof.Rows L2
end Mp
/-! StrA: structures as data; names; lists of names without repetition. -/
namespace Mp
open PySem PySem.Spec PyProof.Rows L2
/-! ### while -/
theorem wl_nx {t : SB} {b : SS} {n : Nat} {ds ds' : Sl} {h h1 h' : Hc} (ht : t ds h = .ok true h1) (hb : b ds h1 = .nx ds' h') : wl t b (n + 1) ds h = wl t b n ds' h' := by
  conv => lhs; unfold wl
  rw [ht, sBd_ok, if_pos rfl, hb]
theorem wl_stop {t : SB} {b : SS} {n : Nat} {ds : Sl} {h h1 : Hc} (ht : t ds h = .ok false h1) : wl t b (n + 1) ds h = .nx ds h1 := by
  conv => lhs; unfold wl
  rw [ht, sBd_ok, if_neg (by decide)]
/-! ### comprehensions over mapped lists -/
/-- with a test, over a mapped list -/
theorem lcR_fm {α : Type} {chk : Hc → Bool} {p : Pt} {own : List Nat} {c : SB} {m : SE} {ds : Sl} {h : Hc} (g : α → D) (test : α → Bool) (f : α → D) (hc : chk h = true) : ∀ (xs : List α) (acc : List D), acc.length + xs.length ≤ 1000000 →
    (∀ x ∈ xs, ∃ ds1, bindP h p (g x) (wipeD ds own) = some ds1 ∧ c ds1 h = .ok (test x) h ∧ (test x = true → m ds1 h = .ok (f x) h)) → lcR chk p own c m ds (xs.map g) acc h = .ok (acc ++ (xs.filter test).map f) h
  | [], acc, _, _ => by simp [hc]
  | d :: r, acc, hl, hi => by
    obtain ⟨ds1, e1, e2, e3⟩ := hi d (by simp)
    have : acc.length < 1000000 := by simp at hl; omega
    cases t : test d with
    | true =>
      have ih := lcR_fm g test f hc r (acc ++ [f d]) (by simp at hl ⊢; omega) fun x hx => hi x (by simp [hx])
      simp [hc, e1, e2, t, e3 t, this, ih, List.filter_cons]
    | false =>
      have ih := lcR_fm g test f hc r acc (by simp at hl ⊢; omega) fun x hx => hi x (by simp [hx])
      simp [hc, e1, e2, t, ih, List.filter_cons]
/-- without a test -/
theorem lcR_mm {α : Type} {chk : Hc → Bool} {p : Pt} {own : List Nat} {m : SE} {ds : Sl} {h : Hc} (g f : α → D) (hc : chk h = true) (xs : List α) (hl : xs.length ≤ 1000000)
    (hi : ∀ x ∈ xs, ∃ ds1, bindP h p (g x) (wipeD ds own) = some ds1 ∧ m ds1 h = .ok (f x) h) : lcR chk p own (fun _ h => .ok true h) m ds (xs.map g) [] h = .ok (xs.map f) h := by
  have := lcR_two (chk := chk) (p := p) (own := own) (m := m) (ds := ds) (h := h) hc (xs.map g) (xs.map f) [] (by simpa using hl) (All2.map fun x hx => hi x hx)
  simpa using this
/-! ### lists without repetition -/
section
variable {α : Type} [DecidableEq α]
def uq : List α → List α
  | [] => []
  | x :: r => if x ∈ r then uq r else x :: uq r
theorem nodup_len {l m : List α} (h : l.Nodup) (s : ∀ x ∈ l, x ∈ m) : l.length ≤ m.length := by
  induction l generalizing m with
  | nil => simp
  | cons x r ih =>
    obtain ⟨h1, h2⟩ := List.nodup_cons.mp h
    have hx : x ∈ m := s x (by simp)
    have := ih (m := m.erase x) h2 fun y hy => by
      have : y ≠ x := fun e => h1 (e ▸ hy)
      exact (List.mem_erase_of_ne this).mpr (s y (by simp [hy]))
    rw [List.length_erase_of_mem hx] at this
    have : 0 < m.length := List.length_pos_of_mem hx
    simp only [List.length_cons]; omega
end
/-! ### names -/
structure Nm (w : Str) : Prop where
  lo : 1 ≤ w.cps.toList.length
  hi : w.cps.toList.length ≤ 8
  low : ∀ c ∈ w.cps.toList, 97 ≤ c ∧ c ≤ 122
  nr : w ∉ (["and", "or", "of", "always", "never"] : List Str)
theorem str_len (w : Str) : w.length = w.cps.toList.length := by unfold PySem.Str.length; simp
theorem abc_list : (Str.ofString "abcdefghijklmnopqrstuvwxyz").cps.toList = List.range' 97 26 := by decide +kernel
theorem sgnD_eq (w : Str) : sgnD w = w.cps.toList.map fun c => D.str ⟨#[c]⟩ := rfl
@[simp] theorem eqS_str (a b : Str) : eqS (.str a) (.str b) = (a == b) := rfl
@[simp] theorem scalD_str (a : Str) : scalD (.str a) = true := rfl
theorem any_strs (w : Str) (us : List Str) : (us.map D.str).any (fun y => eqS y (.str w)) = decide (w ∈ us) := by
  induction us with
  | nil => simp
  | cons x r ih =>
    rw [List.map_cons, List.any_cons, ih]
    by_cases e : x = w
    · subst e; simp
    · have e' : ¬ w = x := fun z => e z.symm
      simp [e, e']
theorem all_strs (us : List Str) : (us.map D.str).all scalD = true := by simp
theorem inG_strs (neg : Bool) (w : Str) {U : D} {us : List Str} {h : Hc} (e : seqD h U = some (us.map D.str)) : inG neg (.str w) U h = .ok (.bl (if neg then !decide (w ∈ us) else decide (w ∈ us))) h := by
  have hU : ∀ z, U ≠ .str z := by
    intro z hz; subst hz; simp [seqD] at e
  unfold inG
  split
  · rename_i a b e1
    exact absurd rfl (hU b)
  · simp only [e]
    rw [if_pos ⟨rfl, all_strs us⟩, any_strs]
@[simp] theorem iSgn_s (m : SE) (ds : Sl) (h : Hc) : iSgn m ds h = (m ds h).bd fun d h1 => match d with
  | .str x => .ok ⟨sgnD x, fun _ => true⟩ h1
  | _ => .bad := Eq.trans rfl rfl
theorem inG_abc {c : Nat} (h1 : 97 ≤ c) (h2 : c ≤ 122) (h : Hc) : inG false (.str ⟨#[c]⟩) (.str "abcdefghijklmnopqrstuvwxyz") h = .ok (.bl true) h := by
  have : c ∈ (Str.ofString "abcdefghijklmnopqrstuvwxyz").cps.toList := by
    rw [abc_list, List.mem_range'_1]; omega
  show R.ok (D.bl (decide (c ∈ (Str.ofString "abcdefghijklmnopqrstuvwxyz").cps.toList))) h = _
  rw [decide_eq_true this]
theorem allT {α : Type} (xs : List α) (h : Hc) : allF [.lst (xs.map fun _ => D.bl true)] h = .ok (.bl true) h := by
  have : (xs.map fun _ => D.bl true) = (xs.map fun _ => true).map D.bl := by simp
  rw [this, allF_lst]
  congr 2
  simp
theorem is_name_ok {w : Str} (N : Nm w) (h : Hc) : callL m_is_name [.str w] h = .ok (.bl true) h := by
  have h1 := N.lo
  have h2 := N.hi
  have e1 := lcR_mm (chk := fun _ => true) (p := .n 1) (own := [1]) (m := m_is_name_c1) (ds := [some (.str w), none]) (h := []) (fun c => D.str ⟨#[c]⟩) (fun _ => .bl true) rfl w.cps.toList (by omega)
    (fun c hc => ⟨_, bindP_n .., by
      obtain ⟨a, b⟩ := N.low c hc
      have := fun h => inG_abc a b h
      simp [m_is_name_c1, this]⟩)
  rw [← sgnD_eq] at e1
  have e2 : ∀ h, allF [.lst (w.cps.toList.map fun _ => D.bl true)] h = .ok (.bl true) h := fun h => by
    exact allT w.cps.toList h
  have l : ∀ h, lenF [.str w] h = .ok (.int (w.cps.toList.length : Int)) h := fun h => by
    rw [lenF_str, if_pos (by rw [str_len, lim_eq]; omega), str_len]
  have l0 : ¬ ((w.cps.toList.length : Int) = 0) := by omega
  have l8 : ¬ (8 < (w.cps.toList.length : Int)) := by omega
  have e3 : ∀ h, inG false (.str w) (.tup [.str "and", .str "or", .str "of", .str "always", .str "never"]) h = .ok (.bl false) h := fun h => by
    have := inG_strs false w (U := .tup [.str "and", .str "or", .str "of", .str "always", .str "never"]) (us := ["and", "or", "of", "always", "never"]) (h := h) rfl
    rw [this]
    simp only [Bool.false_eq_true, if_false]
    rw [decide_eq_false N.nr]
  refine call_flat (h' := []) (by simp) ?_ (by simp) h
  unfold m_is_name
  rw [runB_s]
  generalize (w.cps.toList.map fun _ => D.bl true) = BL at *
  generalize w.cps.toList.length = L at *
  have l0' : ¬ L = 0 := by omega
  simp [l, l0', l8, e3, e1, e2]
end Mp
/-! StrB: structures as data; whether a value is one; the names in it. -/
namespace Mp
open PySem PySem.Spec PyProof.Rows L2
inductive Cn where
  | all | any | some (k : Int)
inductive E where
  | part (w : Str) | node (c : Cn) (es : List E)
mutual
def eD (b : Bool) : E → D
  | .part w => sqs b [.str "part", .str w]
  | .node .all es => sqs b [.str "all", sqs b (eDL b es)]
  | .node .any es => sqs b [.str "any", sqs b (eDL b es)]
  | .node (.some k) es => sqs b [.str "some", .int k, sqs b (eDL b es)]
def eDL (b : Bool) : List E → List D
  | [] => []
  | e :: r => eD b e :: eDL b r
end
mutual
@[simp] theorem flat_eD (b : Bool) : ∀ e, flat (eD b e) = true
  | .part w => by unfold eD; exact flat_sqs b (by simp)
  | .node .all es => by unfold eD; exact flat_sqs b (by simp [flat_sqs b (flat_eDL b es)])
  | .node .any es => by unfold eD; exact flat_sqs b (by simp [flat_sqs b (flat_eDL b es)])
  | .node (.some k) es => by unfold eD; exact flat_sqs b (by simp [flat_sqs b (flat_eDL b es)])
@[simp] theorem flat_eDL (b : Bool) : ∀ es, flatL (eDL b es) = true
  | [] => by simp [eDL]
  | e :: r => by simp [eDL, flat_eD b e, flat_eDL b r]
end
/-- as the program sees it -/
def cnD (b : Bool) (c : Cn) (x : D) : D := match c with
  | .all => sqs b [.str "all", x]
  | .any => sqs b [.str "any", x]
  | .some k => sqs b [.str "some", .int k, x]
mutual
def sz : E → Nat
  | .part _ => 1
  | .node _ es => 1 + szL es
def szL : List E → Nat
  | [] => 0
  | e :: r => sz e + szL r
end
mutual
def dp : E → Nat
  | .part _ => 1
  | .node _ es => 1 + dpL es
def dpL : List E → Nat
  | [] => 0
  | e :: r => max (dp e) (dpL r)
end
def CnOk (c : Cn) (n : Nat) : Prop := match c with
  | .some k => 1 ≤ k ∧ k ≤ n
  | _ => n ≠ 1
mutual
def EOk (ns : List Str) : E → Prop
  | .part w => w ∈ ns
  | .node c es => es.length ≤ 8 ∧ CnOk c es.length ∧ EOkL ns es
def EOkL (ns : List Str) : List E → Prop
  | [] => True
  | e :: r => EOk ns e ∧ EOkL ns r
end
/-- a structure over names -/
structure SOk (ns : List Str) (e : E) : Prop where
  nm : ∀ w ∈ ns, Nm w
  len : ns.length ≤ 10
  ok : EOk ns e
  sz : sz e ≤ 60
  dp : dp e ≤ 10
/-! ### one member's form -/
theorem is_row_xs (b : Bool) {xs : List D} (f : flatL xs = true) (lo hi : Int) (h : Hc) : callL m_is_row [sqs b xs, .int lo, .int hi] h = .ok (.bl (decide (lo ≤ xs.length) && decide ((xs.length : Int) ≤ hi))) h := by
  have ff := flat_sqs b f
  have e : ∀ h, callL m_is_sequence [sqs b xs] h = .ok (.bl true) h := fun h => by
    refine call_flat (h' := []) (by simp [ff]) ?_ (by simp) h
    unfold m_is_sequence
    rw [runB_s]
    cases b <;> simp [sqs]
  refine call_flat (h' := []) (by simp [ff]) ?_ (by simp) h
  unfold m_is_row
  rw [runB_s]
  by_cases h1 : lo ≤ (xs.length : Int) <;> simp [e, h1]
end Mp
/-! StrC: is_structure. -/
namespace Mp
open PySem PySem.Spec PyProof.Rows L2
theorem appF_ref {n : Nat} {xs : List D} {d : D} {h : Hc} (e : h[n]? = some (.lst xs)) (hl : xs.length < 1000000) : appF (.ref n) [d] h = .ok .non (h.set n (.lst (xs ++ [d]))) := by
  unfold appF
  simp [e, hl]
theorem kindOk_list {n : Nat} {xs : List D} {h : Hc} (e : h[n]? = some (.lst xs)) : kindOk h "list" (.ref n) = true := by
  simp [kindOk, rdlD, lstD, e]
/-- keys of a dict with names -/
def insW (ws : List Str) (w : Str) : List Str := if w ∈ ws then ws else ws ++ [w]
theorem hasK_inr (ws : List Str) (w : Str) : hasK (ws.map Sum.inr) (.inr w) = decide (w ∈ ws) := by
  unfold hasK
  induction ws with
  | nil => simp
  | cons x r ih =>
    rw [List.map_cons, List.any_cons, ih]
    by_cases e : x = w
    · subst e; simp
    · have e' : ¬ w = x := fun z => e z.symm
      simp [e, e']
abbrev Stk := List (E × Nat)
def stkD (b : Bool) (S : Stk) : List D := S.map fun z => .tup [eD b z.1, .int (z.2 : Int)]
def totS (S : Stk) : Nat := (S.map fun z => sz z.1).sum
section
variable (b : Bool) (x0 x1 x2 x4 : Option D) (l : Nat) (c0 : C)
end
structure StkOk (ns : List Str) (S : Stk) : Prop where
  ok : ∀ z ∈ S, EOk ns z.1 ∧ z.2 + dp z.1 ≤ 11
section
variable (b : Bool) {ns : List Str} (hN : ∀ w ∈ ns, Nm w) (hn : ns.length ≤ 10) (x0 : Option D)
include hN hn
end
end Mp
/-! StrD: the names in a structure. -/
namespace Mp
open PySem PySem.Spec PyProof.Rows L2
mutual
def nmL : E → List Str
  | .part w => [w]
  | .node _ es => nmLL es
def nmLL : List E → List Str
  | [] => []
  | e :: r => nmL e ++ nmLL r
end
/-- the names, sorted -/
def pts (e : E) : List Str := sortS (uq (nmL e))
abbrev totE (S : List E) : Nat := (S.map sz).sum
section
variable (b : Bool) (x0 x1 x3 : Option D) (c0 : C)
end
section
variable (b : Bool) {ns : List Str} (hn : ns.length ≤ 10) (x0 : Option D)
include hn
end
end Mp
/-! StrE: the law's names; whether a structure works. -/
namespace Mp
open PySem PySem.Spec PyProof.Rows L2
def insM (ws us : List Str) : List Str := us.foldl insW ws
section
variable {ns : List Str} (hn : ns.length ≤ 10) (n : Nat) (x0 x2 : Option D)
include hn
end
/-! ### whether it works -/
def thr (c : Cn) (cnt len : Nat) : Bool := match c with
  | .all => decide (cnt = len)
  | .any => decide (0 < cnt)
  | .some k => decide (k ≤ (cnt : Int))
mutual
def wk (us : List Str) : E → Bool
  | .part w => decide (w ∈ us)
  | .node c es => thr c (cntW us es) es.length
def cntW (us : List Str) : List E → Nat
  | [] => 0
  | e :: r => (if wk us e = true then 1 else 0) + cntW us r
end
/-- a list of names, as a def sees it -/
inductive UpC (us : List Str) : D → Hc → Prop
  | tup : UpC us (.tup (us.map D.str)) []
  | lst : UpC us (.lst (us.map D.str)) []
  | ref : UpC us (.ref 0) [.lst (us.map D.str)]
/-- as a caller has it -/
inductive UpV (us : List Str) : D → Hc → Prop
  | tup (h : Hc) : UpV us (.tup (us.map D.str)) h
  | lst (h : Hc) : UpV us (.lst (us.map D.str)) h
  | ref {i : Nat} {h : Hc} (e : h[i]? = some (.lst (us.map D.str))) : UpV us (.ref i) h
def cn1 (c : Cn) (x : D) : D := match c with
  | .some k => .int k
  | _ => x
end Mp
/-! StrF: drawn letters and names. -/
namespace Mp
open PySem PySem.Spec PyProof.Rows L2
def chS (c : Nat) : Str := ⟨#[c]⟩
theorem app_list (a b : Str) : (a ++ b).cps.toList = a.cps.toList ++ b.cps.toList := by
  show (a.cps ++ b.cps).toList = _
  simp
theorem ch_list (c : Nat) : (chS c).cps.toList = [c] := rfl
theorem abc_ix {v : Int} (h0 : 0 ≤ v) (h1 : v < 26) (h : Hc) : ixF (.str "abcdefghijklmnopqrstuvwxyz") (.int v) h = .ok (.str (chS (97 + v.toNat))) h := by
  have hl : (Str.ofString "abcdefghijklmnopqrstuvwxyz").length ≤ lim := by decide +kernel
  unfold ixF
  simp only
  rw [if_pos hl, abc_list, atI_of h0 (by simp; omega)]
  rw [List.getElem?_range' (by omega)]
  simp [chS]
structure LowN (lo hi : Nat) (w : Str) : Prop where
  lo : lo ≤ w.cps.toList.length
  hi : w.cps.toList.length ≤ hi
  low : ∀ c ∈ w.cps.toList, 97 ≤ c ∧ c ≤ 122
section
variable {row : List Int} (hr : row ≠ [])
include hr
theorem letters_loop (x2 : Option D) : ∀ (items : List D) (w : Str) (n : Nat) (x4 : Option D) (k : Int), 0 ≤ k → LowN n n w → n + items.length ≤ 1000 → ∃ w' y4 k', 0 ≤ k' ∧ LowN (n + items.length) (n + items.length) w' ∧
    fl (fun _ => true) (.n 4) m_law_letters_l1 items [some (.lst (row.map D.int)), some (.ref 0), x2, some (.str w), x4] [.lst [.int k]] = .nx [some (.lst (row.map D.int)), some (.ref 0), x2, some (.str w'), y4] [.lst [.int k']]
  | [], w, n, x4, k, hk, L, _ => ⟨w, x4, k, hk, L, fl_end rfl⟩
  | d :: r, w, n, x4, k, hk, L, hl => by
    obtain ⟨v, k1, v0, v1, hk1, e1⟩ := take_ex hr (h := [.lst [.int k]]) (i := 0) (k := k) (l := 26) rfl hk (by decide)
    simp only [List.set_cons_zero] at e1
    have hl' : n + r.length + 1 ≤ 1000 := by simpa [Nat.add_assoc] using hl
    have L1 : LowN (n + 1) (n + 1) (w ++ chS (97 + v.toNat)) := by
      have a := L.lo
      have b := L.hi
      refine ⟨?_, ?_, ?_⟩
      · rw [app_list, ch_list]; simp at a ⊢; omega
      · rw [app_list, ch_list]; simp at b ⊢; omega
      · intro c hc
        rw [app_list, ch_list] at hc
        rcases List.mem_append.mp hc with hc | hc
        · exact L.low c hc
        · have : c = 97 + v.toNat := by simpa using hc
          omega
    obtain ⟨w', y4, k', hk', L', ih⟩ := letters_loop x2 r _ (n + 1) (some d) k1 hk1 L1 (by omega)
    have e2 := fun h => abc_ix v0 v1 h
    have hlen : w.length + (chS (97 + v.toNat)).length ≤ 1000000 := by
      rw [str_len, str_len, ch_list]
      have := L.hi
      simp at this ⊢; omega
    refine ⟨w', y4, k', hk', ?_, ?_⟩
    · have : n + (d :: r).length = n + 1 + r.length := by simp; omega
      rw [this]; exact L'
    · refine Eq.trans (fl_n (b := m_law_letters_l1) (ds' := [some (.lst (row.map D.int)), some (.ref 0), x2, some (.str (w ++ chS (97 + v.toNat))), some d]) (h' := [.lst [.int k1]]) ?_) ih
      simp [m_law_letters_l1, e1, e2, hlen]
theorem letters_ex {many : Nat} (hm : many ≤ 900) {k : Int} {i : Nat} {h : Hc} (hi : h[i]? = some (.lst [.int k])) (hk : 0 ≤ k) : ∃ w k', LowN many many w ∧ 0 ≤ k' ∧ callL m_law_letters [.lst (row.map D.int), .ref i, .int (many : Int)] h = .ok (.str w) (h.set i (.lst [.int k'])) := by
  obtain ⟨w, y4, k', hk', L, e⟩ := letters_loop hr (some (.int (many : Int))) (upFrom 0 many) "" 0 none k hk ⟨by simp, by decide +kernel, by
    have : (Str.ofString "").cps.toList = [] := by decide +kernel
    rw [this]; simp⟩ (by rw [upFrom_len]; omega)
  rw [upFrom_len, Nat.zero_add] at L
  have g1 : rgOk (many : Int) = true := rgOk_nat (by omega)
  refine ⟨w, k', L, hk', call_spot (d0 := .str w) (h' := [.lst [.int k']]) (by simp) (by simp) hi ?_ rfl fun j => frzD_flat (by simp)⟩
  unfold m_law_letters
  rw [runB_s]
  simp [g1, e]
end
/-! ### names -/
def nxt (w : Str) (c : Nat) : Str := ⟨(w.cps.toList.take 7 ++ [97 + c]).toArray⟩
theorem nxt_list (w : Str) (c : Nat) : (nxt w c).cps.toList = w.cps.toList.take 7 ++ [97 + c] := by simp [nxt]
def att (u : Nat) (w : Str) : Nat → Str
  | 0 => w
  | k + 1 => nxt (att u w k) ((k * 7 + u) % 26)
theorem att_shape {u : Nat} {w : Str} (L : LowN 1 8 w) : ∀ k, LowN 1 8 (att u w k)
  | 0 => L
  | k + 1 => by
    have L' := att_shape (u := u) L k
    refine ⟨?_, ?_, fun c hc => ?_⟩
    · unfold att; rw [nxt_list]; simp
    · unfold att; rw [nxt_list]; simp; omega
    · unfold att at hc
      rw [nxt_list] at hc
      rcases List.mem_append.mp hc with hc | hc
      · exact L'.low c (List.mem_of_mem_take hc)
      · have : c = 97 + (k * 7 + u) % 26 := by simpa using hc
        omega
theorem att_ne {u : Nat} {w : Str} {i j : Nat} (hi : 1 ≤ i) (hij : i < j) (hj : j ≤ 21) : att u w i ≠ att u w j := by
  intro e
  obtain ⟨a, rfl⟩ : ∃ a, i = a + 1 := ⟨i - 1, by omega⟩
  obtain ⟨b, rfl⟩ : ∃ b, j = b + 1 := ⟨j - 1, by omega⟩
  have e2 : (att u w (a + 1)).cps.toList.getLast? = (att u w (b + 1)).cps.toList.getLast? := by rw [e]
  unfold att at e2
  rw [nxt_list, nxt_list] at e2
  simp at e2
  omega
theorem att_good (u : Nat) (w : Str) (B : List Str) (hB : B.length ≤ 20) : ∃ j, j ≤ 21 ∧ att u w j ∉ B := by
  refine Classical.byContradiction fun hno => ?_
  have all : ∀ j, j ≤ 21 → att u w j ∈ B := fun j hj => Classical.byContradiction fun h => hno ⟨j, hj, h⟩
  have nd : ((List.range' 1 21).map (att u w)).Nodup := by
    refine List.pairwise_map.mpr ?_
    refine List.Pairwise.imp_of_mem ?_ (List.pairwise_lt_range' (s := 1) (n := 21))
    intro a b ha hb hab
    have ha' := List.mem_range'_1.mp ha
    have hb' := List.mem_range'_1.mp hb
    exact att_ne ha'.1 hab (by omega)
  have := nodup_len nd (m := B) fun x hx => by
    obtain ⟨j, hj, rfl⟩ := List.mem_map.mp hx
    have := List.mem_range'_1.mp hj
    exact all j (by omega)
  simp at this
  omega

abbrev resv : List Str := ["and", "or", "of", "always", "never"]
theorem reserved_ok (h : Hc) : callL m_law_reserved [] h = .ok (.lst (resv.map D.str)) h := by
  refine call_flat (h' := []) (by simp) ?_ (by simp) h
  unfold m_law_reserved
  rw [runB_s]
  simp
theorem sl7 (w : Str) (hw : w.cps.toList.length ≤ 8) (h : Hc) : slF (.str w) none (some 7) h = .ok (.str ⟨(w.cps.toList.take 7).toArray⟩) h := by
  unfold slF
  simp only
  rw [if_pos (by rw [str_len, lim_eq]; omega)]
  unfold cutD
  simp [HT.sIx]
section
variable (row : List D) (used : List Str) (hu : used.length ≤ 15) {w : Str} (L : LowN 1 8 w)
include hu L
theorem name_step {k : Nat} (hk : k ≤ 20) (hb : att used.length w k ∈ used ++ resv) (q : Int) : m_law_name_l1 [some (.lst row), some (.ref 0), some (.ref 1), some (.str (att used.length w k)), some (.int (k : Int))] [.lst [.int q], .lst (used.map D.str)] =
    .nx [some (.lst row), some (.ref 0), some (.ref 1), some (.str (att used.length w (k + 1))), some (.int (k : Int))] [.lst [.int q], .lst (used.map D.str)] := by
  have A := att_shape (u := used.length) L k
  have e1 := inG_strs true (att used.length w k) (U := .ref 1) (us := used) (h := [.lst [.int q], .lst (used.map D.str)]) rfl
  have e2 := fun h => inG_strs true (att used.length w k) (U := .lst (resv.map D.str)) (us := resv) (h := h) rfl
  have e3 := fun h => reserved_ok h
  have e4 := fun h => sl7 (att used.length w k) A.hi h
  have e5 := lenF_ref [.lst [.int q], .lst (used.map D.str)] (n := 1) (xs := used.map D.str) rfl
  have e6 := fun h => abc_ix (v := ((k * 7 + used.length : Nat) : Int) % 26) (by omega) (by omega) h
  have en : (((k * 7 + used.length : Nat) : Int) % 26).toNat = (k * 7 + used.length) % 26 := by omega
  rw [en] at e6
  have ek : ((k * 7 + used.length : Nat) : Int) = (k : Int) * 7 + (used.length : Int) := by omega
  rw [ek] at e6
  have ea : (⟨((att used.length w k).cps.toList.take 7).toArray⟩ : Str) ++ chS (97 + (k * 7 + used.length) % 26) = att used.length w (k + 1) := by
    apply str_ext
    rw [app_list, ch_list]
    conv => rhs; unfold att
    rw [nxt_list]
  have hlen : (⟨((att used.length w k).cps.toList.take 7).toArray⟩ : Str).length + (chS (97 + (k * 7 + used.length) % 26)).length ≤ 1000000 := by
    rw [str_len, str_len, ch_list]
    simp; omega
  have k20 : ¬ (20 < (k : Int)) := by omega
  have d26 : divOk 26 = true := divOk_of _ (by decide) (by decide) (by decide)
  have m7 : mulOk (k : Int) 7 = true := mulOk_r _ _ (by decide) (by decide)
  have hb' : att used.length w k ∈ used ∨ att used.length w k ∈ resv := List.mem_append.mp hb
  generalize (k * 7 + used.length) % 26 = M at *
  generalize hS7 : (⟨((att used.length w k).cps.toList.take 7).toArray⟩ : Str) = S7 at *
  generalize att used.length w (k + 1) = A1 at *
  generalize att used.length w k = A0 at *
  simp only [if_true] at e1 e2
  by_cases h1 : A0 ∈ used
  · simp only [h1, decide_true, Bool.not_true] at e1
    rw [List.length_map] at e5
    generalize used.map D.str = US at *
    generalize used.length = UL at *
    simp [m_law_name_l1, e1, e3, e4, e5, e6, d26, m7, hlen, ea, k20]
  · have h2 : A0 ∈ resv := hb'.resolve_left h1
    simp only [h1, decide_false, Bool.not_false] at e1
    simp only [h2, decide_true, Bool.not_true] at e2
    rw [List.length_map] at e5
    generalize used.map D.str = US at *
    generalize used.length = UL at *
    generalize resv.map D.str = RS at *
    simp [m_law_name_l1, e1, e2, e3, e4, e5, e6, d26, m7, hlen, ea, k20]
theorem name_stop {k : Nat} (hb : att used.length w k ∉ used ++ resv) (q : Int) : m_law_name_l1 [some (.lst row), some (.ref 0), some (.ref 1), some (.str (att used.length w k)), some (.int (k : Int))] [.lst [.int q], .lst (used.map D.str)] =
    .bk [some (.lst row), some (.ref 0), some (.ref 1), some (.str (att used.length w k)), some (.int (k : Int))] [.lst [.int q], .lst (used.map D.str)] := by
  have e1 := inG_strs true (att used.length w k) (U := .ref 1) (us := used) (h := [.lst [.int q], .lst (used.map D.str)]) rfl
  have e2 := fun h => inG_strs true (att used.length w k) (U := .lst (resv.map D.str)) (us := resv) (h := h) rfl
  have e3 := fun h => reserved_ok h
  have h1 : att used.length w k ∉ used := fun h => hb (List.mem_append_left _ h)
  have h2 : att used.length w k ∉ resv := fun h => hb (List.mem_append_right _ h)
  simp only [if_true] at e1 e2
  simp only [h1, decide_false, Bool.not_false] at e1
  simp only [h2, decide_false, Bool.not_false] at e2
  generalize used.map D.str = US at *
  generalize resv.map D.str = RS at *
  simp [m_law_name_l1, e1, e2, e3]
theorem name_loop (q : Int) : ∀ (t k m : Nat) (x4 : Option D), k + t ≤ 21 → t < m → att used.length w (k + t) ∉ used ++ resv → ∃ j y4, att used.length w j ∉ used ++ resv ∧
    fl (fun _ => true) (.n 4) m_law_name_l1 ((List.range' k m).map fun (j : Nat) => D.int (j : Int)) [some (.lst row), some (.ref 0), some (.ref 1), some (.str (att used.length w k)), x4] [.lst [.int q], .lst (used.map D.str)] =
      .nx [some (.lst row), some (.ref 0), some (.ref 1), some (.str (att used.length w j)), y4] [.lst [.int q], .lst (used.map D.str)]
  | t, k, 0, x4, h1, h2, hg => by omega
  | t, k, m + 1, x4, h1, h2, hg => by
    rw [List.range'_succ, List.map_cons]
    by_cases hb : att used.length w k ∈ used ++ resv
    · cases t with
      | zero => exact absurd hb hg
      | succ t =>
        obtain ⟨j, y4, hj, ih⟩ := name_loop q t (k + 1) m (some (.int (k : Int))) (by omega) (by omega) (by rw [show k + 1 + t = k + (t + 1) by omega]; exact hg)
        refine ⟨j, y4, hj, Eq.trans (fl_n (b := m_law_name_l1) ?_) ih⟩
        exact name_step row used hu L (by omega) hb q
    · refine ⟨k, some (.int (k : Int)), hb, ?_⟩
      exact fl_bk rfl (bindP_n ..) (name_stop row used hu L hb q)
end
theorem call_ref2 {m : Fn} {R : List D} {i j : Nat} {c1 c2 c1' c2' : C} {h h' : Hc} {d : D} (hR : flatL R = true) (hij : i ≠ j) (hi : h[i]? = some c1) (hj : h[j]? = some c2) (f1 : flatC c1 = true) (f2 : flatC c2 = true)
    (hm : m [.lst R, .ref 0, .ref 1] [c1, c2] = .ok d (c1' :: c2' :: h')) (g1 : flatC c1' = true) (g2 : flatC c2' = true) (fd : flat d = true) : callL m [.lst R, .ref i, .ref j] h = .ok d ((h.set i c1').set j c2') := by
  have e1 : refsOf [D.lst R, .ref i, .ref j] = [i, j] := by
    show refsOf [D.ref i, .ref j] = [i, j]
    unfold refsOf
    have : refsOf [D.ref j] = [j] := rfl
    rw [this]
    simp [hij]
  have e2 : renL [i, j] [D.lst R, .ref i, .ref j] = some [.lst R, .ref 0, .ref 1] := by
    have a1 : renD [i, j] (.lst R) = some (.lst R) := by unfold renD; simp [hR]
    have a2 : renD [i, j] (.ref i) = some (.ref 0) := by unfold renD; simp [List.findIdx?_cons]
    have a3 : renD [i, j] (.ref j) = some (.ref 1) := by
      unfold renD
      have : (i == j) = false := by simp [hij]
      simp [List.findIdx?_cons, this]
    unfold renL
    rw [a1]
    unfold renL
    rw [a2]
    unfold renL
    rw [a3]
    rfl
  unfold callL
  rw [e1, e2]
  simp only [cellsAt, hi, hj]
  simp only [List.all_cons, List.all_nil, f1, f2, Bool.and_true, if_true, hm, frzD_flat fd]
  simp [wb, g1, g2]
section
variable {row : List Int} (hr : row ≠ [])
include hr
theorem name_ex {used : List Str} (hu : used.length ≤ 15) {k : Int} {i j : Nat} {h : Hc} (hij : i ≠ j) (hi : h[i]? = some (.lst [.int k])) (hj : h[j]? = some (.lst (used.map D.str))) (hk : 0 ≤ k) : ∃ w k', Nm w ∧ w ∉ used ∧ 0 ≤ k' ∧
    callL m_law_name [.lst (row.map D.int), .ref i, .ref j] h = .ok (.str w) ((h.set i (.lst [.int k'])).set j (.lst ((used ++ [w]).map D.str))) := by
  obtain ⟨v1, k1, a1, b1, hk1, e1⟩ := take_ex hr (h := [.lst [.int k], .lst (used.map D.str)]) (i := 0) (k := k) (l := 4) rfl hk (by decide)
  simp only [List.set_cons_zero] at e1
  obtain ⟨v2, k2, a2, b2, hk2, e2⟩ : ∃ v2 k2, 0 ≤ v2 ∧ v2 < 8 ∧ 0 ≤ k2 ∧ callL m_law_take [.lst (row.map D.int), .ref 0, .int (if 0 < v1 then 2 else 8)] [.lst [.int k1], .lst (used.map D.str)] = .ok (.int v2) [.lst [.int k2], .lst (used.map D.str)] := by
    obtain ⟨v2, k2, a, b, c, e⟩ := take_ex hr (h := [.lst [.int k1], .lst (used.map D.str)]) (i := 0) (k := k1) (l := if 0 < v1 then 2 else 8) rfl hk1 (by split <;> decide)
    simp only [List.set_cons_zero] at e
    exact ⟨v2, k2, a, by split at b <;> omega, c, e⟩
  obtain ⟨w, k3, L, hk3, e3⟩ := letters_ex hr (many := (1 + v2).toNat) (by omega) (h := [.lst [.int k2], .lst (used.map D.str)]) (i := 0) (k := k2) rfl hk2
  simp only [List.set_cons_zero] at e3
  rw [show (((1 + v2).toNat : Nat) : Int) = 1 + v2 by omega] at e3
  have L8 : LowN 1 8 w := ⟨by have := L.lo; omega, by have := L.hi; omega, L.low⟩
  obtain ⟨t, ht, hg⟩ := att_good used.length w (used ++ resv) (by simp; omega)
  obtain ⟨j', y4, hj', e4⟩ := name_loop (row.map D.int) used hu L8 k3 t 0 40 none (by omega) (by omega) (by rw [Nat.zero_add]; exact hg)
  rw [← upFrom_range] at e4
  have A := att_shape (u := used.length) L8 j'
  have h1 : att used.length w j' ∉ used := fun h => hj' (List.mem_append_left _ h)
  have h2 : att used.length w j' ∉ resv := fun h => hj' (List.mem_append_right _ h)
  refine ⟨att used.length w j', k3, ⟨A.lo, A.hi, A.low, h2⟩, h1, hk3, call_ref2 (h' := []) (by simp) hij hi hj (by simp) (by simp) ?_ (by simp) (by simp) (by simp)⟩
  have e5 := kindOk_list (h := [.lst [.int k3], .lst (used.map D.str)]) (n := 1) rfl
  have e6 := appF_ref (h := [.lst [.int k3], .lst (used.map D.str)]) (n := 1) (xs := used.map D.str) (d := .str (att used.length w j')) rfl (by simp; omega)
  have e7 : (used ++ [att used.length w j']).map D.str = used.map D.str ++ [.str (att used.length w j')] := by simp
  rw [e7]
  have ew : att used.length w 0 = w := rfl
  rw [ew] at e4
  generalize att used.length w j' = AJ at *
  generalize used.map D.str = US at *
  unfold m_law_name
  rw [runB_s]
  by_cases hv : 0 < v1
  · simp only [hv, if_true] at e2
    simp [e1, hv, e2, e3, e4, e5, e6]
  · simp only [hv, if_false] at e2
    simp [e1, hv, e2, e3, e4, e5, e6]
end
end Mp
/-! StrG: drawn structures. -/
namespace Mp
open PySem PySem.Spec PyProof.Rows L2
/-- how large a drawn tree is -/
def szB : Nat → Nat → Nat
  | 0, _ => 1
  | 1, _ => 1
  | d + 2, m => 1 + m * szB (d + 1) m
structure TOk (ns : List Str) (d m : Nat) (e : E) : Prop where
  ok : EOk ns e
  dp : dp e ≤ d
  sz : sz e ≤ szB d m
section
variable {row : List Int} (hr : row ≠ []) {ns : List Str} (hn : ns ≠ [])
include hr hn
end
end Mp
/-! StrH: flat structures, drawn structures. -/
namespace Mp
open PySem PySem.Spec PyProof.Rows L2
theorem sl8 (xs : List D) (h : Hc) : slF (.lst xs) none (some 8) h = .ok (.lst (xs.take 8)) h := by
  unfold slF
  simp [rdlD, lstD, cutD, HT.sIx]
section
variable {row : List Int} (hr : row ≠ []) {ns : List Str} (hn : ns ≠ [])
include hr hn
/-! ### handed in -/
end
theorem soF_tup {n : Nat} {xs : List D} : soFit (n + 1) (.tup xs) = (decide (xs.length < 1000000) && xs.all (soFit n)) := rfl
end Mp
/-! EqFit: == of values with themselves. -/
namespace Mp
open PySem PySem.Spec PyProof.Rows L2
def eqFit : Nat → D → Bool
  | _, .int _ => true
  | _, .bl _ => true
  | _, .non => true
  | _, .str z => PyData.strOk z
  | n + 1, .tup xs => xs.all (eqFit n)
  | n + 1, .lst xs => xs.all (eqFit n)
  | n + 1, .scr xs => xs.all (eqFit n)
  | _, _ => false
end Mp
/-! StrI: structures handed in; equality. -/
namespace Mp
open PySem PySem.Spec PyProof.Rows L2
end Mp
namespace Mp
open PySem PySem.Spec PyProof.Rows L2
/-! ### mirrors: Set -/
def m_law_sets_c1 : SE :=
  (eOp addF (eVar 3) (eLst (aCons (eVar 2) aNil)))
def m_law_sets_l1 : SS :=
  (sSet 1 (eOp addF (eVar 1) (eLc (iSeq (eVar 1)) (.n 3) [3] (fun _ h => .ok true h) m_law_sets_c1)))
/-- _law_sets: names 0, made 1, name 2, one 3 -/
def m_law_sets : Fn := runB 4
  (sSeq (sSet 1 (eCell (aCons (eLst aNil) aNil)))
  (sSeq (sFor (iSeq (eVar 0)) (.n 2)
    m_law_sets_l1)
  (sRet (eVar 1))))
def m_law_others_c1 : SE :=
  (eVar 2)
def m_law_others_t1 : SB :=
  (bEx (eOp (inG true) (eVar 2) (eVar 1)))
/-- _law_others: names 0, some 1, name 2 -/
def m_law_others : Fn := runB 3
  (sRet (eLc (iSeq (eVar 0)) (.n 2) [2] m_law_others_t1 m_law_others_c1))
end Mp
/-! SetSpec: all sets of names; the others. -/
namespace Mp
open PySem PySem.Spec PyProof.Rows L2
def sL (s : List Str) : D := .lst (s.map D.str)
def setsL : List (List Str) → List Str → List (List Str)
  | acc, [] => acc
  | acc, u :: r => setsL (acc ++ acc.map (· ++ [u])) r
end Mp
namespace Mp
open PySem PySem.Spec PyProof.Rows L2
/-! ### mirrors: Tab -/
def m_enough_l1 : SS :=
  (sPut setF (eOp borF (eOp ixF (eVar 3) (eVar 5)) (eOp bandF (eOp ixF (eVar 3) (eOp subF (eVar 5) (eC (.int 1)))) (eVar 4))) (eVar 3) (eVar 5))
def m_enough_l2 : SS :=
  (sFor (iRg3 (aCons (eVar 1) (aCons (eC (.int 0)) (aCons (eUn negF (eC (.int 1))) aNil)))) (.n 5)
      m_enough_l1)
/-- enough: tables 0, least 1, whole 2, reached 3, one 4, j 5 -/
def m_enough : Fn := runB 6
  (sSeq (sSet 3 (eOp addC (eLst (aCons (eVar 2) aNil)) (eOp mulF (eLst (aCons (eC (.int 0)) aNil)) (eVar 1))))
  (sSeq (sFor (iSeq (eVar 0)) (.n 4)
    m_enough_l2)
  (sRet (eOp ixF (eVar 3) (eVar 1)))))
def m_joined_c1 (self : Fn) : SE :=
  (eCall self (aCons (eVar 6) (aCons (eVar 1) (aCons (eVar 2) aNil))))
def m_joined_l1 (self : Fn) : SS :=
  (sSet 4 (eOp bandF (eVar 4) (eVar 5)))
def m_joined_l2 (self : Fn) : SS :=
  (sSet 4 (eOp borF (eVar 4) (eVar 5)))
/-- joined: e 0, columns 1, whole 2, tables 3, told 4, one 5, member 6 -/
def m_joined : Nat → Fn
  | 0 => fun _ _ => .bad
  | n + 1 => runB 7 (sSeq (sIf (bEx (eOp eqF (eOp ixF (eVar 0) (eC (.int 0))) (eC (.str "part"))))
    (sRet (eOp dgF (eVar 1) (eOp ixF (eVar 0) (eC (.int 1)))))
    sNext)
  (sSeq (sSet 3 (eLc (iSeq (eOp ixF (eVar 0) (eUn negF (eC (.int 1))))) (.n 6) [6] (fun _ h => .ok true h) (m_joined_c1 (m_joined n))))
  (sSeq (sIf (bEx (eOp eqF (eOp ixF (eVar 0) (eC (.int 0))) (eC (.str "some"))))
    (sRet (eCall m_enough (aCons (eVar 3) (aCons (eOp ixF (eVar 0) (eC (.int 1))) (aCons (eVar 2) aNil)))))
    sNext)
  (sSeq (sIf (bEx (eOp eqF (eOp ixF (eVar 0) (eC (.int 0))) (eC (.str "all"))))
    (sSeq (sSet 4 (eVar 2))
    (sSeq (sFor (iSeq (eVar 3)) (.n 5)
      (m_joined_l1 (m_joined n)))
    (sRet (eVar 4))))
    sNext)
  (sSeq (sSet 4 (eC (.int 0)))
  (sSeq (sFor (iSeq (eVar 3)) (.n 5)
    (m_joined_l2 (m_joined n)))
  (sRet (eVar 4))))))))
/-- everywhere: count 0 -/
def m_everywhere : Fn := runB 1
  (sRet (eOp subF (eOp shlF (eC (.int 1)) (eOp shlF (eC (.int 1)) (eVar 0))) (eC (.int 1))))
/-- column: place 0, count 1, run 2 -/
def m_column : Fn := runB 3
  (sSeq (sSet 2 (eOp shlF (eC (.int 1)) (eVar 0)))
  (sRet (eOp shlF (eOp fdivF (eCall m_everywhere (aCons (eVar 1) aNil)) (eOp addF (eOp shlF (eC (.int 1)) (eVar 2)) (eC (.int 1)))) (eVar 2))))
def m_table_k1 : SE :=
  (eVar 5)
def m_table_v1 : SE :=
  (eCall m_column (aCons (eVar 4) (aCons (eVar 2) aNil)))
/-- table: e 0, names 1, count 2, columns 3, k 4, name 5 -/
def m_table : Fn := runB 6
  (sSeq (sSet 2 (eCB lenF (aCons (eVar 1) aNil)))
  (sSeq (sSet 3 (eDc (iEnu (aCons (eVar 1) aNil)) (.t ((.n 4) :: ((.n 5) :: []))) [4, 5] (fun _ h => .ok true h) m_table_k1 m_table_v1))
  (sRet (eCall (m_joined 24) (aCons (eVar 0) (aCons (eVar 3) (aCons (eCall m_everywhere (aCons (eVar 2) aNil)) aNil)))))))
end Mp
namespace Mp
open PySem PySem.Spec PyProof.Rows L2
/-! ### mirrors: Sml -/
/-- _law_small: row 0, spot 1, names 2 -/
def m_law_small : Fn := runB 3
  (sRet (eCall (m_law_tree 24) (aCons (eVar 0) (aCons (eVar 1) (aCons (eVar 2) (aCons (eOp addF (eC (.int 2)) (eCall m_law_take (aCons (eVar 0) (aCons (eVar 1) (aCons (eC (.int 2)) aNil))))) (aCons (eC (.int 3)) aNil)))))))
end Mp
/-! SmlSpec: a drawn comprehension; a small structure. -/
namespace Mp
open PySem PySem.Spec PyProof.Rows L2
section
variable {row : List Int} (hr : row ≠ []) {ns : List Str} (hn : ns ≠ []) (hN : ∀ w ∈ ns, Nm w)
include hr hn hN
end
end Mp
namespace Mp
open PySem PySem.Spec PyProof.Rows L2
/-! ### mirrors: Mdl -/
def m_law_model_c1 : SE :=
  (eCall m_law_pick (aCons (eVar 0) (aCons (eVar 1) (aCons (eLst (aCons (eC (.int 0)) (aCons (eC (.int 0)) (aCons (eC (.int 1)) (aCons (eC (.int 1)) (aCons (eC (.int 2)) (aCons (eC (.int 3)) (aCons (eC (.int 9)) aNil)))))))) aNil))))
def m_law_model_l1 : SS :=
  (sSeq (sSet 8 (eLcC (iRg1 (aCons (eVar 3) aNil)) (.n 10) [10] (fun _ h => .ok true h) m_law_model_c1))
      (sSeq (sIf (bEx (eOp eqF (eOp ixF (eVar 8) (eC (.int 0))) (eC (.int 0))))
        (sPut setF (eOp addF (eC (.int 1)) (eCall m_law_take (aCons (eVar 0) (aCons (eVar 1) (aCons (eC (.int 3)) aNil))))) (eVar 8) (eC (.int 0)))
        sNext)
      (sSeq (sSet 9 (eCall m_law_pick (aCons (eVar 0) (aCons (eVar 1) (aCons (eLst (aCons (eC (.int 0)) (aCons (eC (.int 1)) (aCons (eC (.int 2)) (aCons (eC (.int 3)) (aCons (eC (.int 4)) (aCons (eC (.int 7)) (aCons (eC (.int 10)) (aCons (eC (.int 50)) (aCons (eC (.int 999)) (aCons (eC (.int 1000)) aNil))))))))))) aNil)))))
      (sDrop (eBM "list" appF (eVar 6) (aCons (eTup (aCons (eVar 9) (aCons (eCB tupleF (aCons (eVar 8) aNil)) aNil))) aNil))))))
def m_law_model_l2 : SS :=
  (sSeq (sSet 6 (eCell aNil))
    (sSeq (sFor (iRg1 (aCons (eOp addF (eC (.int 1)) (eCall m_law_take (aCons (eVar 0) (aCons (eVar 1) (aCons (eIf (bEx (eOp ltF (eVar 3) (eC (.int 4)))) (eC (.int 3)) (eC (.int 2))) aNil))))) aNil)) (.n 7)
      m_law_model_l1)
    (sDrop (eBM "list" appF (eVar 4) (aCons (eCB tupleF (aCons (eVar 6) aNil)) aNil)))))
/-- _law_model: row 0, spot 1, most 2, many 3, made 4, s 5, choices 6, k 7, weights 8, cost 9, j 10 -/
def m_law_model : Fn := runB 11
  (sSeq (sSet 3 (eOp addF (eC (.int 1)) (eCall m_law_take (aCons (eVar 0) (aCons (eVar 1) (aCons (eVar 2) aNil))))))
  (sSeq (sSet 4 (eCell aNil))
  (sSeq (sFor (iRg1 (aCons (eVar 3) aNil)) (.n 5)
    m_law_model_l2)
  (sRet (eCB tupleF (aCons (eVar 4) aNil))))))
def m_law_mean_l1 : SS :=
  (sSet 2 (eCall m_law_add (aCons (eVar 2) (aCons (eCall m_law_mul (aCons (eTup (aCons (eOp ixF (eVar 0) (eVar 3)) (aCons (eC (.int 1)) aNil))) (aCons (eOp ixF (eVar 1) (eVar 3)) aNil))) aNil))))
/-- _law_mean: weights 0, values 1, total 2, k 3 -/
def m_law_mean : Fn := runB 4
  (sSeq (sSet 2 (eTup (aCons (eC (.int 0)) (aCons (eC (.int 1)) aNil))))
  (sSeq (sFor (iRg1 (aCons (eCB lenF (aCons (eVar 0) aNil)) aNil)) (.n 3)
    m_law_mean_l1)
  (sRet (eCall m_law_div (aCons (eVar 2) (aCons (eTup (aCons (eCB sumA (aCons (eVar 0) aNil)) (aCons (eC (.int 1)) aNil))) aNil))))))
/-- _law_value: choice 0, nums 1 -/
def m_law_value : Fn := runB 2
  (sRet (eCall m_law_add (aCons (eTup (aCons (eOp ixF (eVar 0) (eC (.int 0))) (aCons (eC (.int 1)) aNil))) (aCons (eCall m_law_mean (aCons (eOp ixF (eVar 0) (eC (.int 1))) (aCons (eVar 1) aNil))) aNil))))
def m_law_firsts_l1 : SS :=
  (sIf (bTru (eCall m_law_less (aCons (eCall m_law_value (aCons (eOp ixF (eVar 3) (eVar 5)) (aCons (eVar 1) aNil))) (aCons (eCall m_law_value (aCons (eOp ixF (eVar 3) (eVar 4)) (aCons (eVar 1) aNil))) aNil))))
        (sSet 4 (eVar 5))
        sNext)
def m_law_firsts_l2 : SS :=
  (sSeq (sSet 4 (eC (.int 0)))
    (sSeq (sFor (iRg1 (aCons (eCB lenF (aCons (eVar 3) aNil)) aNil)) (.n 5)
      m_law_firsts_l1)
    (sDrop (eBM "list" appF (eVar 2) (aCons (eVar 4) aNil)))))
/-- _law_firsts: model 0, nums 1, made 2, choices 3, at 4, k 5 -/
def m_law_firsts : Fn := runB 6
  (sSeq (sSet 2 (eCell aNil))
  (sSeq (sFor (iSeq (eVar 0)) (.n 3)
    m_law_firsts_l2)
  (sRet (eCB tupleF (aCons (eVar 2) aNil)))))
def m_law_total_c1 : SE :=
  (eTup (aCons (eC (.int 0)) (aCons (eC (.int 1)) aNil)))
def m_law_total_c2 : SE :=
  (eCall m_law_value (aCons (eOp ixF (eOp ixF (eVar 0) (eVar 6)) (eOp ixF (eVar 4) (eVar 6))) (aCons (eVar 2) aNil)))
def m_law_total_l1 : SS :=
  (sSeq (sSet 4 (eCall m_law_firsts (aCons (eVar 0) (aCons (eVar 2) aNil))))
    (sSet 2 (eLc (iRg1 (aCons (eCB lenF (aCons (eVar 0) aNil)) aNil)) (.n 6) [6] (fun _ h => .ok true h) m_law_total_c2)))
/-- _law_total: model 0, days 1, values 2, k 3, firsts 4, one 5, s 6 -/
def m_law_total : Fn := runB 7
  (sSeq (sSet 2 (eLc (iSeq (eVar 0)) (.n 5) [5] (fun _ h => .ok true h) m_law_total_c1))
  (sSeq (sFor (iRg1 (aCons (eVar 1) aNil)) (.n 3)
    m_law_total_l1)
  (sRet (eVar 2))))
def m_is_choice_c1 : SE :=
  (eCall m_is_within (aCons (eVar 3) (aCons (eC (.int 0)) (aCons (eC (.int 9)) aNil))))
/-- is_choice: choice 0, many 1, weights 2, weight 3 -/
def m_is_choice : Fn := runB 4
  (sSeq (sIf (bOr (bNot (bTru (eCall m_is_row (aCons (eVar 0) (aCons (eC (.int 2)) (aCons (eC (.int 2)) aNil)))))) (bNot (bTru (eCall m_is_within (aCons (eOp ixF (eVar 0) (eC (.int 0))) (aCons (eC (.int 0)) (aCons (eC (.int 1000)) aNil)))))))
    (sRet (eC (.bl false)))
    sNext)
  (sSeq (sSet 2 (eOp ixF (eVar 0) (eC (.int 1))))
  (sSeq (sIf (bNot (bTru (eCall m_is_row (aCons (eVar 2) (aCons (eVar 1) (aCons (eVar 1) aNil))))))
    (sRet (eC (.bl false)))
    sNext)
  (sRet (eAnd (eCB allF (aCons (eLc (iSeq (eVar 2)) (.n 3) [3] (fun _ h => .ok true h) m_is_choice_c1) aNil)) (eOp geF (eOp ixF (eVar 2) (eC (.int 0))) (eC (.int 1))))))))
def m_is_state_c1 : SE :=
  (eCall m_is_choice (aCons (eVar 2) (aCons (eVar 1) aNil)))
/-- is_state: state 0, many 1, choice 2 -/
def m_is_state : Fn := runB 3
  (sRet (eAnd (eCall m_is_row (aCons (eVar 0) (aCons (eC (.int 1)) (aCons (eC (.int 3)) aNil)))) (eCB allF (aCons (eLc (iSeq (eVar 0)) (.n 2) [2] (fun _ h => .ok true h) m_is_state_c1) aNil))))
def m_is_model_c1 : SE :=
  (eCall m_is_state (aCons (eVar 1) (aCons (eCB lenF (aCons (eVar 0) aNil)) aNil)))
/-- is_model: model 0, state 1 -/
def m_is_model : Fn := runB 2
  (sSeq (sIf (bNot (bTru (eCall m_is_row (aCons (eVar 0) (aCons (eC (.int 1)) (aCons (eC (.int 5)) aNil))))))
    (sRet (eC (.bl false)))
    sNext)
  (sRet (eCB allF (aCons (eLc (iSeq (eVar 0)) (.n 1) [1] (fun _ h => .ok true h) m_is_model_c1) aNil))))
def m_mean_c1 : SE :=
  (eVar 5)
def m_mean_c2 : SE :=
  (eOp mulF (eVar 6) (eOp fdivF (eVar 2) (eVar 5)))
def m_mean_c3 : SE :=
  (eOp mulF (eVar 7) (eVar 6))
/-- mean: weights 0, fractions 1, common 2, tops 3, _ 4, bottom 5, top 6, weight 7 -/
def m_mean : Fn := runB 8
  (sSeq (sSet 2 (eCall m_common_bottom (aCons (eLc (iSeq (eVar 1)) (.t ((.n 4) :: ((.n 5) :: []))) [4, 5] (fun _ h => .ok true h) m_mean_c1) aNil)))
  (sSeq (sSet 3 (eLc (iSeq (eVar 1)) (.t ((.n 6) :: ((.n 5) :: []))) [6, 5] (fun _ h => .ok true h) m_mean_c2))
  (sRet (eCall m_reduced (aCons (eCB sumA (aCons (eLc (iZip (aCons (eVar 0) (aCons (eVar 3) aNil))) (.t ((.n 7) :: ((.n 6) :: []))) [7, 6] (fun _ h => .ok true h) m_mean_c3) aNil)) (aCons (eOp mulF (eCB sumA (aCons (eVar 0) aNil)) (eVar 2)) aNil))))))
def m_sums_ahead_c1 : SE :=
  (eCall m_plus (aCons (eTup (aCons (eVar 2) (aCons (eC (.int 1)) aNil))) (aCons (eCall m_mean (aCons (eVar 3) (aCons (eVar 1) aNil))) aNil)))
/-- sums_ahead: choices 0, numbers 1, cost 2, weights 3 -/
def m_sums_ahead : Fn := runB 4
  (sRet (eLc (iSeq (eVar 0)) (.t ((.n 2) :: ((.n 3) :: []))) [2, 3] (fun _ h => .ok true h) m_sums_ahead_c1))
def m_first_least_l1 : SS :=
  (sIf (bTru (eCall m_less (aCons (eOp ixF (eVar 0) (eVar 2)) (aCons (eOp ixF (eVar 0) (eVar 1)) aNil))))
      (sSet 1 (eVar 2))
      sNext)
/-- first_least: fractions 0, found 1, at 2 -/
def m_first_least : Fn := runB 3
  (sSeq (sSet 1 (eC (.int 0)))
  (sSeq (sFor (iRg2 (aCons (eC (.int 1)) (aCons (eCB lenF (aCons (eVar 0) aNil)) aNil))) (.n 2)
    m_first_least_l1)
  (sRet (eVar 1))))
def m_least_ahead_l1 : SS :=
  (sSeq (sSet 4 (eCall m_sums_ahead (aCons (eVar 3) (aCons (eVar 1) aNil))))
    (sDrop (eBM "list" appF (eVar 2) (aCons (eOp ixF (eVar 4) (eCall m_first_least (aCons (eVar 4) aNil))) aNil))))
/-- least_ahead: model 0, totals 1, found 2, choices 3, sums 4 -/
def m_least_ahead : Fn := runB 5
  (sSeq (sSet 2 (eCell aNil))
  (sSeq (sFor (iSeq (eVar 0)) (.n 3)
    m_least_ahead_l1)
  (sRet (eVar 2))))
def m_least_total_l1 : SS :=
  (sSet 3 (eCall m_least_ahead (aCons (eVar 0) (aCons (eVar 3) aNil))))
/-- least_total: model 0, days 1, start 2, totals 3, _ 4 -/
def m_least_total : Fn := runB 5
  (sSeq (sIf (bNot (bTru (eCall m_is_model (aCons (eVar 0) aNil))))
    (sRaise "BadValue" ["at"] (aCons (eC (.int 0)) aNil))
    sNext)
  (sSeq (sIf (bNot (bTru (eCall m_is_within (aCons (eVar 1) (aCons (eC (.int 0)) (aCons (eC (.int 20)) aNil))))))
    (sRaise "BadValue" ["at"] (aCons (eC (.int 1)) aNil))
    sNext)
  (sSeq (sIf (bOr (bNot (bTru (eCall m_is_integer (aCons (eVar 2) aNil)))) (bOr (bEx (eOp ltF (eVar 2) (eC (.int 0)))) (bEx (eOp geF (eVar 2) (eCB lenF (aCons (eVar 0) aNil))))))
    (sRaise "BadValue" ["at"] (aCons (eC (.int 2)) aNil))
    sNext)
  (sSeq (sSet 3 (eOp mulF (eLst (aCons (eTup (aCons (eC (.int 0)) (aCons (eC (.int 1)) aNil))) aNil)) (eCB lenF (aCons (eVar 0) aNil))))
  (sSeq (sFor (iRg1 (aCons (eVar 1) aNil)) (.n 4)
    m_least_total_l1)
  (sRet (eOp ixF (eVar 3) (eVar 2))))))))
end Mp
namespace Mp
open PySem PySem.Spec PyProof.Rows L2
/-! ### mirrors: Rid -/
def m_law_ways_c1 : SE :=
  (eIf (bEx (eOp eqF (eVar 5) (eVar 4))) (eC (.int 0)) (eCall m_law_pick (aCons (eVar 0) (aCons (eVar 1) (aCons (eLst (aCons (eC (.int 0)) (aCons (eC (.int 1)) (aCons (eC (.int 2)) (aCons (eC (.int 5)) (aCons (eC (.int 5)) (aCons (eC (.int 9)) (aCons (eC (.int 20)) (aCons (eC (.int 99)) aNil))))))))) aNil)))))
def m_law_ways_l1 : SS :=
  (sDrop (eBM "list" appF (eVar 3) (aCons (eCB tupleF (aCons (eLc (iRg1 (aCons (eVar 2) aNil)) (.n 5) [5] (fun _ h => .ok true h) m_law_ways_c1) aNil)) aNil)))
/-- _law_ways: row 0, spot 1, many 2, made 3, k 4, j 5 -/
def m_law_ways : Fn := runB 6
  (sSeq (sSet 3 (eCell aNil))
  (sSeq (sFor (iRg1 (aCons (eVar 2) aNil)) (.n 4)
    m_law_ways_l1)
  (sRet (eCB tupleF (aCons (eVar 3) aNil)))))
def m_law_stops_c1 : SE :=
  (eVar 6)
def m_law_stops_c2 : SE :=
  (eVar 10)
def m_law_stops_t1 : SB :=
  (bEx (eOp neF (eVar 10) (eVar 7)))
def m_law_stops_l1 : SS :=
  (sSeq (sSet 7 (eCall m_law_pick (aCons (eVar 0) (aCons (eVar 1) (aCons (eVar 4) aNil)))))
    (sSeq (sSet 4 (eLc (iSeq (eVar 4)) (.n 10) [10] m_law_stops_t1 m_law_stops_c2))
    (sSeq (sSet 8 (eCall m_law_pick (aCons (eVar 0) (aCons (eVar 1) (aCons (eLst (aCons (eC (.int 0)) (aCons (eC (.int 0)) (aCons (eC (.int 3)) (aCons (eC (.int 10)) (aCons (eC (.int 50)) (aCons (eC (.int 300)) aNil))))))) aNil)))))
    (sSeq (sSet 9 (eCB minF (aCons (eC (.int 1000)) (aCons (eOp addF (eVar 8) (eCall m_law_pick (aCons (eVar 0) (aCons (eVar 1) (aCons (eLst (aCons (eC (.int 0)) (aCons (eC (.int 5)) (aCons (eC (.int 15)) (aCons (eC (.int 40)) (aCons (eC (.int 1000)) aNil)))))) aNil))))) aNil))))
    (sDrop (eBM "list" appF (eVar 5) (aCons (eTup (aCons (eVar 7) (aCons (eVar 8) (aCons (eVar 9) (aCons (eCall m_law_pick (aCons (eVar 0) (aCons (eVar 1) (aCons (eLst (aCons (eC (.int 0)) (aCons (eC (.int 0)) (aCons (eC (.int 1)) (aCons (eC (.int 7)) (aCons (eC (.int 100)) aNil)))))) aNil)))) aNil))))) aNil)))))))
/-- _law_stops: row 0, spot 1, many 2, count 3, places 4, made 5, k 6, place 7, first 8, last 9, one 10 -/
def m_law_stops : Fn := runB 11
  (sSeq (sSet 4 (eLc (iRg2 (aCons (eC (.int 1)) (aCons (eVar 2) aNil))) (.n 6) [6] (fun _ h => .ok true h) m_law_stops_c1))
  (sSeq (sSet 5 (eCell aNil))
  (sSeq (sFor (iRg1 (aCons (eVar 3) aNil)) (.n 6)
    m_law_stops_l1)
  (sRet (eCB tupleF (aCons (eVar 5) aNil))))))
def m_law_drive_c1 : SE :=
  (eVar 9)
def m_law_drive_t1 : SB :=
  (bEx (eOp eqF (eOp ixF (eVar 9) (eC (.int 0))) (eVar 7)))
def m_law_drive_l1 : SS :=
  (sSeq (sSet 8 (eOp ixF (eLc (iSeq (eVar 1)) (.n 9) [9] m_law_drive_t1 m_law_drive_c1) (eC (.int 0))))
    (sSeq (sSet 4 (eOp addF (eVar 4) (eOp ixF (eOp ixF (eVar 0) (eVar 5)) (eVar 7))))
    (sSeq (sDrop (eBM "list" appF (eVar 6) (aCons (eVar 4) aNil)))
    (sSeq (sIf (bEx (eOp gtF (eVar 4) (eOp ixF (eVar 8) (eC (.int 2)))))
      (sRet (eC .non))
      sNext)
    (sSeq (sSet 4 (eOp addF (eCB maxF (aCons (eVar 4) (aCons (eOp ixF (eVar 8) (eC (.int 1))) aNil))) (eOp ixF (eVar 8) (eC (.int 3)))))
    (sSet 5 (eVar 7)))))))
/-- _law_drive: ways 0, stops 1, order 2, start 3, minute 4, place 5, made 6, one 7, stop 8, some 9 -/
def m_law_drive : Fn := runB 10
  (sSeq (sSet 4 (eVar 3))
  (sSeq (sSet 5 (eC (.int 0)))
  (sSeq (sSet 6 (eCell aNil))
  (sSeq (sFor (iSeq (eVar 2)) (.n 7)
    m_law_drive_l1)
  (sRet (eTup (aCons (eOp addF (eVar 4) (eOp ixF (eOp ixF (eVar 0) (eVar 5)) (eC (.int 0)))) (aCons (eCB tupleF (aCons (eVar 6) aNil)) aNil))))))))
def m_law_latest_c1 : SE :=
  (eVar 7)
def m_law_latest_t1 : SB :=
  (bEx (eOp eqF (eOp ixF (eVar 7) (eC (.int 0))) (eOp ixF (eVar 2) (eVar 5))))
def m_law_latest_l1 : SS :=
  (sSeq (sSet 5 (eOp subF (eOp subF (eCB lenF (aCons (eVar 2) aNil)) (eC (.int 1))) (eVar 4)))
    (sSeq (sSet 6 (eOp ixF (eLc (iSeq (eVar 1)) (.n 7) [7] m_law_latest_t1 m_law_latest_c1) (eC (.int 0))))
    (sSeq (sIf (bEx (eOp gtF (eOp addF (eOp ixF (eVar 6) (eC (.int 1))) (eOp ixF (eVar 6) (eC (.int 3)))) (eVar 3)))
      (sRet (eC .non))
      sNext)
    (sSet 3 (eOp subF (eCB minF (aCons (eOp ixF (eVar 6) (eC (.int 2))) (aCons (eOp subF (eVar 3) (eOp ixF (eVar 6) (eC (.int 3)))) aNil))) (eOp ixF (eOp ixF (eVar 0) (eIf (bEx (eOp gtF (eVar 5) (eC (.int 0)))) (eOp ixF (eVar 2) (eOp subF (eVar 5) (eC (.int 1)))) (eC (.int 0)))) (eOp ixF (eVar 2) (eVar 5))))))))
/-- _law_latest: ways 0, stops 1, order 2, free 3, k 4, j 5, stop 6, some 7 -/
def m_law_latest : Fn := runB 8
  (sSeq (sSet 3 (eOp powF (eC (.int 10)) (eC (.int 6))))
  (sSeq (sFor (iRg1 (aCons (eCB lenF (aCons (eVar 2) aNil)) aNil)) (.n 4)
    m_law_latest_l1)
  (sSeq (sIf (bEx (eOp ltF (eVar 3) (eC (.int 0))))
    (sRet (eC .non))
    sNext)
  (sRet (eCB minF (aCons (eC (.int 1000)) (aCons (eVar 3) aNil)))))))
def m_is_ways_c1 : SE :=
  (eCall m_is_within (aCons (eVar 3) (aCons (eC (.int 0)) (aCons (eC (.int 99)) aNil))))
def m_is_ways_l1 : SS :=
  (sSeq (sIf (bNot (bTru (eCall m_is_row (aCons (eVar 2) (aCons (eCB lenF (aCons (eVar 0) aNil)) (aCons (eCB lenF (aCons (eVar 0) aNil)) aNil))))))
      (sRet (eC (.bl false)))
      sNext)
    (sIf (bOr (bNot (bTru (eCB allF (aCons (eLc (iSeq (eVar 2)) (.n 3) [3] (fun _ h => .ok true h) m_is_ways_c1) aNil)))) (bEx (eOp neF (eOp ixF (eVar 2) (eVar 1)) (eC (.int 0)))))
      (sRet (eC (.bl false)))
      sNext))
/-- is_ways: ways 0, place 1, row 2, way 3 -/
def m_is_ways : Fn := runB 4
  (sSeq (sIf (bNot (bTru (eCall m_is_row (aCons (eVar 0) (aCons (eC (.int 2)) (aCons (eC (.int 7)) aNil))))))
    (sRet (eC (.bl false)))
    sNext)
  (sSeq (sFor (iEnu (aCons (eVar 0) aNil)) (.t ((.n 1) :: ((.n 2) :: [])))
    m_is_ways_l1)
  (sRet (eC (.bl true)))))
def m_all_different_l1 : SS :=
  (sSeq (sIf (bEx (eOp (dinF false) (eVar 2) (eVar 1)))
      (sRet (eC (.bl false)))
      sNext)
    (sPut putF (eC (.bl true)) (eVar 1) (eVar 2)))
/-- all_different: row 0, seen 1, x 2 -/
def m_all_different : Fn := runB 3
  (sSeq (sSet 1 eDct0)
  (sSeq (sFor (iSeq (eVar 0)) (.n 2)
    m_all_different_l1)
  (sRet (eC (.bl true)))))
/-- is_stop: stop 0 -/
def m_is_stop : Fn := runB 1
  (sSeq (sIf (bOr (bNot (bTru (eCall m_is_row (aCons (eVar 0) (aCons (eC (.int 4)) (aCons (eC (.int 4)) aNil)))))) (bOr (bNot (bTru (eCall m_is_integer (aCons (eOp ixF (eVar 0) (eC (.int 0))) aNil)))) (bEx (eOp ltF (eOp ixF (eVar 0) (eC (.int 0))) (eC (.int 1))))))
    (sRet (eC (.bl false)))
    sNext)
  (sSeq (sIf (bOr (bNot (bTru (eCall m_is_within (aCons (eOp ixF (eVar 0) (eC (.int 1))) (aCons (eC (.int 0)) (aCons (eC (.int 1000)) aNil)))))) (bNot (bTru (eCall m_is_within (aCons (eOp ixF (eVar 0) (eC (.int 2))) (aCons (eC (.int 0)) (aCons (eC (.int 1000)) aNil)))))))
    (sRet (eC (.bl false)))
    sNext)
  (sRet (eAnd (eOp leF (eOp ixF (eVar 0) (eC (.int 1))) (eOp ixF (eVar 0) (eC (.int 2)))) (eCall m_is_within (aCons (eOp ixF (eVar 0) (eC (.int 3))) (aCons (eC (.int 0)) (aCons (eC (.int 100)) aNil))))))))
def m_is_stops_c1 : SE :=
  (eCall m_is_stop (aCons (eVar 1) aNil))
def m_is_stops_c2 : SE :=
  (eOp ixF (eVar 1) (eC (.int 0)))
/-- is_stops: stops 0, stop 1 -/
def m_is_stops : Fn := runB 2
  (sSeq (sIf (bOr (bNot (bTru (eCall m_is_row (aCons (eVar 0) (aCons (eC (.int 0)) (aCons (eC (.int 6)) aNil)))))) (bNot (bTru (eCB allF (aCons (eLc (iSeq (eVar 0)) (.n 1) [1] (fun _ h => .ok true h) m_is_stops_c1) aNil)))))
    (sRet (eC (.bl false)))
    sNext)
  (sRet (eCall m_all_different (aCons (eLc (iSeq (eVar 0)) (.n 1) [1] (fun _ h => .ok true h) m_is_stops_c2) aNil))))
/-- check_alone: ways 0, stops 1 -/
def m_check_alone : Fn := runB 2
  (sSeq (sIf (bNot (bTru (eCall m_is_ways (aCons (eVar 0) aNil))))
    (sRaise "BadValue" ["at"] (aCons (eC (.int 0)) aNil))
    sNext)
  (sIf (bNot (bTru (eCall m_is_stops (aCons (eVar 1) aNil))))
    (sRaise "BadValue" ["at"] (aCons (eC (.int 1)) aNil))
    sNext))
def m_check_places_l1 : SS :=
  (sIf (bEx (eOp geF (eOp ixF (eVar 2) (eC (.int 0))) (eCB lenF (aCons (eVar 0) aNil))))
      (sRaise "BadValue" ["at"] (aCons (eC (.int 1)) aNil))
      sNext)
/-- check_places: ways 0, stops 1, stop 2 -/
def m_check_places : Fn := runB 3
  (sFor (iSeq (eVar 1)) (.n 2)
    m_check_places_l1)
def m_is_order_c1 : SE :=
  (eAnd (eCall m_is_integer (aCons (eVar 1) aNil)) (eOp geF (eVar 1) (eC (.int 0))))
/-- is_order: order 0, place 1 -/
def m_is_order : Fn := runB 2
  (sRet (eAnd (eCall m_is_sequence (aCons (eVar 0) aNil)) (eCB allF (aCons (eLc (iSeq (eVar 0)) (.n 1) [1] (fun _ h => .ok true h) m_is_order_c1) aNil))))
def m_places_of_c1 : SE :=
  (eOp ixF (eVar 1) (eC (.int 0)))
/-- places_of: stops 0, stop 1 -/
def m_places_of : Fn := runB 2
  (sRet (eCB sortF (aCons (eLc (iSeq (eVar 0)) (.n 1) [1] (fun _ h => .ok true h) m_places_of_c1) aNil)))
/-- check_order: ways 0, stops 1, order 2 -/
def m_check_order : Fn := runB 3
  (sSeq (sDrop (eCall m_check_alone (aCons (eVar 0) (aCons (eVar 1) aNil))))
  (sSeq (sIf (bNot (bTru (eCall m_is_order (aCons (eVar 2) aNil))))
    (sRaise "BadValue" ["at"] (aCons (eC (.int 2)) aNil))
    sNext)
  (sSeq (sDrop (eCall m_check_places (aCons (eVar 0) (aCons (eVar 1) aNil))))
  (sIf (bEx (eOp neF (eCB sortF (aCons (eVar 2) aNil)) (eCall m_places_of (aCons (eVar 1) aNil))))
    (sRaise "BadValue" ["at"] (aCons (eC (.int 2)) aNil))
    sNext))))
def m_row_of_k1 : SE :=
  (eOp ixF (eVar 3) (eC (.int 0)))
def m_row_of_v1 : SE :=
  (eVar 3)
def m_row_of_c1 : SE :=
  (eOp dgF (eVar 2) (eVar 4))
/-- row_of: stops 0, order 1, table 2, stop 3, place 4 -/
def m_row_of : Fn := runB 5
  (sSeq (sSet 2 (eDc (iSeq (eVar 0)) (.n 3) [3] (fun _ h => .ok true h) m_row_of_k1 m_row_of_v1))
  (sRet (eLc (iSeq (eVar 1)) (.n 4) [4] (fun _ h => .ok true h) m_row_of_c1)))
/-- leaving: stop 0, minute 1, _ 2, first 3, last 4, stay 5 -/
def m_leaving : Fn := runB 6
  (sSeq (sAsg (.t ((.n 2) :: ((.n 3) :: ((.n 4) :: ((.n 5) :: []))))) (eVar 0))
  (sSeq (sIf (bEx (eOp gtF (eVar 1) (eVar 4)))
    (sRet (eC .non))
    sNext)
  (sRet (eOp addF (eCB maxF (aCons (eVar 1) (aCons (eVar 3) aNil))) (eVar 5)))))
def m_arrivals_l1 : SS :=
  (sSeq (sSet 7 (eOp addF (eVar 4) (eOp ixF (eOp ixF (eVar 0) (eVar 3)) (eOp ixF (eVar 6) (eC (.int 0))))))
    (sSeq (sDrop (eBM "list" appF (eVar 5) (aCons (eVar 7) aNil)))
    (sSeq (sPar 3 4 (aCons (eOp ixF (eVar 6) (eC (.int 0))) (aCons (eCall m_leaving (aCons (eVar 6) (aCons (eVar 7) aNil))) aNil)))
    (sIf (bEx (eOp isnF (eVar 4) (eC .non)))
      (sRet (eC .non))
      sNext))))
/-- arrivals: ways 0, stops 1, order 2, place 3, minute 4, found 5, stop 6, come 7 -/
def m_arrivals : Fn := runB 8
  (sSeq (sDrop (eCall m_check_order (aCons (eVar 0) (aCons (eVar 1) (aCons (eVar 2) aNil)))))
  (sSeq (sAsg (.t ((.n 3) :: ((.n 4) :: []))) (eTup (aCons (eC (.int 0)) (aCons (eC (.int 0)) aNil))))
  (sSeq (sSet 5 (eCell aNil))
  (sSeq (sFor (iSeq (eCall m_row_of (aCons (eVar 1) (aCons (eVar 2) aNil)))) (.n 6)
    m_arrivals_l1)
  (sRet (eCB tupleF (aCons (eVar 5) aNil)))))))
/-- coming: stop 0, until 1, _ 2, first 3, last 4, stay 5 -/
def m_coming : Fn := runB 6
  (sSeq (sAsg (.t ((.n 2) :: ((.n 3) :: ((.n 4) :: ((.n 5) :: []))))) (eVar 0))
  (sSeq (sIf (bEx (eOp gtF (eOp addF (eVar 3) (eVar 5)) (eVar 1)))
    (sRet (eC .non))
    sNext)
  (sRet (eCB minF (aCons (eVar 4) (aCons (eOp subF (eVar 1) (eVar 5)) aNil))))))
def m_latest_l1 : SS :=
  (sSeq (sSet 6 (eCall m_coming (aCons (eOp ixF (eVar 3) (eVar 5)) (aCons (eVar 4) aNil))))
    (sSeq (sIf (bEx (eOp isnF (eVar 6) (eC .non)))
      (sRet (eC .non))
      sNext)
    (sSeq (sSet 7 (eIf (bEx (eOp gtF (eVar 5) (eC (.int 0)))) (eOp ixF (eOp ixF (eVar 3) (eOp subF (eVar 5) (eC (.int 1)))) (eC (.int 0))) (eC (.int 0))))
    (sSet 4 (eOp subF (eVar 6) (eOp ixF (eOp ixF (eVar 0) (eVar 7)) (eOp ixF (eOp ixF (eVar 3) (eVar 5)) (eC (.int 0)))))))))
/-- latest: ways 0, stops 1, order 2, row 3, until 4, k 5, come 6, ahead 7 -/
def m_latest : Fn := runB 8
  (sSeq (sDrop (eCall m_check_order (aCons (eVar 0) (aCons (eVar 1) (aCons (eVar 2) aNil)))))
  (sSeq (sSet 3 (eCall m_row_of (aCons (eVar 1) (aCons (eVar 2) aNil))))
  (sSeq (sSet 4 (eC (.int 1000000)))
  (sSeq (sFor (iRg3 (aCons (eOp subF (eCB lenF (aCons (eVar 3) aNil)) (eC (.int 1))) (aCons (eUn negF (eC (.int 1))) (aCons (eUn negF (eC (.int 1))) aNil)))) (.n 5)
    m_latest_l1)
  (sSeq (sIf (bEx (eOp ltF (eVar 4) (eC (.int 0))))
    (sRet (eC .non))
    sNext)
  (sRet (eCB minF (aCons (eVar 4) (aCons (eC (.int 1000)) aNil)))))))))
end Mp
/-! RidA: ways, stops, orders: what is let. -/
namespace Mp
open PySem PySem.Spec PyProof.Rows L2
structure St where
  p : Int
  f : Int
  l : Int
  s : Int
def stD (b : Bool) (z : St) : D := sqs b [.int z.p, .int z.f, .int z.l, .int z.s]
def stsD (b : Bool) (S : List St) : D := sqs b (S.map (stD b))
def wyD (b : Bool) (W : List (List Int)) : D := sqs b (W.map (sq b))
/-- the way from i to j -/
def wAt (W : List (List Int)) (i j : Int) : Int := (W.getD i.toNat []).getD j.toNat 0
structure WOk (n : Nat) (W : List (List Int)) : Prop where
  lo : 2 ≤ n
  hi : n ≤ 7
  len : W.length = n
  row : ∀ r ∈ W, r.length = n ∧ ∀ x ∈ r, 0 ≤ x ∧ x ≤ 99
  diag : ∀ i, i < n → (W.getD i []).getD i 0 = 0
structure ZOk (n : Nat) (z : St) : Prop where
  p1 : 1 ≤ z.p
  p2 : z.p < n
  f0 : 0 ≤ z.f
  fl : z.f ≤ z.l
  l1 : z.l ≤ 1000
  s0 : 0 ≤ z.s
  s1 : z.s ≤ 100
structure TOk' (n : Nat) (S : List St) : Prop where
  len : S.length ≤ 6
  ok : ∀ z ∈ S, ZOk n z
  nd : (S.map (·.p)).Nodup
theorem enF_sqs' (b : Bool) (xs : List D) (h : Hc) : enF [sqs b xs] h = .ok ⟨enumD 0 xs, fun _ => true⟩ h := by cases b <;> simp [sqs]
theorem all_true' {α : Type} (xs : List α) (h : Hc) : allF [.lst ((xs.map fun _ => true).map D.bl)] h = .ok (.bl true) h := by
  rw [allF_lst]; simp
end Mp
/-! RidB: stops and orders are let; the row of an order. -/
namespace Mp
open PySem PySem.Spec PyProof.Rows L2
/-! ### all different -/
end Mp
namespace Mp
open PySem PySem.Spec PyProof.Rows L2
/-! ### mirrors: Job -/
def m_law_jobs_l1 : SS :=
  (sSeq (sSet 7 (eCall m_law_take (aCons (eVar 0) (aCons (eVar 1) (aCons (eVar 3) aNil)))))
    (sSeq (sSet 8 (eCB minF (aCons (eC (.int 30)) (aCons (eOp addF (eVar 7) (eCall m_law_pick (aCons (eVar 0) (aCons (eVar 1) (aCons (eLst (aCons (eC (.int 0)) (aCons (eC (.int 0)) (aCons (eC (.int 1)) (aCons (eC (.int 1)) (aCons (eC (.int 2)) (aCons (eC (.int 4)) (aCons (eVar 3) aNil)))))))) aNil))))) aNil))))
    (sDrop (eBM "list" appF (eVar 5) (aCons (eTup (aCons (eCall m_law_name (aCons (eVar 0) (aCons (eVar 1) (aCons (eVar 4) aNil)))) (aCons (eVar 7) (aCons (eVar 8) aNil)))) aNil)))))
/-- _law_jobs: row 0, spot 1, many 2, wide 3, used 4, made 5, k 6, first 7, last 8 -/
def m_law_jobs : Fn := runB 9
  (sSeq (sSet 4 (eCell aNil))
  (sSeq (sSet 5 (eCell aNil))
  (sSeq (sFor (iRg1 (aCons (eVar 2) aNil)) (.n 6)
    m_law_jobs_l1)
  (sRet (eCB tupleF (aCons (eVar 5) aNil))))))
def m_law_closed_c1 : SE :=
  (eVar 4)
def m_law_closed_t1 : SB :=
  (bEx (eOp eqF (eCall m_law_take (aCons (eVar 0) (aCons (eVar 1) (aCons (eC (.int 5)) aNil)))) (eC (.int 0))))
/-- _law_closed: row 0, spot 1, wide 2, made 3, day 4 -/
def m_law_closed : Fn := runB 5
  (sSeq (sSet 3 (eLc (iRg1 (aCons (eOp addF (eVar 2) (eC (.int 3))) aNil)) (.n 4) [4] m_law_closed_t1 m_law_closed_c1))
  (sSeq (sIf (bEx (eOp eqF (eCall m_law_take (aCons (eVar 0) (aCons (eVar 1) (aCons (eC (.int 3)) aNil)))) (eC (.int 0))))
    (sSet 3 (eOp addF (eSl slF (eVar 3) none (some (eC (.int 10)))) (eSl slF (eVar 3) none (some (eC (.int 5))))))
    sNext)
  (sRet (eCB tupleF (aCons (eVar 3) aNil)))))
def m_law_crowded_c1 : SE :=
  (eVar 6)
def m_law_crowded_t1 : SB :=
  (bAnd (bEx (eOp geF (eOp ixF (eVar 6) (eC (.int 1))) (eVar 3))) (bEx (eOp leF (eOp ixF (eVar 6) (eC (.int 2))) (eVar 4))))
def m_law_crowded_c2 : SE :=
  (eVar 7)
def m_law_crowded_t2 : SB :=
  (bEx (eOp (inG true) (eVar 7) (eVar 2)))
def m_law_crowded_l1 : SS :=
  (sSeq (sSet 5 (eCB lenF (aCons (eLc (iSeq (eVar 0)) (.n 6) [6] m_law_crowded_t1 m_law_crowded_c1) aNil)))
      (sIf (bAnd (bEx (eOp gtF (eVar 5) (eC (.int 0)))) (bEx (eOp gtF (eVar 5) (eOp mulF (eVar 1) (eCB lenF (aCons (eLc (iRg2 (aCons (eVar 3) (aCons (eOp addF (eVar 4) (eC (.int 1))) aNil))) (.n 7) [7] m_law_crowded_t2 m_law_crowded_c2) aNil))))))
        (sRet (eTup (aCons (eVar 3) (aCons (eVar 4) aNil))))
        sNext))
def m_law_crowded_l2 : SS :=
  (sFor (iRg2 (aCons (eVar 3) (aCons (eC (.int 31)) aNil))) (.n 4)
      m_law_crowded_l1)
/-- _law_crowded: jobs 0, crews 1, closed 2, first 3, last 4, many 5, job 6, day 7 -/
def m_law_crowded : Fn := runB 8
  (sSeq (sFor (iRg1 (aCons (eC (.int 31)) aNil)) (.n 3)
    m_law_crowded_l2)
  (sRet (eC .non)))
/-- is_triple: row 0 -/
def m_is_triple : Fn := runB 1
  (sSeq (sIf (bOr (bNot (bTru (eCall m_is_row (aCons (eVar 0) (aCons (eC (.int 3)) (aCons (eC (.int 3)) aNil)))))) (bNot (bTru (eCall m_is_name (aCons (eOp ixF (eVar 0) (eC (.int 0))) aNil)))))
    (sRet (eC (.bl false)))
    sNext)
  (sRet (eAnd (eCall m_is_within (aCons (eOp ixF (eVar 0) (eC (.int 1))) (aCons (eC (.int 0)) (aCons (eC (.int 30)) aNil)))) (eCall m_is_within (aCons (eOp ixF (eVar 0) (eC (.int 2))) (aCons (eOp ixF (eVar 0) (eC (.int 1))) (aCons (eC (.int 30)) aNil)))))))
def m_are_triples_c1 : SE :=
  (eCall m_is_triple (aCons (eVar 1) aNil))
def m_are_triples_c2 : SE :=
  (eOp ixF (eVar 1) (eC (.int 0)))
/-- are_triples: rows 0, row 1 -/
def m_are_triples : Fn := runB 2
  (sSeq (sIf (bOr (bNot (bTru (eCall m_is_row (aCons (eVar 0) (aCons (eC (.int 0)) (aCons (eC (.int 12)) aNil)))))) (bNot (bTru (eCB allF (aCons (eLc (iSeq (eVar 0)) (.n 1) [1] (fun _ h => .ok true h) m_are_triples_c1) aNil)))))
    (sRet (eC (.bl false)))
    sNext)
  (sRet (eCall m_all_different (aCons (eLc (iSeq (eVar 0)) (.n 1) [1] (fun _ h => .ok true h) m_are_triples_c2) aNil))))
/-- check_triples: rows 0 -/
def m_check_triples : Fn := runB 1
  (sIf (bNot (bTru (eCall m_are_triples (aCons (eVar 0) aNil))))
    (sRaise "BadValue" ["at"] (aCons (eC (.int 0)) aNil))
    sNext)
def m_are_closed_c1 : SE :=
  (eCall m_is_within (aCons (eVar 1) (aCons (eC (.int 0)) (aCons (eC (.int 30)) aNil))))
/-- are_closed: days 0, day 1 -/
def m_are_closed : Fn := runB 2
  (sRet (eAnd (eCall m_is_row (aCons (eVar 0) (aCons (eC (.int 0)) (aCons (eOp addF (eC (.int 30)) (eC (.int 1))) aNil)))) (eCB allF (aCons (eLc (iSeq (eVar 0)) (.n 1) [1] (fun _ h => .ok true h) m_are_closed_c1) aNil))))
def m_open_counts_l1 : SS :=
  (sDrop (eBM "list" appF (eVar 1) (aCons (eOp addF (eOp ixF (eVar 1) (eVar 2)) (eIf (bEx (eOp (inG false) (eVar 2) (eVar 0))) (eC (.int 0)) (eC (.int 1)))) aNil)))
/-- open_counts: closed 0, counts 1, day 2 -/
def m_open_counts : Fn := runB 3
  (sSeq (sSet 1 (eCell (aCons (eC (.int 0)) aNil)))
  (sSeq (sFor (iRg1 (aCons (eOp addF (eC (.int 30)) (eC (.int 1))) aNil)) (.n 2)
    m_open_counts_l1)
  (sRet (eVar 1))))
def m_count_within_c1 : SE :=
  (eVar 3)
def m_count_within_t1 : SB :=
  (bAnd (bEx (eOp leF (eVar 1) (eOp ixF (eVar 3) (eC (.int 1))))) (bEx (eOp leF (eOp ixF (eVar 3) (eC (.int 2))) (eVar 2))))
/-- count_within: jobs 0, first 1, last 2, job 3 -/
def m_count_within : Fn := runB 4
  (sRet (eCB lenF (aCons (eLc (iSeq (eVar 0)) (.n 3) [3] m_count_within_t1 m_count_within_c1) aNil)))
def m_crowded_days_l1 : SS :=
  (sSeq (sSet 6 (eOp mulF (eVar 1) (eOp subF (eOp ixF (eVar 3) (eOp addF (eVar 5) (eC (.int 1)))) (eOp ixF (eVar 3) (eVar 4)))))
      (sIf (bEx (eOp gtF (eCall m_count_within (aCons (eVar 0) (aCons (eVar 4) (aCons (eVar 5) aNil)))) (eVar 6)))
        (sRet (eTup (aCons (eVar 4) (aCons (eVar 5) aNil))))
        sNext))
def m_crowded_days_l2 : SS :=
  (sFor (iRg2 (aCons (eVar 4) (aCons (eOp addF (eC (.int 30)) (eC (.int 1))) aNil))) (.n 5)
      m_crowded_days_l1)
/-- crowded_days: jobs 0, crews 1, closed 2, counts 3, first 4, last 5, visits 6 -/
def m_crowded_days : Fn := runB 7
  (sSeq (sSet 3 (eCall m_open_counts (aCons (eVar 2) aNil)))
  (sSeq (sFor (iRg1 (aCons (eOp addF (eC (.int 30)) (eC (.int 1))) aNil)) (.n 4)
    m_crowded_days_l2)
  (sRet (eC .non))))
def m_law_schedule_c1 : SE :=
  (eC .non)
def m_law_schedule_c2 : SE :=
  (eTup (aCons (eOp ixF (eOp ixF (eVar 0) (eVar 7)) (eC (.int 2))) (aCons (eVar 7) aNil)))
def m_law_schedule_t1 : SB :=
  (bAnd (bEx (eOp isnF (eOp ixF (eVar 3) (eVar 7)) (eC .non))) (bEx (eOp leF (eOp ixF (eOp ixF (eVar 0) (eVar 7)) (eC (.int 1))) (eVar 4))))
def m_law_schedule_l1 : SS :=
  (sPut setF (eVar 4) (eVar 3) (eOp ixF (eVar 6) (eC (.int 1))))
def m_law_schedule_l2 : SS :=
  (sIf (bEx (eOp (inG true) (eVar 4) (eVar 2)))
      (sSeq (sSet 5 (eCB sortF (aCons (eLc (iRg1 (aCons (eCB lenF (aCons (eVar 0) aNil)) aNil)) (.n 7) [7] m_law_schedule_t1 m_law_schedule_c2) aNil)))
      (sFor (iSeq (eSl slF (eVar 5) none (some (eVar 1)))) (.n 6)
        m_law_schedule_l1))
      sNext)
def m_law_schedule_l3 : SS :=
  (sIf (bOr (bEx (eOp isnF (eOp ixF (eVar 3) (eVar 7)) (eC .non))) (bEx (eOp gtF (eOp ixF (eVar 3) (eVar 7)) (eOp ixF (eOp ixF (eVar 0) (eVar 7)) (eC (.int 2))))))
      (sRet (eC .non))
      sNext)
/-- _law_schedule: jobs 0, crews 1, closed 2, days 3, day 4, ready 5, pair 6, k 7, job 8 -/
def m_law_schedule : Fn := runB 9
  (sSeq (sSet 3 (eLcC (iSeq (eVar 0)) (.n 8) [8] (fun _ h => .ok true h) m_law_schedule_c1))
  (sSeq (sFor (iRg1 (aCons (eC (.int 31)) aNil)) (.n 4)
    m_law_schedule_l2)
  (sSeq (sFor (iRg1 (aCons (eCB lenF (aCons (eVar 0) aNil)) aNil)) (.n 7)
    m_law_schedule_l3)
  (sRet (eCB tupleF (aCons (eVar 3) aNil))))))
end Mp
namespace Mp
open PySem PySem.Spec PyProof.Rows L2
/-! ### mirrors: Sch -/
/-- check_visits: jobs 0, crews 1, closed 2, at 3 -/
def m_check_visits : Fn := runB 4
  (sSeq (sIf (bNot (bTru (eCall m_is_within (aCons (eVar 1) (aCons (eC (.int 0)) (aCons (eC (.int 4)) aNil))))))
    (sRaise "BadValue" ["at"] (aCons (eVar 3) aNil))
    sNext)
  (sIf (bNot (bTru (eCall m_are_closed (aCons (eVar 2) aNil))))
    (sRaise "BadValue" ["at"] (aCons (eOp addF (eVar 3) (eC (.int 1))) aNil))
    sNext))
def m_earliest_days_c1 : SE :=
  (eTup (aCons (eOp ixF (eVar 8) (eC (.int 2))) (aCons (eVar 7) aNil)))
def m_earliest_days_t1 : SB :=
  (bAnd (bEx (eOp leF (eOp ixF (eVar 8) (eC (.int 1))) (eVar 4))) (bEx (eOp isnF (eOp ixF (eVar 3) (eVar 7)) (eC .non))))
def m_earliest_days_l1 : SS :=
  (sPut setF (eVar 4) (eVar 3) (eVar 7))
def m_earliest_days_l2 : SS :=
  (sSeq (sIf (bEx (eOp (inG false) (eVar 4) (eVar 2)))
      (fun ds h => .ct ds h)
      sNext)
    (sSeq (sSet 5 (eCB sortF (aCons (eLc (iEnu (aCons (eVar 0) aNil)) (.t ((.n 7) :: ((.n 8) :: []))) [7, 8] m_earliest_days_t1 m_earliest_days_c1) aNil)))
    (sFor (iSeq (eSl slF (eVar 5) none (some (eVar 1)))) (.t ((.n 6) :: ((.n 7) :: [])))
      m_earliest_days_l1)))
/-- earliest_days: jobs 0, crews 1, closed 2, days 3, day 4, waiting 5, _ 6, at 7, job 8 -/
def m_earliest_days : Fn := runB 9
  (sSeq (sSet 3 (eOp mulC (eLst (aCons (eC .non) aNil)) (eCB lenF (aCons (eVar 0) aNil))))
  (sSeq (sFor (iRg1 (aCons (eOp addF (eC (.int 30)) (eC (.int 1))) aNil)) (.n 4)
    m_earliest_days_l2)
  (sRet (eCB tupleF (aCons (eVar 3) aNil)))))
/-- schedule: jobs 0, crews 1, closed 2, crowded 3 -/
def m_schedule : Fn := runB 4
  (sSeq (sDrop (eCall m_check_triples (aCons (eVar 0) aNil)))
  (sSeq (sDrop (eCall m_check_visits (aCons (eVar 0) (aCons (eVar 1) (aCons (eVar 2) (aCons (eC (.int 1)) aNil))))))
  (sSeq (sSet 3 (eCall m_crowded_days (aCons (eVar 0) (aCons (eVar 1) (aCons (eVar 2) aNil)))))
  (sSeq (sIf (bEx (eOp notnF (eVar 3) (eC .non)))
    (sRaise "Crowded" ["last", "first"] (aCons (eOp ixF (eVar 3) (eC (.int 0))) (aCons (eOp ixF (eVar 3) (eC (.int 1))) aNil)))
    sNext)
  (sRet (eCall m_earliest_days (aCons (eVar 0) (aCons (eVar 1) (aCons (eVar 2) aNil)))))))))
end Mp
/-! EdfA: the earliest last day first; a schedule exists exactly if no two days are crowded. -/
namespace Mp
/-! ### counting -/
def sumN (f : Nat → Nat) : Nat → Nat
  | 0 => 0
  | n + 1 => sumN f n + f n
def opn (C : List Int) (s : Int) : Nat → Nat
  | 0 => 0
  | n + 1 => opn C s n + if (s + n) ∈ C then 0 else 1
/-! ### jobs, days -/
abbrev Jb := Int × Int
abbrev Dy := List (Option Int)
def jA (J : List Jb) (k : Nat) : Int := (J.getD k (0, 0)).1
def jB (J : List Jb) (k : Nat) : Int := (J.getD k (0, 0)).2
def dyA (ds : Dy) (k : Nat) : Option Int := ds.getD k none
def wthn (J : List Jb) (f l : Int) : Nat := (J.filter fun j => decide (f ≤ j.1) && decide (j.2 ≤ l)).length
def rdyL (J : List Jb) (ds : Dy) (d : Int) : List (Int × Int) := ((List.range J.length).filter fun k => decide (dyA ds k = none) && decide (jA J k ≤ d)).map fun (k : Nat) => (jB J k, (k : Int))
def putS (d : Int) : List (Int × Int) → Dy → Dy
  | [], ds => ds
  | p :: ps, ds => putS d ps (ds.set p.2.toNat (some d))
def dyS (J : List Jb) (c : Nat) (C : List Int) (ds : Dy) (d : Int) : Dy := if d ∈ C then ds else putS d ((isort leP (rdyL J ds d)).take c) ds
def edfN (J : List Jb) (c : Nat) (C : List Int) : Nat → Dy
  | 0 => List.replicate J.length none
  | n + 1 => dyS J c C (edfN J c C n) n
def atD (ds : Dy) (d : Int) : List Nat := (List.range ds.length).filter fun k => decide (dyA ds k = some d)
structure EdI (J : List Jb) (c : Nat) (C : List Int) (n : Nat) (ds : Dy) : Prop where
  len : ds.length = J.length
  src : ∀ k d, dyA ds k = some d → k < J.length ∧ 0 ≤ d ∧ d < n ∧ d ∉ C ∧ jA J k ≤ d
  few : ∀ d, (atD ds d).length ≤ c
  full : ∀ (d : Int) (k : Nat), 0 ≤ d → d < n → d ∉ C → k < J.length → jA J k ≤ d → (∀ e, dyA ds k = some e → d < e) → (atD ds d).length = c ∧ ∀ i ∈ atD ds d, jB J i ≤ jB J k
def JOk (J : List Jb) : Prop := ∀ k, k < J.length → 0 ≤ jA J k ∧ jA J k ≤ jB J k ∧ jB J k ≤ 30
end Mp
/-! JobA: jobs, closed days: what is let. -/
namespace Mp
open PySem PySem.Spec PyProof.Rows L2
structure Jo where
  nm : Str
  a : Int
  b : Int
def joD (b : Bool) (z : Jo) : D := sqs b [.str z.nm, .int z.a, .int z.b]
def josD (b : Bool) (S : List Jo) : D := sqs b (S.map (joD b))
@[simp] theorem flat_joD (b : Bool) (z : Jo) : flat (joD b z) = true := flat_sqs b (by simp)
@[simp] theorem flat_josD (b : Bool) (S : List Jo) : flat (josD b S) = true := flat_sqs b (flatL_map _ (flat_joD b) S)
theorem jo_ix0 (b : Bool) (z : Jo) (h : Hc) : ixF (joD b z) (.int 0) h = .ok (.str z.nm) h := by unfold joD; rw [ix_sqs]; simp
theorem jo_ix1 (b : Bool) (z : Jo) (h : Hc) : ixF (joD b z) (.int 1) h = .ok (.int z.a) h := by unfold joD; rw [ix_sqs]; simp
theorem jo_ix2 (b : Bool) (z : Jo) (h : Hc) : ixF (joD b z) (.int 2) h = .ok (.int z.b) h := by unfold joD; rw [ix_sqs]; simp
structure YOk (z : Jo) : Prop where
  nm : Nm z.nm
  a0 : 0 ≤ z.a
  ab : z.a ≤ z.b
  b1 : z.b ≤ 30
structure YsOk (S : List Jo) : Prop where
  len : S.length ≤ 12
  ok : ∀ z ∈ S, YOk z
  nd : (S.map (·.nm)).Nodup
theorem is_triple_ok (b : Bool) {z : Jo} (O : YOk z) (h : Hc) : callL m_is_triple [joD b z] h = .ok (.bl true) h := by
  have e1 : ∀ h, callL m_is_row [joD b z, .int 3, .int 3] h = .ok (.bl true) h := fun h => is_row_xs b (xs := [.str z.nm, .int z.a, .int z.b]) (by simp) 3 3 h
  have e2 := fun h => is_name_ok O.nm h
  have i0 := fun h => jo_ix0 b z h
  have i1 := fun h => jo_ix1 b z h
  have i2 := fun h => jo_ix2 b z h
  have w1 := fun h => is_within_int z.a 0 30 h
  have w2 := fun h => is_within_int z.b z.a 30 h
  have := O.a0; have := O.ab; have := O.b1
  rw [decide_eq_true (show 0 ≤ z.a by omega), decide_eq_true (show z.a ≤ 30 by omega)] at w1
  rw [decide_eq_true (show z.a ≤ z.b by omega), decide_eq_true (show z.b ≤ 30 by omega)] at w2
  refine call_flat (h' := []) (by simp) ?_ (by simp) h
  unfold m_is_triple
  rw [runB_s]
  generalize joD b z = ZD at *
  simp [e1, e2, i0, i1, i2, w1, w2]
/-! ### all different names -/
theorem dinF_refS (neg : Bool) {n : Nat} {ks : List Key} {vs : List D} {w : Str} {h : Hc} (e : h[n]? = some (.dct ks vs)) : dinF neg (.str w) (.ref n) h = .ok (.bl (if neg then !hasK ks (.inr w) else hasK ks (.inr w))) h := by
  unfold dinF
  simp [dctD, keyD, e]
theorem putF_newS {n : Nat} {ks : List Key} {vs : List D} {w : Str} {x : D} {h : Hc} (e : h[n]? = some (.dct ks vs)) (hk : hasK ks (.inr w) = false) (hl : ks.length < 1000000) : putF (.ref n) (.str w) x h = some (h.set n (.dct (ks ++ [.inr w]) (vs ++ [x]))) := by
  show (match h[n]? with
    | some (.dct ks ds) => if ks.length < lim then some (h.set n (.dct (insD ks ds (.inr w) x).1 (insD ks ds (.inr w) x).2)) else none
    | _ => none) = _
  rw [e]
  simp only
  rw [if_pos (by rw [lim_eq]; exact hl)]
  have : insD ks vs (.inr w) x = (ks ++ [.inr w], vs ++ [x]) := by unfold insD; rw [hk]; rfl
  rw [this]
theorem diffS_loop (x0 : Option D) : ∀ (R P : List Str) (x2 : Option D), (P ++ R).Nodup → P.length + R.length ≤ 1000 → ∃ y2, fl (fun _ => true) (.n 2) m_all_different_l1 (R.map D.str) [x0, some (.ref 0), x2] [.dct (P.map Sum.inr) (P.map fun _ => .bl true)] =
    .nx [x0, some (.ref 0), y2] [.dct ((P ++ R).map Sum.inr) ((P ++ R).map fun _ => .bl true)]
  | [], P, x2, _, _ => ⟨x2, by simp; exact fl_end rfl⟩
  | w :: R, P, x2, nd, hl => by
    obtain ⟨y2, ih⟩ := diffS_loop x0 R (P ++ [w]) (some (.str w)) (by simpa using nd) (by simp at hl ⊢; omega)
    refine ⟨y2, ?_⟩
    have hk : hasK (P.map (Sum.inr : Str → Key)) (.inr w) = false := by
      rw [hasK_inr]
      refine decide_eq_false fun hm => ?_
      rw [List.nodup_append] at nd
      exact nd.2.2 w hm w (by simp) rfl
    have e0 : P ++ w :: R = P ++ [w] ++ R := by simp
    have d1 := dinF_refS false (n := 0) (ks := P.map Sum.inr) (vs := P.map fun _ => .bl true) (w := w) (h := [.dct (P.map Sum.inr) (P.map fun _ => .bl true)]) rfl
    rw [hk] at d1
    have pt := putF_newS (n := 0) (ks := P.map Sum.inr) (vs := P.map fun _ => .bl true) (w := w) (x := .bl true) (h := [.dct (P.map Sum.inr) (P.map fun _ => .bl true)]) rfl hk (by simp at hl ⊢; omega)
    rw [List.set_cons_zero] at pt
    have ek : (P ++ [w]).map (Sum.inr : Str → Key) = P.map Sum.inr ++ [.inr w] := by simp
    have ev : ((P ++ [w]).map fun _ => D.bl true) = (P.map fun _ => D.bl true) ++ [.bl true] := by simp
    rw [e0, List.map_cons]
    refine Eq.trans (fl_n (b := m_all_different_l1) ?_) ih
    rw [ek, ev]
    generalize P.map (Sum.inr : Str → Key) = KS at *
    generalize (P.map fun _ => D.bl true) = VS at *
    simp [m_all_different_l1, d1, pt]
theorem all_diffS_ok {R : List Str} (nd : R.Nodup) (hl : R.length ≤ 1000) (h : Hc) : callL m_all_different [.lst (R.map D.str)] h = .ok (.bl true) h := by
  obtain ⟨y2, e1⟩ := diffS_loop (some (.lst (R.map D.str))) R [] none (by simpa using nd) (by simpa using hl)
  refine call_flat (h' := [.dct (R.map Sum.inr) (R.map fun _ => .bl true)]) (by simp) ?_ (by simp) h
  simp only [List.map_nil, List.nil_append] at e1
  unfold m_all_different
  rw [runB_s]
  generalize R.map D.str = RD at *
  simp [eDct0, e1]
theorem are_triples_ok (b : Bool) {S : List Jo} (T : YsOk S) (h : Hc) : callL m_are_triples [josD b S] h = .ok (.bl true) h := by
  have hl := T.len
  have e1 : ∀ h, callL m_is_row [josD b S, .int 0, .int 12] h = .ok (.bl true) h := fun h => by
    have := is_row_xs b (xs := S.map (joD b)) (flatL_map _ (flat_joD b) S) 0 12 h
    rw [List.length_map, decide_eq_true (show (0 : Int) ≤ (S.length : Int) by omega), decide_eq_true (show (S.length : Int) ≤ 12 by omega)] at this
    exact this
  have e8 : ∀ h, seqD h (josD b S) = some (S.map (joD b)) := fun h => seqD_sqs b _ h
  have e9 : chkQ (josD b S) (S.map (joD b)) = fun _ => true := chkQ_sqs b _
  have c1 := lcR_mm (chk := fun _ => true) (p := .n 1) (own := [1]) (m := m_are_triples_c1) (ds := [some (josD b S), none]) (h := []) (joD b) (fun _ => .bl true) rfl S (by omega)
    (fun z hz => ⟨_, bindP_n .., by
      have := fun h => is_triple_ok b (T.ok z hz) h
      generalize joD b z = ZD at *
      simp [m_are_triples_c1, this]⟩)
  have c2 := lcR_mm (chk := fun _ => true) (p := .n 1) (own := [1]) (m := m_are_triples_c2) (ds := [some (josD b S), none]) (h := []) (joD b) (fun z => .str z.nm) rfl S (by omega)
    (fun z hz => ⟨_, bindP_n .., by
      have := fun h => jo_ix0 b z h
      generalize joD b z = ZD at *
      simp [m_are_triples_c2, this]⟩)
  have e2 : ∀ h, allF [.lst (S.map fun _ => D.bl true)] h = .ok (.bl true) h := fun h => by
    have := all_true' S h
    rw [List.map_map] at this
    exact this
  have e3 : ∀ h, callL m_all_different [.lst (S.map fun z => .str z.nm)] h = .ok (.bl true) h := fun h => by
    have := all_diffS_ok T.nd (by simp; omega) h
    rw [List.map_map] at this
    exact this
  refine call_flat (h' := []) (by simp) ?_ (by simp) h
  unfold m_are_triples
  rw [runB_s]
  generalize (S.map fun _ => D.bl true) = BL at *
  generalize (S.map fun z => D.str z.nm) = PL at *
  generalize S.map (joD b) = SL at *
  generalize josD b S = SD at *
  simp [e1, e8, e9, c1, c2, e2, e3]
theorem check_triples_ok (b : Bool) {S : List Jo} (T : YsOk S) (h : Hc) : callL m_check_triples [josD b S] h = .ok .non h := by
  have e1 := fun h => are_triples_ok b T h
  refine call_flat (h' := []) (by simp) ?_ (by simp) h
  unfold m_check_triples
  rw [runB_s]
  generalize josD b S = SD at *
  simp [e1]
structure COk (C : List Int) : Prop where
  len : C.length ≤ 31
  ok : ∀ x ∈ C, 0 ≤ x ∧ x ≤ 30
end Mp
/-! JobB: crowded days. -/
namespace Mp
open PySem PySem.Spec PyProof.Rows L2
def jb (S : List Jo) : List Jb := S.map fun z => (z.a, z.b)
theorem upFrom_cons (lo : Int) (n : Nat) : upFrom lo (n + 1) = D.int lo :: upFrom (lo + 1) n := by
  unfold upFrom
  rw [List.range_succ_eq_map, List.map_cons, List.map_map]
  congr 1
  · simp
  · refine List.map_congr_left fun i _ => ?_
    simp only [Function.comp]
    congr 1
    push_cast
    omega
def upI (lo : Int) (n : Nat) : List Int := (List.range n).map fun (i : Nat) => lo + (i : Int)
theorem any_ints (ws : List Int) (w : Int) : ((ws.map D.int).any fun y => eqS y (.int w)) = decide (w ∈ ws) := by
  induction ws with
  | nil => simp
  | cons x r ih =>
    rw [List.map_cons, List.any_cons, ih]
    have e1 : eqS (D.int x) (.int w) = decide (x = w) := rfl
    rw [e1]
    by_cases e : x = w
    · subst e; simp
    · have e' : ¬ w = x := fun z => e z.symm
      simp [e, e']
theorem all_ints (us : List Int) : (us.map D.int).all scalD = true := List.all_eq_true.mpr fun y hy => by
  obtain ⟨x, _, rfl⟩ := List.mem_map.mp hy
  rfl
theorem inG_ints (neg : Bool) (w : Int) {U : D} {us : List Int} {h : Hc} (e : seqD h U = some (us.map D.int)) : inG neg (.int w) U h = .ok (.bl (if neg then !decide (w ∈ us) else decide (w ∈ us))) h := by
  unfold inG
  split
  · rename_i a b e1
    cases e1
  · simp only [e]
    rw [if_pos ⟨rfl, all_ints us⟩, any_ints]
/-- the prefix of open days -/
def cnts (C : List Int) (n : Nat) : List Int := (List.range (n + 1)).map fun k => (opn C 0 k : Int)
/-! ### the first crowded pair -/
def crwIn (J : List Jb) (c : Nat) (C : List Int) (f : Int) : Nat → Int → Option (Int × Int)
  | 0, _ => none
  | n + 1, l => if c * opn C f (l - f + 1).toNat < wthn J f l then some (f, l) else crwIn J c C f n (l + 1)
def crwOut (J : List Jb) (c : Nat) (C : List Int) : Nat → Int → Option (Int × Int)
  | 0, _ => none
  | n + 1, f => match crwIn J c C f (31 - f).toNat f with
    | some p => some p
    | none => crwOut J c C n (f + 1)
def crw (J : List Jb) (c : Nat) (C : List Int) : Option (Int × Int) := crwOut J c C 31 0
def crwD : Option (Int × Int) → D
  | some p => .tup [.int p.1, .int p.2]
  | none => .non
end Mp
/-! JobC: crowded days, by the program and by the law. -/
namespace Mp
open PySem PySem.Spec PyProof.Rows L2
/-! ### the law's own -/
end Mp
/-! JobD: the schedule of the law. -/
namespace Mp
open PySem PySem.Spec PyProof.Rows L2
def ody : Option Int → D
  | some x => .int x
  | none => .non
def dysD (ds : Dy) : List D := ds.map ody
theorem jo_at (b : Bool) {S : List Jo} {k : Nat} (hk : k < S.length) (h : Hc) : ixF (josD b S) (.int (k : Int)) h = .ok (joD b S[k]) h := by
  unfold josD
  rw [ix_sqs, atI_of (by omega) (by rw [List.length_map]; omega)]
  simp [hk]
theorem jb_a {S : List Jo} {k : Nat} (hk : k < S.length) : jA (jb S) k = S[k].a := by
  unfold jA jb
  simp [List.getD, hk]
theorem jb_b {S : List Jo} {k : Nat} (hk : k < S.length) : jB (jb S) k = S[k].b := by
  unfold jB jb
  simp [List.getD, hk]
theorem sortX_prs (ps : List (Int × Int)) (h : Hc) : sortX h (.lst (ps.map pr2D)) = some ((isort leP ps).map pr2D) := by
  unfold sortX
  cases ps with
  | nil => rfl
  | cons p r =>
    have h1 : strsD ((p :: r).map pr2D) = none := rfl
    have h2 : intsD ((p :: r).map pr2D) = none := rfl
    simp only [rdlD, lstD, h1, h2, prs2D_map]
def inT (J : List Jb) (ds : Dy) (k : Nat) : Bool := match dyA ds k with
  | some e => decide (e ≤ jB J k)
  | none => false
def edf (J : List Jb) (c : Nat) (C : List Int) : Dy := edfN J c C 31
def inAll (J : List Jb) (ds : Dy) : Bool := (List.range J.length).all (inT J ds)
def schD (J : List Jb) (ds : Dy) : D := if inAll J ds = true then .tup (dysD ds) else .non
end Mp
/-! JobE: drawn jobs and closed days. -/
namespace Mp
open PySem PySem.Spec PyProof.Rows L2
section
variable {row : List Int} (hr : row ≠ [])
include hr
theorem pick_i {L : List Int} {lo hi' : Int} (hL : ∀ x ∈ L, lo ≤ x ∧ x ≤ hi') (hne : L ≠ []) {k : Int} {T : Hc} (hk : 0 ≤ k) : ∃ v k', v ∈ L ∧ (lo ≤ v ∧ v ≤ hi') ∧ 0 ≤ k' ∧ callL m_law_pick [.lst (row.map D.int), .ref 0, .lst (L.map D.int)] (.lst [.int k] :: T) = .ok (.int v) (.lst [.int k'] :: T) := by
  obtain ⟨v, k', hv, hk', e⟩ := pick_ex hr (xs := L.map D.int) (k := k) (i := 0) (h := .lst [.int k] :: T) (fun d hd => by
    obtain ⟨x, _, rfl⟩ := List.mem_map.mp hd; rfl) (by simpa using hne) rfl hk
  obtain ⟨x, hx, rfl⟩ := List.mem_map.mp hv
  simp only [List.set_cons_zero] at e
  exact ⟨x, k', hx, hL x hx, hk', e⟩
theorem jobs_loop {wide : Int} (w1 : 1 ≤ wide) (w2 : wide ≤ 28) (x2 : Option D) : ∀ (items : List D) (S : List Jo) (x6 x7 x8 : Option D) (k : Int), S.length + items.length ≤ 12 → 0 ≤ k → (∀ z ∈ S, YOk z) → (S.map (·.nm)).Nodup → ∃ (S' : List Jo) (y6 y7 y8 : Option D) (k' : Int), 0 ≤ k' ∧ (∀ z ∈ S', YOk z) ∧ (S'.map (·.nm)).Nodup ∧ S'.length = S.length + items.length ∧
    fl (fun _ => true) (.n 6) m_law_jobs_l1 items [some (.lst (row.map D.int)), some (.ref 0), x2, some (.int wide), some (.ref 1), some (.ref 2), x6, x7, x8] [.lst [.int k], .lst ((S.map (·.nm)).map D.str), .lst (S.map (joD false))] =
      .nx [some (.lst (row.map D.int)), some (.ref 0), x2, some (.int wide), some (.ref 1), some (.ref 2), y6, y7, y8] [.lst [.int k'], .lst ((S'.map (·.nm)).map D.str), .lst (S'.map (joD false))]
  | [], S, x6, x7, x8, k, hl, hk, hN, hn => ⟨S, x6, x7, x8, k, hk, hN, hn, by simp, fl_end rfl⟩
  | d :: r, S, x6, x7, x8, k, hl, hk, hN, hn => by
    obtain ⟨v1, k1, a1, b1, hk1, e1⟩ := take_ex hr (h := [.lst [.int k], .lst ((S.map (·.nm)).map D.str), .lst (S.map (joD false))]) (i := 0) (k := k) (l := wide) rfl hk (by omega)
    obtain ⟨v2, k2, _, ⟨a2, b2⟩, hk2, e2⟩ := pick_i hr (L := [0, 0, 1, 1, 2, 4, wide]) (lo := 0) (hi' := 28) (by intro x hx; simp at hx; omega) (by simp) (k := k1) (T := [.lst ((S.map (·.nm)).map D.str), .lst (S.map (joD false))]) hk1
    obtain ⟨w, k3, N, hw, hk3, e3⟩ := name_ex hr (used := S.map (·.nm)) (by simp at hl ⊢; omega) (h := [.lst [.int k2], .lst ((S.map (·.nm)).map D.str), .lst (S.map (joD false))]) (i := 0) (j := 1) (by decide) rfl rfl hk2
    simp only [List.set_cons_zero, List.set_cons_succ] at e1 e3
    have Z : YOk ⟨w, v1, if v1 + v2 < 30 then v1 + v2 else 30⟩ := ⟨N, a1, by show v1 ≤ if v1 + v2 < 30 then v1 + v2 else 30; split <;> omega, by show (if v1 + v2 < 30 then v1 + v2 else 30) ≤ 30; split <;> omega⟩
    obtain ⟨S', y6, y7, y8, k', hk', n1, n2, l', ih⟩ := jobs_loop w1 w2 x2 r (S ++ [⟨w, v1, if v1 + v2 < 30 then v1 + v2 else 30⟩]) (some d) (some (.int v1)) (some (.int (if v1 + v2 < 30 then v1 + v2 else 30))) k3 (by simp at hl ⊢; omega) hk3 (fun z hz => by
      rcases List.mem_append.mp hz with hz | hz
      · exact hN z hz
      · rw [List.mem_singleton.mp hz]; exact Z) (by
      rw [List.map_append, List.nodup_append]
      exact ⟨hn, by simp, fun a ha b hb => by
        have : b = w := by simpa using hb
        intro e; subst e; subst this; exact hw ha⟩)
    refine ⟨S', y6, y7, y8, k', hk', n1, n2, by simp at l' ⊢; omega, Eq.trans (fl_n (b := m_law_jobs_l1) ?_) ih⟩
    have hlS : (S.map (joD false)).length < 1000000 := by simp at hl ⊢; omega
    have f1 : ((S ++ [(⟨w, v1, if v1 + v2 < 30 then v1 + v2 else 30⟩ : Jo)]).map (·.nm)).map D.str = ((S.map (·.nm)) ++ [w]).map D.str := by simp
    have f2 : (S ++ [(⟨w, v1, if v1 + v2 < 30 then v1 + v2 else 30⟩ : Jo)]).map (joD false) = S.map (joD false) ++ [.tup [.str w, .int v1, .int (if v1 + v2 < 30 then v1 + v2 else 30)]] := by
      rw [List.map_append]
      rfl
    rw [f1, f2]
    simp only [List.map_cons, List.map_nil] at e2
    generalize ((S.map (·.nm)) ++ [w]).map D.str = UW at *
    generalize (S.map (·.nm)).map D.str = US at *
    generalize S.map (joD false) = SD at *
    generalize hV : (if v1 + v2 < 30 then v1 + v2 else 30) = V at *
    have kk := kindOk_list (n := 2) (xs := SD) (h := [.lst [.int k3], .lst UW, .lst SD]) rfl
    have ap := fun x => appF_ref (n := 2) (xs := SD) (d := x) (h := [.lst [.int k3], .lst UW, .lst SD]) rfl hlS
    have kk0 := kindOk_list (n := 2) (xs := SD) (h := [.lst [.int k2], .lst US, .lst SD]) rfl
    generalize row.map D.int = RD at *
    simp [m_law_jobs_l1, e1, e2, e3, kk, kk0, ap, hV]
theorem jobs_ex {many : Nat} (hm : many ≤ 12) {wide : Int} (w1 : 1 ≤ wide) (w2 : wide ≤ 28) {k : Int} {i : Nat} {h : Hc} (hi : h[i]? = some (.lst [.int k])) (hk : 0 ≤ k) : ∃ (S : List Jo) (k' : Int), YsOk S ∧ S.length = many ∧ 0 ≤ k' ∧
    callL m_law_jobs [.lst (row.map D.int), .ref i, .int (many : Int), .int wide] h = .ok (josD false S) (h.set i (.lst [.int k'])) := by
  obtain ⟨S, y6, y7, y8, k', hk', hN, hn, hl, e⟩ := jobs_loop hr w1 w2 (some (.int (many : Int))) (upFrom 0 many) [] none none none k (by rw [upFrom_len]; simpa using hm) hk (by simp) (by simp)
  rw [upFrom_len] at hl
  simp only [List.length_nil, Nat.zero_add] at hl
  have g1 : ∀ h, rg1F [.int (many : Int)] h = .ok ⟨upFrom 0 many, fun _ => true⟩ h := fun h => by
    rw [rg1F_int, if_pos (rgOk_nat (by omega)), Int.toNat_natCast]
  refine ⟨S, k', ⟨by omega, hN, hn⟩, hl, hk', call_spot (d0 := josD false S) (h' := [.lst [.int k'], .lst ((S.map (·.nm)).map D.str), .lst (S.map (joD false))]) (by simp) (by simp) hi ?_ rfl fun j => frzD_flat (by simp)⟩
  have es : josD false S = .tup (S.map (joD false)) := rfl
  rw [es]
  simp only [List.map_nil] at e
  unfold m_law_jobs
  rw [runB_s]
  generalize (S.map (·.nm)).map D.str = US at *
  generalize S.map (joD false) = SD at *
  generalize row.map D.int = RD at *
  generalize upFrom 0 many = UF at *
  simp [g1, e, tupleF, rdlD, lstD]
omit hr in
theorem fit_jos {S : List Jo} (hl : S.length ≤ 1000) : lsFit 24 (josD false S) = true ∧ lsdN 24 (josD false S) = josD true S := by
  have h1 : ∀ z : Jo, lsFit 23 (joD false z) = true ∧ lsdN 23 (joD false z) = joD true z := fun z => ⟨rfl, rfl⟩
  refine ⟨?_, ?_⟩
  · show (decide ((S.map (joD false)).length ≤ 1000000) && (S.map (joD false)).all (lsFit 23)) = true
    rw [List.length_map, decide_eq_true (show S.length ≤ 1000000 by omega), Bool.true_and, List.all_map]
    exact List.all_eq_true.mpr fun z _ => (h1 z).1
  · show D.lst ((S.map (joD false)).map (lsdN 23)) = D.lst (S.map (joD true))
    rw [List.map_map]
    exact congrArg D.lst (List.map_congr_left fun z _ => (h1 z).2)
theorem handed_jos {S : List Jo} (hl : S.length ≤ 1000) {k : Int} {i : Nat} {h : Hc} (hi : h[i]? = some (.lst [.int k])) (hk : 0 ≤ k) : ∃ (b : Bool) (k' : Int), 0 ≤ k' ∧ callL m_law_handed [.lst (row.map D.int), .ref i, josD false S] h = .ok (josD b S) (h.set i (.lst [.int k'])) := by
  obtain ⟨h1, h2⟩ := fit_jos hl
  obtain ⟨b, k', hk', e1⟩ := handed_gen hr h1 hi hk
  refine ⟨b, k', hk', ?_⟩
  rw [e1]
  cases b
  · rfl
  · simp only [if_true]
    exact congrArg (R.ok · _) h2
end
end Mp
/-! JobF: the schedule of the program. -/
namespace Mp
open PySem PySem.Spec PyProof.Rows L2
def jo0 : Jo := ⟨⟨#[]⟩, 0, 0⟩
theorem enum_range (b : Bool) (S : List Jo) : enumD 0 (S.map (joD b)) = (List.range S.length).map fun (k : Nat) => D.tup [.int (k : Int), joD b (S.getD k jo0)] := by
  apply List.ext_getElem?
  intro i
  rw [enumD_get, List.getElem?_map, List.getElem?_map, Option.map_map]
  by_cases h : i < S.length
  · simp [h, List.getD]
  · simp [h]
end Mp
/-! JobG: a schedule exactly where no two days are crowded; what is told. -/
namespace Mp
open PySem PySem.Spec PyProof.Rows L2
end Mp
namespace Mp
open PySem PySem.Spec PyProof.Rows L2
/-! ### the mirrors -/
/-- overlap: one 0, other 1 -/
def m_overlap : Fn := runB 2
  (sRet (eAnd (eOp leF (eOp ixF (eVar 0) (eC (.int 1))) (eOp ixF (eVar 1) (eC (.int 2)))) (eOp leF (eOp ixF (eVar 1) (eC (.int 1))) (eOp ixF (eVar 0) (eC (.int 2))))))
def m_free_hand_c1 : SE :=
  (eOp ixF (eVar 1) (eVar 5))
def m_free_hand_t1 : SB :=
  (bAnd (bEx (eOp notnF (eOp ixF (eVar 1) (eVar 5)) (eC .non))) (bTru (eCall m_overlap (aCons (eVar 6) (aCons (eOp ixF (eVar 0) (eVar 2)) aNil)))))
def m_free_hand_l1 : SS :=
  (sAug 4 addI (eC (.int 1)))
/-- free_hand: spans 0, numbers 1, at 2, busy 3, hand 4, k 5, span 6 -/
def m_free_hand : Fn := runB 7
  (sSeq (sSet 3 (eLc (iEnu (aCons (eVar 0) aNil)) (.t ((.n 5) :: ((.n 6) :: []))) [5, 6] m_free_hand_t1 m_free_hand_c1))
  (sSeq (sSet 4 (eC (.int 0)))
  (sSeq (wl (bEx (eOp (inG false) (eVar 4) (eVar 3)))
    m_free_hand_l1 100000)
  (sRet (eVar 4)))))
def m_hands_c1 : SE :=
  (eTup (aCons (eOp ixF (eVar 5) (eC (.int 1))) (aCons (eVar 3) aNil)))
def m_hands_l1 : SS :=
  (sPut setF (eCall m_free_hand (aCons (eVar 0) (aCons (eVar 1) (aCons (eVar 3) aNil)))) (eVar 1) (eVar 3))
def m_hands_c2 : SE :=
  (eOp addF (eVar 6) (eC (.int 1)))
/-- hands: spans 0, numbers 1, _ 2, at 3, count 4, span 5, number 6 -/
def m_hands : Fn := runB 7
  (sSeq (sDrop (eCall m_check_triples (aCons (eVar 0) aNil)))
  (sSeq (sSet 1 (eOp mulC (eLst (aCons (eC .non) aNil)) (eCB lenF (aCons (eVar 0) aNil))))
  (sSeq (sFor (iSeq (eCB sortF (aCons (eLc (iEnu (aCons (eVar 0) aNil)) (.t ((.n 3) :: ((.n 5) :: []))) [3, 5] (fun _ h => .ok true h) m_hands_c1) aNil))) (.t ((.n 2) :: ((.n 3) :: [])))
    m_hands_l1)
  (sSeq (sSet 4 (eOp mxdF (eLc (iSeq (eVar 1)) (.n 6) [6] (fun _ h => .ok true h) m_hands_c2) (eC (.int 0))))
  (sRet (eTup (aCons (eVar 4) (aCons (eCB tupleF (aCons (eVar 1) aNil)) aNil))))))))
def m_law_hands_c1 : SE :=
  (eTup (aCons (eOp ixF (eOp ixF (eVar 0) (eVar 4)) (eC (.int 1))) (aCons (eVar 4) aNil)))
def m_law_hands_c2 : SE :=
  (eC .non)
def m_law_hands_c3 : SE :=
  (eOp ixF (eVar 2) (eVar 8))
def m_law_hands_t1 : SB :=
  (bAnd (bEx (eOp notnF (eOp ixF (eVar 2) (eVar 8)) (eC .non))) (bAnd (bEx (eOp geF (eOp ixF (eOp ixF (eVar 0) (eVar 8)) (eC (.int 2))) (eOp ixF (eOp ixF (eVar 0) (eVar 4)) (eC (.int 1))))) (bEx (eOp leF (eOp ixF (eOp ixF (eVar 0) (eVar 8)) (eC (.int 1))) (eOp ixF (eOp ixF (eVar 0) (eVar 4)) (eC (.int 2)))))))
def m_law_hands_l1 : SS :=
  (sIf (bEx (eOp (inG true) (eVar 6) (eVar 5)))
        (sSeq (sPut setF (eVar 6) (eVar 2) (eVar 4))
        (fun ds h => .bk ds h))
        sNext)
def m_law_hands_l2 : SS :=
  (sSeq (sSet 4 (eOp ixF (eVar 3) (eC (.int 1))))
    (sSeq (sSet 5 (eLc (iRg1 (aCons (eCB lenF (aCons (eVar 0) aNil)) aNil)) (.n 8) [8] m_law_hands_t1 m_law_hands_c3))
    (sFor (iRg1 (aCons (eC (.int 13)) aNil)) (.n 6)
      m_law_hands_l1)))
/-- _law_hands: spans 0, order 1, made 2, pair 3, k 4, busy 5, hand 6, span 7, j 8 -/
def m_law_hands : Fn := runB 9
  (sSeq (sSet 1 (eCB sortF (aCons (eLc (iRg1 (aCons (eCB lenF (aCons (eVar 0) aNil)) aNil)) (.n 4) [4] (fun _ h => .ok true h) m_law_hands_c1) aNil)))
  (sSeq (sSet 2 (eLcC (iSeq (eVar 0)) (.n 7) [7] (fun _ h => .ok true h) m_law_hands_c2))
  (sSeq (sFor (iSeq (eVar 1)) (.n 3)
    m_law_hands_l2)
  (sRet (eTup (aCons (eIf (bEx (eOp gtF (eCB lenF (aCons (eVar 2) aNil)) (eC (.int 0)))) (eOp addF (eCB maxF (aCons (eVar 2) aNil)) (eC (.int 1))) (eC (.int 0))) (aCons (eCB tupleF (aCons (eVar 2) aNil)) aNil)))))))
def m_law_p1 : SS :=
  (sSet 1 (eCall m_law_numbers (aCons (eVar 0) aNil)))
def m_law_p2 : SS :=
  (sSet 2 (eCell (aCons (eC (.int 0)) aNil)))
def m_law_p3 : SS :=
  (sSet 3 (eCall m_law_jobs (aCons (eVar 1) (aCons (eVar 2) (aCons (eCall m_law_take (aCons (eVar 1) (aCons (eVar 2) (aCons (eC (.int 13)) aNil)))) (aCons (eCall m_law_pick (aCons (eVar 1) (aCons (eVar 2) (aCons (eLst (aCons (eC (.int 2)) (aCons (eC (.int 5)) (aCons (eC (.int 12)) (aCons (eC (.int 28)) aNil))))) aNil)))) aNil))))))
def m_law_p4 : SS :=
  (sSet 4 (eCall m_hands (aCons (eCall m_law_handed (aCons (eVar 1) (aCons (eVar 2) (aCons (eVar 3) aNil)))) aNil)))
def m_law_p5 : SS :=
  (sIf (bNot (bTru (eCall (m_law_so 24) (aCons (eVar 4) (aCons (eCall m_law_hands (aCons (eVar 3) aNil)) aNil)))))
    (sRet (eC (.bl false)))
    sNext)
def m_law_l1 : SS :=
  (sIf (bAnd (bEx (eOp geF (eOp ixF (eOp ixF (eVar 3) (eVar 6)) (eC (.int 2))) (eOp ixF (eOp ixF (eVar 3) (eVar 5)) (eC (.int 1))))) (bAnd (bEx (eOp leF (eOp ixF (eOp ixF (eVar 3) (eVar 6)) (eC (.int 1))) (eOp ixF (eOp ixF (eVar 3) (eVar 5)) (eC (.int 2))))) (bEx (eOp eqF (eOp ixF (eOp ixF (eVar 4) (eC (.int 1))) (eVar 6)) (eOp ixF (eOp ixF (eVar 4) (eC (.int 1))) (eVar 5))))))
        (sRet (eC (.bl false)))
        sNext)
def m_law_l2 : SS :=
  (sFor (iRg1 (aCons (eVar 5) aNil)) (.n 6)
      m_law_l1)
def m_law_p6 : SS :=
  (sFor (iRg1 (aCons (eCB lenF (aCons (eVar 3) aNil)) aNil)) (.n 5)
    m_law_l2)
def m_law_p7 : SS :=
  (sSet 7 (eC (.int 0)))
def m_law_c1 : SE :=
  (eVar 9)
def m_law_t1 : SB :=
  (bAnd (bEx (eOp leF (eOp ixF (eVar 9) (eC (.int 1))) (eVar 8))) (bEx (eOp leF (eVar 8) (eOp ixF (eVar 9) (eC (.int 2))))))
def m_law_l3 : SS :=
  (sSet 7 (eCB maxF (aCons (eVar 7) (aCons (eCB lenF (aCons (eLc (iSeq (eVar 3)) (.n 9) [9] m_law_t1 m_law_c1) aNil)) aNil))))
def m_law_p8 : SS :=
  (sFor (iRg1 (aCons (eC (.int 31)) aNil)) (.n 8)
    m_law_l3)
def m_law_p9 : SS :=
  (sRet (eOp eqF (eOp ixF (eVar 4) (eC (.int 0))) (eVar 7)))
/-- law: script 0, row 1, spot 2, spans 3, found 4, k 5, j 6, most 7, day 8, span 9 -/
def m_law : Fn := runB 10
  (sSeq m_law_p1
  (sSeq m_law_p2
  (sSeq m_law_p3
  (sSeq m_law_p4
  (sSeq m_law_p5
  (sSeq m_law_p6
  (sSeq m_law_p7
  (sSeq m_law_p8
  m_law_p9))))))))
end Mp
/-! K60A: hands of spans, in plain Lean: the first free hand, span by span, needs no more hands than the most crowded day. -/
namespace Mp
theorem nd_sub : ∀ (l m : List Nat), l.Nodup → (∀ x ∈ l, x ∈ m) → l.length ≤ m.length
  | [], m, _, _ => Nat.zero_le _
  | x :: r, m, h, s => by
    have hx : x ∈ m := s x (List.mem_cons_self ..)
    have h2 := List.nodup_cons.mp h
    have e := nd_sub r (m.erase x) h2.2 (fun y hy => by
      have hne : y ≠ x := fun e => h2.1 (e ▸ hy)
      exact (List.mem_erase_of_ne hne).mpr (s y (List.mem_cons_of_mem _ hy)))
    have e2 := List.length_erase_of_mem hx
    have e3 : 0 < m.length := List.length_pos_of_mem hx
    simp only [List.length_cons]
    omega
abbrev Hd := List (Option Nat)
def hA (m : Hd) (i : Nat) : Option Nat := m.getD i none
/-- the least number from h on that is not in l, at most f tried -/
def fr (l : List Nat) : Nat → Nat → Nat
  | 0, h => h
  | f + 1, h => if l.contains h then fr l f (h + 1) else h
def frH (l : List Nat) : Nat := fr l 13 0
theorem fr_ge (l : List Nat) : ∀ f h, h ≤ fr l f h
  | 0, h => Nat.le_refl _
  | f + 1, h => by
    unfold fr
    split
    · exact Nat.le_trans (Nat.le_succ h) (fr_ge l f (h + 1))
    · exact Nat.le_refl _
theorem fr_lo (l : List Nat) : ∀ f h x, h ≤ x → x < fr l f h → x ∈ l
  | 0, h, x, h1, h2 => by
    unfold fr at h2
    omega
  | f + 1, h, x, h1, h2 => by
    unfold fr at h2
    split at h2
    · rename_i hc
      rcases Nat.eq_or_lt_of_le h1 with e | e
      · subst e
        simpa using hc
      · exact fr_lo l f (h + 1) x e h2
    · omega
theorem fr_not (l : List Nat) : ∀ f h, fr l f h < h + f → fr l f h ∉ l
  | 0, h, h1 => by
    have := fr_ge l 0 h
    omega
  | f + 1, h, h1 => by
    unfold fr at h1 ⊢
    split
    · rename_i hc
      rw [if_pos hc] at h1
      exact fr_not l f (h + 1) (by omega)
    · rename_i hc
      simpa using hc
theorem frH_len (l : List Nat) : frH l ≤ l.length := by
  have e := nd_sub (List.range (frH l)) l List.nodup_range (fun x hx => fr_lo l 13 0 x (Nat.zero_le _) (List.mem_range.mp hx))
  simpa using e
theorem frH_not (l : List Nat) (h : l.length ≤ 12) : frH l ∉ l := by
  have e := frH_len l
  exact fr_not l 13 0 (by unfold frH at e; omega)
theorem frH_lo (l : List Nat) (x : Nat) (h : x < frH l) : x ∈ l := fr_lo l 13 0 x (Nat.zero_le _) h

section
variable (a b : Nat → Int) (n : Nat)
def ovB (i j : Nat) : Bool := decide (a i ≤ b j) && decide (a j ≤ b i)
def bsT (m : Hd) (k j : Nat) : Bool := (hA m j).isSome && ovB a b j k
def bsy (m : Hd) (k : Nat) : List Nat := ((List.range n).filter (bsT a b m k)).map fun j => (hA m j).getD 0
def stpH (m : Hd) (k : Nat) : Hd := m.set k (some (frH (bsy a b n m k)))
def runH (m : Hd) (ks : List Nat) : Hd := ks.foldl (stpH a b n) m
structure HI (m : Hd) (ks : List Nat) : Prop where
  len : m.length = n
  dom : ∀ j, j < n → ((hA m j).isSome = true ↔ j ∈ ks)
  dif : ∀ i j x y, i < n → j < n → i ≠ j → hA m i = some x → hA m j = some y → ovB a b i j = true → x ≠ y
  low : ∀ k x, k < n → hA m k = some x → ∀ y, y < x → ∃ j, j < n ∧ hA m j = some y ∧ a j ≤ a k ∧ a k ≤ b j
  top : ∀ k x, k < n → hA m k = some x → x ≤ n
theorem hA_set {m : Hd} {k j : Nat} {v : Option Nat} (hk : k < m.length) : hA (m.set k v) j = if j = k then v else hA m j := by
  unfold hA
  rw [List.getD_eq_getElem?_getD, List.getElem?_set]
  by_cases e : k = j
  · subst e
    simp [hk]
  · have e2 : ¬ j = k := fun h => e h.symm
    rw [if_neg e, if_neg e2, List.getD_eq_getElem?_getD]
theorem bsy_len (m : Hd) (k : Nat) : (bsy a b n m k).length ≤ n := by
  unfold bsy
  rw [List.length_map]
  exact Nat.le_trans (List.length_filter_le ..) (by simp)
theorem ovB_comm (i j : Nat) : ovB a b i j = ovB a b j i := by
  unfold ovB
  exact Bool.and_comm ..
theorem mem_bsy {m : Hd} {k x : Nat} : x ∈ bsy a b n m k ↔ ∃ j, j < n ∧ hA m j = some x ∧ ovB a b j k = true := by
  unfold bsy
  rw [List.mem_map]
  constructor
  · rintro ⟨j, hj, e⟩
    have ⟨h1, h2⟩ := List.mem_filter.mp hj
    unfold bsT at h2
    cases h : hA m j with
    | none => simp [h] at h2
    | some y =>
      rw [h] at e h2
      simp at e h2
      subst e
      exact ⟨j, List.mem_range.mp h1, h, h2⟩
  · rintro ⟨j, h1, h2, h3⟩
    refine ⟨j, List.mem_filter.mpr ⟨List.mem_range.mpr h1, ?_⟩, by rw [h2]; rfl⟩
    unfold bsT
    rw [h2, h3]
    rfl
theorem HI_stp {m : Hd} {ks : List Nat} (hi : HI a b n m ks) (hn : n ≤ 12) {k : Nat} (hk : k < n) (hnk : k ∉ ks) (hab : a k ≤ b k)
    (hle : ∀ j ∈ ks, a j ≤ a k) : HI a b n (stpH a b n m k) (ks ++ [k]) := by
  have hkl : k < m.length := by rw [hi.len]; exact hk
  have hf := frH_not (bsy a b n m k) (Nat.le_trans (bsy_len a b n m k) hn)
  have hfl := frH_lo (bsy a b n m k)
  have hft : frH (bsy a b n m k) ≤ n := Nat.le_trans (frH_len _) (bsy_len a b n m k)
  have hnone : hA m k = none := by
    cases h : hA m k with
    | none => rfl
    | some y => exact absurd ((hi.dom k hk).mp (by rw [h]; rfl)) hnk
  unfold stpH
  generalize frH (bsy a b n m k) = v at hf hfl hft ⊢
  refine ⟨by rw [List.length_set, hi.len], ?_, ?_, ?_, ?_⟩
  · intro j hj
    rw [hA_set hkl]
    by_cases e : j = k
    · subst e
      simp
    · rw [if_neg e, hi.dom j hj]
      simp [e]
  · intro i j x y h1 h2 h3 h4 h5 h6
    rw [hA_set hkl] at h4 h5
    by_cases e1 : i = k
    · have e2 : ¬ j = k := fun h => h3 (e1.trans h.symm)
      rw [if_pos e1] at h4
      rw [if_neg e2] at h5
      have h4' := Option.some.inj h4
      subst h4' e1
      intro e
      subst e
      exact hf ((mem_bsy a b n).mpr ⟨j, h2, h5, by rw [ovB_comm]; exact h6⟩)
    · by_cases e2 : j = k
      · rw [if_neg e1] at h4
        rw [if_pos e2] at h5
        have h5' := Option.some.inj h5
        subst h5' e2
        intro e
        subst e
        exact hf ((mem_bsy a b n).mpr ⟨i, h1, h4, h6⟩)
      · rw [if_neg e1] at h4
        rw [if_neg e2] at h5
        exact hi.dif i j x y h1 h2 h3 h4 h5 h6
  · intro q x hq h1 y hy
    rw [hA_set hkl] at h1
    by_cases e1 : q = k
    · rw [if_pos e1] at h1
      have h1' := Option.some.inj h1
      subst h1' e1
      obtain ⟨j, hj, h2, h3⟩ := (mem_bsy a b n).mp (hfl y hy)
      refine ⟨j, hj, ?_, ?_, ?_⟩
      · rw [hA_set hkl, if_neg]
        · exact h2
        · intro e
          subst e
          rw [hnone] at h2
          cases h2
      · exact hle j ((hi.dom j hj).mp (by rw [h2]; rfl))
      · unfold ovB at h3
        simp at h3
        exact h3.2
    · rw [if_neg e1] at h1
      obtain ⟨j, hj, h2, h3⟩ := hi.low q x hq h1 y hy
      refine ⟨j, hj, ?_, h3⟩
      rw [hA_set hkl, if_neg]
      · exact h2
      · intro e
        subst e
        rw [hnone] at h2
        cases h2
  · intro q x hq h1
    rw [hA_set hkl] at h1
    by_cases e1 : q = k
    · rw [if_pos e1] at h1
      have h1' := Option.some.inj h1
      omega
    · rw [if_neg e1] at h1
      exact hi.top q x hq h1
theorem HI0 : HI a b n (List.replicate n none) [] := by
  have h0 : ∀ j, hA (List.replicate n none) j = none := by
    intro j
    unfold hA
    rw [List.getD_eq_getElem?_getD, List.getElem?_replicate]
    split <;> rfl
  refine ⟨List.length_replicate .., ?_, ?_, ?_, ?_⟩
  · intro j hj
    rw [h0]
    simp
  · intro i j x y h1 h2 h3 h4
    rw [h0] at h4
    cases h4
  · intro q x hq h1
    rw [h0] at h1
    cases h1
  · intro q x hq h1
    rw [h0] at h1
    cases h1
theorem run_HI (hn : n ≤ 12) (hab : ∀ k, k < n → a k ≤ b k) : ∀ (ks ds : List Nat) (m : Hd), HI a b n m ds → (∀ k ∈ ks, k < n) → (ds ++ ks).Nodup →
    (ds ++ ks).Pairwise (fun i j => a i ≤ a j) → HI a b n (runH a b n m ks) (ds ++ ks)
  | [], ds, m, h, _, _, _ => by
    rw [List.append_nil]
    exact h
  | k :: r, ds, m, h, hk, hnd, hp => by
    have hk' := hk k (List.mem_cons_self ..)
    have e : ds ++ k :: r = (ds ++ [k]) ++ r := by simp
    have hnk : k ∉ ds := by
      intro hm
      have := (List.nodup_append.mp hnd).2.2 k hm k (List.mem_cons_self ..)
      exact this rfl
    have hle : ∀ j ∈ ds, a j ≤ a k := fun j hj => (List.pairwise_append.mp hp).2.2 j hj k (List.mem_cons_self ..)
    have h2 := HI_stp a b n h hn hk' hnk (hab k hk') hle
    rw [e] at hnd hp ⊢
    exact run_HI hn hab r (ds ++ [k]) _ h2 (fun j hj => hk j (List.mem_cons_of_mem _ hj)) hnd hp
def cntH (m : Hd) : Nat := (m.map fun o => match o with | some h => h + 1 | none => 0).foldl max 0
def cov (d : Int) : Nat := ((List.range n).filter fun j => decide (a j ≤ d) && decide (d ≤ b j)).length
theorem fmax_ge : ∀ (l : List Nat) (z : Nat), z ≤ l.foldl max z ∧ ∀ x ∈ l, x ≤ l.foldl max z
  | [], z => ⟨Nat.le_refl _, fun x h => by cases h⟩
  | y :: r, z => by
    have ⟨h1, h2⟩ := fmax_ge r (max z y)
    rw [List.foldl_cons]
    refine ⟨Nat.le_trans (Nat.le_max_left ..) h1, fun x hx => ?_⟩
    rcases List.mem_cons.mp hx with e | e
    · subst e
      exact Nat.le_trans (Nat.le_max_right ..) h1
    · exact h2 x e
theorem fmax_mem : ∀ (l : List Nat) (z : Nat), l.foldl max z = z ∨ l.foldl max z ∈ l
  | [], z => Or.inl rfl
  | y :: r, z => by
    rw [List.foldl_cons]
    rcases fmax_mem r (max z y) with e | e
    · rcases Nat.le_total z y with h | h
      · right
        rw [e, Nat.max_eq_right h]
        exact List.mem_cons_self ..
      · left
        rw [e, Nat.max_eq_left h]
    · exact Or.inr (List.mem_cons_of_mem _ e)
theorem hA_lt {m : Hd} {k x : Nat} (h : hA m k = some x) : ∃ hk : k < m.length, m[k] = some x := by
  unfold hA at h
  rw [List.getD_eq_getElem?_getD] at h
  by_cases hk : k < m.length
  · refine ⟨hk, ?_⟩
    rw [List.getElem?_eq_getElem hk] at h
    exact h
  · rw [List.getElem?_eq_none (by omega)] at h
    cases h
theorem cnt_lt {m : Hd} {k x : Nat} (h : hA m k = some x) : x < cntH m := by
  obtain ⟨hk, e⟩ := hA_lt h
  have h2 := (fmax_ge (m.map fun o => match o with | some h => h + 1 | none => 0) 0).2 (x + 1)
    (List.mem_map.mpr ⟨some x, e ▸ List.getElem_mem hk, rfl⟩)
  exact h2
theorem cov_le {m : Hd} {ks : List Nat} (hi : HI a b n m ks) (hall : ∀ k, k < n → k ∈ ks) (d : Int) : cov a b n d ≤ cntH m := by
  have hs : ∀ j, j < n → ∃ x, hA m j = some x := fun j hj => Option.isSome_iff_exists.mp ((hi.dom j hj).mpr (hall j hj))
  have e := nd_sub (((List.range n).filter fun j => decide (a j ≤ d) && decide (d ≤ b j)).map fun j => (hA m j).getD 0) (List.range (cntH m)) ?_ ?_
  · rw [List.length_map, List.length_range] at e
    exact e
  · unfold List.Nodup
    rw [List.pairwise_map]
    refine List.Pairwise.imp_of_mem ?_ (List.Pairwise.filter _ List.pairwise_lt_range)
    intro i j hi1 hj1 hlt
    have ⟨hi2, hi3⟩ := List.mem_filter.mp hi1
    have ⟨hj2, hj3⟩ := List.mem_filter.mp hj1
    have hi4 := List.mem_range.mp hi2
    have hj4 := List.mem_range.mp hj2
    obtain ⟨x, hx⟩ := hs i hi4
    obtain ⟨y, hy⟩ := hs j hj4
    rw [hx, hy]
    simp at hi3 hj3
    exact hi.dif i j x y hi4 hj4 (by omega) hx hy (by unfold ovB; simp; omega)
  · intro x hx
    obtain ⟨j, hj, e⟩ := List.mem_map.mp hx
    have ⟨hj2, hj3⟩ := List.mem_filter.mp hj
    obtain ⟨y, hy⟩ := hs j (List.mem_range.mp hj2)
    rw [hy] at e
    simp at e
    subst e
    exact List.mem_range.mpr (cnt_lt hy)
theorem cov_ge {m : Hd} {ks : List Nat} (hi : HI a b n m ks) (hab : ∀ k, k < n → a k ≤ b k) : cntH m = 0 ∨ ∃ k, k < n ∧ cntH m ≤ cov a b n (a k) := by
  rcases fmax_mem (m.map fun o => match o with | some h => h + 1 | none => 0) 0 with e | e
  · exact Or.inl e
  · by_cases h0 : cntH m = 0
    · exact Or.inl h0
    right
    obtain ⟨o, ho, e2⟩ := List.mem_map.mp e
    cases o with
    | none =>
      exfalso
      apply h0
      unfold cntH
      rw [← e2]
    | some x =>
      obtain ⟨k, hk, e3⟩ := List.getElem_of_mem ho
      have hkn : k < n := by rw [← hi.len]; exact hk
      have e4 : hA m k = some x := by
        unfold hA
        rw [List.getD_eq_getElem?_getD, List.getElem?_eq_getElem hk, e3]
        rfl
      have ec : cntH m = x + 1 := e2.symm
      refine ⟨k, hkn, ?_⟩
      have e5 := nd_sub (List.range (cntH m)) (((List.range n).filter fun j => decide (a j ≤ a k) && decide (a k ≤ b j)).map fun j => (hA m j).getD 0) List.nodup_range ?_
      · rw [List.length_map, List.length_range] at e5
        exact e5
      · intro y hy
        have hy' := List.mem_range.mp hy
        rw [ec] at hy'
        rcases Nat.eq_or_lt_of_le (Nat.le_of_lt_succ hy') with h | h
        · subst h
          exact List.mem_map.mpr ⟨k, List.mem_filter.mpr ⟨List.mem_range.mpr hkn, by simp [hab k hkn]⟩, by rw [e4]; rfl⟩
        · obtain ⟨j, hj, h1, h2, h3⟩ := hi.low k x hkn e4 y h
          exact List.mem_map.mpr ⟨j, List.mem_filter.mpr ⟨List.mem_range.mpr hj, by simp [h2, h3]⟩, by rw [h1]; rfl⟩
end
end Mp
/-! K60B: hands by the program and by the law. -/
namespace Mp
open PySem PySem.Spec PyProof.Rows L2
def ohD : Option Nat → D
  | some h => .int (h : Int)
  | none => .non
@[simp] theorem flat_ohD (o : Option Nat) : flat (ohD o) = true := by cases o <;> rfl
def hdD (m : Hd) : List D := m.map ohD
theorem flat_hdD (m : Hd) : flatL (hdD m) = true := flatL_map _ flat_ohD _
theorem hd_len (m : Hd) : (hdD m).length = m.length := by unfold hdD; rw [List.length_map]
theorem hd_at {m : Hd} {k : Nat} (hk : k < m.length) : atI (hdD m) (k : Int) = some (ohD (hA m k)) := by
  rw [atI_of (by omega) (by rw [hd_len]; omega)]
  unfold hdD hA
  simp [List.getD, hk]
theorem hd_set (m : Hd) (k : Nat) (x : Nat) : hdD (m.set k (some x)) = (hdD m).set k (.int (x : Int)) := by
  unfold hdD
  rw [List.map_set]
  rfl
abbrev aJ (S : List Jo) : Nat → Int := jA (jb S)
abbrev bJ (S : List Jo) : Nat → Int := jB (jb S)
theorem overlap_ok (b : Bool) (z w : Jo) (h : Hc) : callL m_overlap [joD b z, joD b w] h = .ok (.bl (decide (z.a ≤ w.b) && decide (w.a ≤ z.b))) h := by
  have i1 := fun h => jo_ix1 b z h
  have i2 := fun h => jo_ix2 b z h
  have j1 := fun h => jo_ix1 b w h
  have j2 := fun h => jo_ix2 b w h
  refine call_flat (h' := []) (by simp) ?_ (by simp) h
  unfold m_overlap
  rw [runB_s]
  generalize joD b z = ZD at *
  generalize joD b w = WD at *
  by_cases q1 : z.a ≤ w.b <;> by_cases q2 : w.a ≤ z.b <;> simp [i1, i2, j1, j2, q1, q2]
theorem bsy_D (a b : Nat → Int) (n : Nat) (m : Hd) (k : Nat) : ((List.range n).filter (bsT a b m k)).map (fun j => ohD (hA m j)) = ((bsy a b n m k).map fun (x : Nat) => (x : Int)).map D.int := by
  unfold bsy
  rw [List.map_map, List.map_map]
  refine List.map_congr_left fun j hj => ?_
  have h2 := (List.mem_filter.mp hj).2
  unfold bsT at h2
  cases h : hA m j with
  | none => rw [h] at h2; simp at h2
  | some y => simp [Function.comp, ohD, h]
theorem mem_castN (l : List Nat) (h : Nat) : decide ((h : Int) ∈ l.map fun (x : Nat) => (x : Int)) = l.contains h := by
  rw [Bool.eq_iff_iff]
  simp only [decide_eq_true_eq, List.mem_map, List.contains_iff_mem]
  constructor
  · rintro ⟨a, ha, e⟩
    have : a = h := by omega
    exact this ▸ ha
  · intro hh
    exact ⟨h, hh, rfl⟩
abbrev cI (l : List Nat) : List Int := l.map fun (x : Nat) => (x : Int)
theorem fh_loop (x0 x1 x2 x5 x6 : Option D) (l : List Nat) (hh : Hc) : ∀ (f h fuel : Nat), fr l f h ∉ l → f < fuel →
    wl (bEx (eOp (inG false) (eVar 4) (eVar 3))) m_free_hand_l1 fuel [x0, x1, x2, some (.lst ((cI l).map D.int)), some (.int (h : Int)), x5, x6] hh = .nx [x0, x1, x2, some (.lst ((cI l).map D.int)), some (.int ((fr l f h : Nat) : Int)), x5, x6] hh := by
  intro f
  induction f with
  | zero =>
    intro h fuel hn hf
    obtain ⟨m, rfl⟩ : ∃ m, fuel = m + 1 := ⟨fuel - 1, by omega⟩
    have e := inG_ints false (h : Int) (U := .lst ((cI l).map D.int)) (us := cI l) (h := hh) rfl
    rw [mem_castN] at e
    have hc : l.contains h = false := by
      have : h ∉ l := hn
      simpa using this
    rw [hc] at e
    show _ = O.nx [x0, x1, x2, some (.lst ((cI l).map D.int)), some (.int (h : Int)), x5, x6] hh
    refine wl_stop (h1 := hh) ?_
    generalize (cI l).map D.int = LD at *
    simp [e]
  | succ f ih =>
    intro h fuel hn hf
    obtain ⟨m, rfl⟩ : ∃ m, fuel = m + 1 := ⟨fuel - 1, by omega⟩
    have e := inG_ints false (h : Int) (U := .lst ((cI l).map D.int)) (us := cI l) (h := hh) rfl
    rw [mem_castN] at e
    unfold fr at hn ⊢
    by_cases hc : l.contains h = true
    · rw [if_pos hc] at hn ⊢
      rw [hc] at e
      have i2 := ih (h + 1) m hn (by omega)
      have ep : ((h + 1 : Nat) : Int) = (h : Int) + 1 := by push_cast; rfl
      rw [ep] at i2
      refine (wl_nx (h1 := hh) ?_ ?_).trans i2
      · generalize (cI l).map D.int = LD at *
        simp [e]
      · generalize (cI l).map D.int = LD at *
        simp [m_free_hand_l1]
    · rw [if_neg hc] at hn ⊢
      have hc' : l.contains h = false := by simpa using hc
      rw [hc'] at e
      refine wl_stop (h1 := hh) ?_
      generalize (cI l).map D.int = LD at *
      simp [e]
theorem fh_busy (b : Bool) {S : List Jo} (hl : S.length ≤ 1000) {m : Hd} (hm : m.length = S.length) {k : Nat} (hk : k < S.length) (x3 x4 x5 x6 : Option D) :
    lcR (fun _ => true) (.t ((.n 5) :: ((.n 6) :: []))) [5, 6] m_free_hand_t1 m_free_hand_c1 [some (josD b S), some (.ref 0), some (.int (k : Int)), x3, x4, x5, x6] (enumD 0 (S.map (joD b))) [] [.lst (hdD m)] =
      .ok ((cI (bsy (aJ S) (bJ S) S.length m k)).map D.int) [.lst (hdD m)] := by
  have c := lcR_fm (chk := fun _ => true) (p := .t ((.n 5) :: ((.n 6) :: []))) (own := [5, 6]) (c := m_free_hand_t1) (m := m_free_hand_c1) (ds := [some (josD b S), some (.ref 0), some (.int (k : Int)), x3, x4, x5, x6]) (h := [.lst (hdD m)])
    (fun (j : Nat) => D.tup [.int (j : Int), joD b (S.getD j jo0)]) (bsT (aJ S) (bJ S) m k) (fun j => ohD (hA m j)) rfl (List.range S.length) [] (by simp; omega)
    (fun j hj => by
      have hj' : j < S.length := List.mem_range.mp hj
      have g := hd_at (m := m) (k := j) (by omega)
      have ix := ixF_ref (n := 0) (i := (j : Int)) (xs := hdD m) (h := [.lst (hdD m)]) rfl
      rw [g] at ix
      have eg : S.getD j jo0 = S[j] := by simp [List.getD, hj']
      rw [eg]
      have i0 := fun h => jo_at b hk h
      have ov := fun h => overlap_ok b S[j] S[k] h
      rw [← jb_a hk, ← jb_a hj', ← jb_b hk, ← jb_b hj'] at ov
      generalize joD b S[j] = ZD at *
      generalize joD b S[k] = WD at *
      generalize josD b S = SD at *
      generalize hdD m = DD at *
      unfold bsT ovB
      refine ⟨[some SD, some (.ref 0), some (.int (k : Int)), x3, x4, some (.int (j : Int)), some ZD], by simp [wipeD], ?_, fun _ => by simp [m_free_hand_c1, ix]⟩
      cases q : hA m j with
      | none =>
        rw [q] at ix
        simp [m_free_hand_t1, ix, ohD]
      | some e =>
        rw [q] at ix
        simp [m_free_hand_t1, ix, ohD, i0, ov])
  rw [enum_range, c, List.nil_append, bsy_D]
theorem ren_jos (b : Bool) (S : List Jo) (j : Nat) : renD [j] (josD b S) = some (josD b S) := by
  have h := flat_josD b S
  unfold josD at h ⊢
  cases b <;> simp [sqs, renD] at h ⊢ <;> exact h
theorem refs_jos (b : Bool) (S : List Jo) (r : List D) : refsOf (josD b S :: r) = refsOf r := by
  unfold josD
  cases b <;> rfl
theorem free_hand_ok (b : Bool) {S : List Jo} (hl : S.length ≤ 12) {m : Hd} (hm : m.length = S.length) {k : Nat} (hk : k < S.length) {q : Nat} {h : Hc} (hq : h[q]? = some (.lst (hdD m))) :
    callL m_free_hand [josD b S, .ref q, .int (k : Int)] h = .ok (.int ((frH (bsy (aJ S) (bJ S) S.length m k) : Nat) : Int)) h := by
  have hn := frH_not (bsy (aJ S) (bJ S) S.length m k) (Nat.le_trans (bsy_len ..) hl)
  have cr := fun x3 x4 x5 x6 => fh_busy b (S := S) (by omega) hm hk x3 x4 x5 x6
  have en := fun h => enF_sqs' b (S.map (joD b)) h
  have en' : ∀ h, enF [josD b S] h = .ok ⟨enumD 0 (S.map (joD b)), fun _ => true⟩ h := en
  have raw : m_free_hand [josD b S, .ref 0, .int (k : Int)] [.lst (hdD m)] = .ok (.int ((frH (bsy (aJ S) (bJ S) S.length m k) : Nat) : Int)) [.lst (hdD m)] := by
    have lp := fun x0 x1 x2 x5 x6 => fh_loop x0 x1 x2 x5 x6 (bsy (aJ S) (bJ S) S.length m k) [.lst (hdD m)] 13 0 100000 hn (by omega)
    unfold m_free_hand frH
    rw [runB_s]
    generalize bsy (aJ S) (bJ S) S.length m k = L at *
    generalize fr L 13 0 = v at *
    have lp' : ∀ x0 x1 x2 x5 x6, wl (bEx (eOp (inG false) (eVar 4) (eVar 3))) m_free_hand_l1 100000 [x0, x1, x2, some (.lst ((cI L).map D.int)), some (.int 0), x5, x6] [.lst (hdD m)] = .nx [x0, x1, x2, some (.lst ((cI L).map D.int)), some (.int (v : Int)), x5, x6] [.lst (hdD m)] := lp
    generalize (cI L).map D.int = LD at *
    generalize hdD m = DD at *
    generalize enumD 0 (S.map (joD b)) = EN at *
    generalize josD b S = SD at *
    simp [iEnu, en', cr, lp']
  have c := call_ref1 (m := m_free_hand) (as := [josD b S, .ref q, .int (k : Int)]) (as' := [josD b S, .ref 0, .int (k : Int)]) (i := q) (c := .lst (hdD m)) (c' := .lst (hdD m)) (h := h) (h' := [.lst (hdD m)]) (d0 := .int ((frH (bsy (aJ S) (bJ S) S.length m k) : Nat) : Int)) (d := .int ((frH (bsy (aJ S) (bJ S) S.length m k) : Nat) : Int)) (by rw [refs_jos]; simp [refsOf]) (by rw [renL, ren_jos]; simp [renL, renD]) hq (flat_hdD m) raw rfl (flat_hdD m) (frzD_flat rfl)
  rw [c]
  congr 1
  apply List.ext_getElem?
  intro i
  rw [List.getElem?_set]
  split
  · rename_i e
    subst e
    split
    · exact hq.symm
    · rename_i hn
      rw [List.getElem?_eq_none (by omega)] at hq
      cases hq
  · rfl
def ordL (S : List Jo) : List (Int × Int) := (List.range S.length).map fun (k : Nat) => (aJ S k, (k : Int))
def ordN (S : List Jo) : List Nat := (isort leP (ordL S)).map fun p => p.2.toNat
def madeH (S : List Jo) : Hd := runH (aJ S) (bJ S) S.length (List.replicate S.length none) (ordN S)
theorem stp_len (a b : Nat → Int) (n : Nat) (m : Hd) (k : Nat) : (stpH a b n m k).length = m.length := by unfold stpH; rw [List.length_set]
theorem hp_loop (b : Bool) {S : List Jo} (hl : S.length ≤ 12) (x4 x5 x6 : Option D) : ∀ (T : List (Int × Int)) (m : Hd) (x2 x3 : Option D), m.length = S.length → (∀ p ∈ T, 0 ≤ p.2 ∧ p.2 < S.length) →
    ∃ y2 y3, fl (fun _ => true) (.t ((.n 2) :: ((.n 3) :: []))) m_hands_l1 (T.map pr2D) [some (josD b S), some (.ref 0), x2, x3, x4, x5, x6] [.lst (hdD m)] =
      .nx [some (josD b S), some (.ref 0), y2, y3, x4, x5, x6] [.lst (hdD (runH (aJ S) (bJ S) S.length m (T.map fun p => p.2.toNat)))]
  | [], m, x2, x3, hm, _ => ⟨x2, x3, fl_end rfl⟩
  | p :: T, m, x2, x3, hm, hT => by
    obtain ⟨p0, p1⟩ := hT p (by simp)
    obtain ⟨y2, y3, ih⟩ := hp_loop b hl x4 x5 x6 T (stpH (aJ S) (bJ S) S.length m p.2.toNat) (some (.int p.1)) (some (.int p.2)) (by rw [stp_len]; exact hm) (fun q hq => hT q (by simp [hq]))
    refine ⟨y2, y3, ?_⟩
    rw [List.map_cons, List.map_cons]
    refine Eq.trans (fl_nx (b := m_hands_l1) rfl (ds1 := [some (josD b S), some (.ref 0), some (.int p.1), some (.int p.2), x4, x5, x6]) (by simp [pr2D]) ?_) ih
    have fh := free_hand_ok b hl hm (k := p.2.toNat) (by omega) (q := 0) (h := [.lst (hdD m)]) rfl
    have ep : ((p.2.toNat : Nat) : Int) = p.2 := by omega
    rw [ep] at fh
    unfold stpH
    rw [hd_set]
    have hdl := hd_len m
    generalize frH (bsy (aJ S) (bJ S) S.length m p.2.toNat) = v at *
    have st := setF_ok (n := 0) (xs := hdD m) (h := [.lst (hdD m)]) (i := p.2) (x := .int (v : Int)) rfl p0 (by omega)
    generalize hdD m = DD at *
    generalize josD b S = SD at *
    simp [m_hands_l1, fh, st]
theorem ord_ok (S : List Jo) : ∀ p ∈ isort leP (ordL S), 0 ≤ p.2 ∧ p.2 < S.length := fun p hp => by
  obtain ⟨k, hk, rfl⟩ := List.mem_map.mp (isort_mem.mp hp)
  have := List.mem_range.mp hk
  simp only
  omega
end Mp
/-! K60C: hands: what both give. -/
namespace Mp
open PySem PySem.Spec PyProof.Rows L2
theorem jab {S : List Jo} (T : YsOk S) : ∀ k, k < S.length → aJ S k ≤ bJ S k ∧ 0 ≤ aJ S k ∧ bJ S k ≤ 30 := fun k hk => by
  have O := T.ok S[k] (List.getElem_mem hk)
  show jA (jb S) k ≤ jB (jb S) k ∧ 0 ≤ jA (jb S) k ∧ jB (jb S) k ≤ 30
  rw [jb_a hk, jb_b hk]
  exact ⟨O.ab, O.a0, O.b1⟩
theorem ordN_perm (S : List Jo) : (ordN S).Perm (List.range S.length) := by
  have e := (isort_perm leP (ordL S)).map fun p => p.2.toNat
  have e2 : (ordL S).map (fun p => p.2.toNat) = List.range S.length := by
    unfold ordL
    rw [List.map_map]
    apply List.ext_getElem?
    intro i
    by_cases h : i < S.length
    · simp [h]
    · simp [h]
  rw [e2] at e
  exact e
theorem made_HI {S : List Jo} (T : YsOk S) : HI (aJ S) (bJ S) S.length (madeH S) (ordN S) := by
  have pm := ordN_perm S
  have h := run_HI (aJ S) (bJ S) S.length T.len (fun k hk => (jab T k hk).1) (ordN S) [] (List.replicate S.length none) (HI0 _ _ _)
    (fun k hk => List.mem_range.mp (pm.mem_iff.mp hk)) (by rw [List.nil_append]; exact pm.nodup_iff.mpr List.nodup_range) (by
    rw [List.nil_append]
    unfold ordN
    rw [List.pairwise_map]
    refine List.Pairwise.imp_of_mem ?_ (isort_pw tot_P (ordL S))
    intro p q hp hq hle
    obtain ⟨i, hi, rfl⟩ := List.mem_map.mp (isort_mem.mp hp)
    obtain ⟨j, hj, rfl⟩ := List.mem_map.mp (isort_mem.mp hq)
    unfold leP at hle
    simp only [decide_eq_true_eq] at hle
    simp only [Int.toNat_natCast]
    omega)
  rw [List.nil_append] at h
  exact h
theorem made_all {S : List Jo} : ∀ k, k < S.length → k ∈ ordN S := fun k hk => (ordN_perm S).mem_iff.mpr (List.mem_range.mpr hk)
def madeN (S : List Jo) : List Nat := (madeH S).map (·.getD 0)
theorem made_some {S : List Jo} (T : YsOk S) : madeH S = (madeN S).map some := by
  have H := made_HI T
  unfold madeN
  rw [List.map_map]
  conv => lhs; rw [← List.map_id (madeH S)]
  refine List.map_congr_left fun o ho => ?_
  obtain ⟨k, hk, e⟩ := List.getElem_of_mem ho
  have hkn : k < S.length := by rw [← H.len]; exact hk
  have h1 := (H.dom k hkn).mpr (made_all k hkn)
  have e2 : hA (madeH S) k = o := by
    unfold hA
    rw [List.getD_eq_getElem?_getD, List.getElem?_eq_getElem hk, e]
    rfl
  rw [e2] at h1
  cases o with
  | none => cases h1
  | some x => rfl
theorem hd_some (L : List Nat) : hdD (L.map some) = (cI L).map D.int := by
  unfold hdD
  rw [List.map_map, List.map_map]
  rfl
theorem fold_succ : ∀ (r : List Nat) (x : Nat), (r.map fun y => y + 1).foldl max (x + 1) = r.foldl max x + 1
  | [], x => rfl
  | y :: r, x => by
    rw [List.map_cons, List.foldl_cons, List.foldl_cons]
    have : max (x + 1) (y + 1) = max x y + 1 := by omega
    rw [this, fold_succ r]
def cntN : List Nat → Nat
  | [] => 0
  | x :: r => r.foldl max x + 1
theorem cnt_some (L : List Nat) : cntH (L.map some) = cntN L := by
  unfold cntH
  rw [List.map_map]
  cases L with
  | nil => rfl
  | cons x r =>
    show ((x :: r).map fun y => y + 1).foldl max 0 = _
    rw [List.map_cons, List.foldl_cons]
    have : max 0 (x + 1) = x + 1 := by omega
    rw [this, fold_succ]
    rfl
theorem fold_int : ∀ (r : List Nat) (x : Nat), (r.map fun y => ((y : Nat) : Int) + 1).foldl max ((x : Int) + 1) = ((r.foldl max x + 1 : Nat) : Int)
  | [], x => by simp
  | y :: r, x => by
    rw [List.map_cons, List.foldl_cons, List.foldl_cons]
    have : max ((x : Int) + 1) ((y : Int) + 1) = ((max x y : Nat) : Int) + 1 := by omega
    rw [this, fold_int r]
theorem most_int : ∀ (r : List Nat) (x : Nat), mostI (x : Int) (cI r) = ((r.foldl max x : Nat) : Int)
  | [], x => rfl
  | y :: r, x => by
    have e : cI (y :: r) = (y : Int) :: cI r := rfl
    rw [e, List.foldl_cons, mostI]
    have : (if (x : Int) < (y : Int) then (y : Int) else (x : Int)) = ((max x y : Nat) : Int) := by
      split <;> omega
    rw [this, most_int r]
theorem mxd_ok (L : List Nat) (h : Hc) : mxdF (.lst ((L.map fun y => ((y : Nat) : Int) + 1).map D.int)) (.int 0) h = .ok (.int ((cntN L : Nat) : Int)) h := by
  unfold mxdF
  simp only [rdlD, lstD, intsD_map]
  cases L with
  | nil => rfl
  | cons x r =>
    simp only [List.map_cons]
    rw [fold_int]
    rfl
theorem max_ok (x : Nat) (r : List Nat) {q : Nat} {h : Hc} (hq : h[q]? = some (.lst ((cI (x :: r)).map D.int))) : maxF [.ref q] h = .ok (.int ((r.foldl max x : Nat) : Int)) h := by
  have e : seqD h (.ref q) = some ((cI (x :: r)).map D.int) := by simp [seqD, hq]
  unfold maxF bestF
  simp only [e, intsD_map]
  rw [show cI (x :: r) = (x : Int) :: cI r from rfl]
  simp only
  rw [most_int]
def outH (S : List Jo) : D := .tup [.int ((cntN (madeN S) : Nat) : Int), .tup ((cI (madeN S)).map D.int)]
@[simp] theorem flat_outH (S : List Jo) : flat (outH S) = true := by
  unfold outH
  have : flatL ((cI (madeN S)).map D.int) = true := flatL_map _ (fun _ => rfl) _
  generalize (cI (madeN S)).map D.int = CL at *
  simp [this]
theorem repN : ∀ n, repD n [D.non] = List.replicate n D.non := fun n => by
  induction n with
  | zero => rfl
  | succ n ih => rw [List.replicate_succ, ← ih]; rfl
theorem hands_ok (b : Bool) {S : List Jo} (T : YsOk S) (h : Hc) : callL m_hands [josD b S] h = .ok (outH S) h := by
  have hl := T.len
  have e1 := fun h => check_triples_ok b T h
  have hlen : ∀ h, lenF [josD b S] h = .ok (.int (S.length : Int)) h := fun h => by unfold josD; rw [len_sqs, List.length_map]
  have e0 : hdD (List.replicate S.length none) = List.replicate S.length .non := by
    unfold hdD
    rw [List.map_replicate]
    rfl
  have em : mulC (.lst [.non]) (.int (S.length : Int)) [] = .ok (.ref 0) [.lst (hdD (List.replicate S.length none))] := by
    rw [e0]
    have er := repN S.length
    have hlim := lim_eq
    unfold mulC
    simp [lstD, er]
    omega
  have en := fun h => enF_sqs' b (S.map (joD b)) h
  have en' : ∀ h, enF [josD b S] h = .ok ⟨enumD 0 (S.map (joD b)), fun _ => true⟩ h := en
  have c1 : ∀ (x1 x2 x3 x4 x5 x6 : Option D) (h : Hc), lcR (fun _ => true) (.t ((.n 3) :: ((.n 5) :: []))) [3, 5] (fun _ h => .ok true h) m_hands_c1 [some (josD b S), x1, x2, x3, x4, x5, x6] (enumD 0 (S.map (joD b))) [] h = .ok ((ordL S).map pr2D) h := fun x1 x2 x3 x4 x5 x6 h => by
    have c := lcR_mm (chk := fun _ => true) (p := .t ((.n 3) :: ((.n 5) :: []))) (own := [3, 5]) (m := m_hands_c1) (ds := [some (josD b S), x1, x2, x3, x4, x5, x6]) (h := h)
      (fun (j : Nat) => D.tup [.int (j : Int), joD b (S.getD j jo0)]) (fun j => pr2D (aJ S j, (j : Int))) rfl (List.range S.length) (by simp; omega)
      (fun j hj => by
        have hj' : j < S.length := List.mem_range.mp hj
        have eg : S.getD j jo0 = S[j] := by simp [List.getD, hj']
        rw [eg]
        have i1 := fun h => jo_ix1 b S[j] h
        rw [← jb_a hj'] at i1
        generalize joD b S[j] = ZD at *
        generalize josD b S = SD at *
        exact ⟨[some SD, x1, x2, some (.int (j : Int)), x4, some ZD, x6], by simp [wipeD], by simp [m_hands_c1, i1, pr2D]⟩)
    rw [enum_range, c]
    unfold ordL
    rw [List.map_map]
    rfl
  have es := fun h => sortX_prs (ordL S) h
  obtain ⟨y2, y3, lp⟩ := hp_loop b hl none none none (isort leP (ordL S)) (List.replicate S.length none) none none (List.length_replicate ..) (ord_ok S)
  have em2 : hdD (runH (aJ S) (bJ S) S.length (List.replicate S.length none) ((isort leP (ordL S)).map fun p => p.2.toNat)) = (cI (madeN S)).map D.int := by
    have : hdD (madeH S) = (cI (madeN S)).map D.int := by rw [made_some T, hd_some]
    exact this
  rw [em2] at lp
  have hml : (madeN S).length ≤ 12 := by
    unfold madeN
    rw [List.length_map, (made_HI T).len]
    exact hl
  have c2 : ∀ (x0 x1 x2 x3 x4 x5 x6 : Option D), lcR (chkQ (.ref 0) ((cI (madeN S)).map D.int)) (.n 6) [6] (fun _ h => .ok true h) m_hands_c2 [x0, x1, x2, x3, x4, x5, x6] ((cI (madeN S)).map D.int) [] [.lst ((cI (madeN S)).map D.int)] = .ok (((madeN S).map fun y => ((y : Nat) : Int) + 1).map D.int) [.lst ((cI (madeN S)).map D.int)] := fun x0 x1 x2 x3 x4 x5 x6 => by
    have c := lcR_mm (chk := chkQ (.ref 0) ((cI (madeN S)).map D.int)) (p := .n 6) (own := [6]) (m := m_hands_c2) (ds := [x0, x1, x2, x3, x4, x5, x6]) (h := [.lst ((cI (madeN S)).map D.int)])
      (fun (j : Nat) => D.int (j : Int)) (fun j => D.int ((j : Int) + 1)) (chkQ_ref rfl) (madeN S) (by omega)
      (fun j hj => ⟨_, bindP_n .., by
        generalize (cI (madeN S)).map D.int = CD at *
        simp [m_hands_c2]⟩)
    have g1 : (cI (madeN S)).map D.int = (madeN S).map fun (j : Nat) => D.int (j : Int) := by rw [List.map_map]; rfl
    have g2 : (((madeN S).map fun y => ((y : Nat) : Int) + 1).map D.int) = (madeN S).map fun (j : Nat) => D.int ((j : Int) + 1) := by rw [List.map_map]; rfl
    rw [g2]
    rw [← g1] at c
    exact c
  have mx := fun h => mxd_ok (madeN S) h
  have ff : flatL ((cI (madeN S)).map D.int) = true := flatL_map _ (fun _ => rfl) _
  refine call_flat (h' := [.lst ((cI (madeN S)).map D.int)]) (by simp) ?_ (by simp) h
  unfold outH m_hands
  rw [runB_s]
  generalize cntN (madeN S) = cn at *
  generalize (((madeN S).map fun y => ((y : Nat) : Int) + 1).map D.int) = PL at *
  generalize (cI (madeN S)).map D.int = CL at *
  generalize (isort leP (ordL S)).map pr2D = TL at *
  generalize (ordL S).map pr2D = OL at *
  generalize hdD (List.replicate S.length none) = H0 at *
  generalize enumD 0 (S.map (joD b)) = EN at *
  generalize josD b S = SD at *
  simp [e1, hlen, em, iEnu, en', c1, sortF, es, lp, c2, mx, tupleF, rdlD, lstD]
end Mp
/-! K60D: the hands of the law. -/
namespace Mp
open PySem PySem.Spec PyProof.Rows L2
theorem upFrom_rg (n : Nat) : upFrom 0 n = (List.range n).map fun (k : Nat) => D.int (k : Int) := by
  unfold upFrom
  simp
theorem lh_loop (x0 x1 x3 x7 x8 : Option D) (l : List Nat) {m : Hd} {k : Nat} (hk : k < m.length) : ∀ (f h : Nat) (x6 : Option D), fr l f h < h + f → ∃ y6,
    fl (fun _ => true) (.n 6) m_law_hands_l1 (upFrom (h : Int) f) [x0, x1, some (.ref 0), x3, some (.int (k : Int)), some (.lst ((cI l).map D.int)), x6, x7, x8] [.lst (hdD m)] =
      .nx [x0, x1, some (.ref 0), x3, some (.int (k : Int)), some (.lst ((cI l).map D.int)), y6, x7, x8] [.lst (hdD (m.set k (some (fr l f h))))]
  | 0, h, x6, hf => by
    have := fr_ge l 0 h
    omega
  | f + 1, h, x6, hf => by
    have ep : ((h + 1 : Nat) : Int) = (h : Int) + 1 := by push_cast; rfl
    have e := fun hh => inG_ints true (h : Int) (U := .lst ((cI l).map D.int)) (us := cI l) (h := hh) rfl
    rw [mem_castN] at e
    rw [upFrom_cons]
    by_cases hc : l.contains h = true
    · have e2 : fr l (f + 1) h = fr l f (h + 1) := by
        conv => lhs; unfold fr
        rw [if_pos hc]
      rw [e2] at hf ⊢
      rw [hc] at e
      obtain ⟨y6, ih⟩ := lh_loop x0 x1 x3 x7 x8 l hk f (h + 1) (some (.int (h : Int))) (by omega)
      rw [ep] at ih
      refine ⟨y6, Eq.trans (fl_n (b := m_law_hands_l1) ?_) ih⟩
      generalize (cI l).map D.int = LD at *
      generalize hdD m = DD at *
      simp [m_law_hands_l1, e]
    · have e2 : fr l (f + 1) h = h := by
        unfold fr
        rw [if_neg hc]
      rw [e2]
      have hc' : l.contains h = false := by simpa using hc
      rw [hc'] at e
      have hl := hd_len m
      refine ⟨some (.int (h : Int)), ?_⟩
      rw [hd_set]
      have st := setF_ok (n := 0) (xs := hdD m) (h := [.lst (hdD m)]) (i := (k : Int)) (x := .int (h : Int)) rfl (by omega) (by omega)
      rw [Int.toNat_natCast] at st
      refine fl_bk (b := m_law_hands_l1) rfl (bindP_n ..) ?_
      generalize (cI l).map D.int = LD at *
      generalize hdD m = DD at *
      simp [m_law_hands_l1, e, st]
theorem lh_busy {S : List Jo} (hl : S.length ≤ 1000) {m : Hd} (hm : m.length = S.length) {k : Nat} (hk : k < S.length) (x1 x3 x5 x6 x7 x8 : Option D) :
    lcR (fun _ => true) (.n 8) [8] m_law_hands_t1 m_law_hands_c3 [some (josD false S), x1, some (.ref 0), x3, some (.int (k : Int)), x5, x6, x7, x8] (upFrom 0 S.length) [] [.lst (hdD m)] =
      .ok ((cI (bsy (aJ S) (bJ S) S.length m k)).map D.int) [.lst (hdD m)] := by
  have c := lcR_fm (chk := fun _ => true) (p := .n 8) (own := [8]) (c := m_law_hands_t1) (m := m_law_hands_c3) (ds := [some (josD false S), x1, some (.ref 0), x3, some (.int (k : Int)), x5, x6, x7, x8]) (h := [.lst (hdD m)])
    (fun (j : Nat) => D.int (j : Int)) (bsT (aJ S) (bJ S) m k) (fun j => ohD (hA m j)) rfl (List.range S.length) [] (by simp; omega)
    (fun j hj => ⟨_, bindP_n .., by
      have hj' : j < S.length := List.mem_range.mp hj
      have g := hd_at (m := m) (k := j) (by omega)
      have ix := ixF_ref (n := 0) (i := (j : Int)) (xs := hdD m) (h := [.lst (hdD m)]) rfl
      rw [g] at ix
      have i0 := fun h => jo_at false hk h
      have j0 := fun h => jo_at false hj' h
      have i1 := fun h => jo_ix1 false S[k] h
      have i2 := fun h => jo_ix2 false S[k] h
      have j1 := fun h => jo_ix1 false S[j] h
      have j2 := fun h => jo_ix2 false S[j] h
      rw [← jb_a hk] at i1
      rw [← jb_a hj'] at j1
      rw [← jb_b hk] at i2
      rw [← jb_b hj'] at j2
      generalize joD false S[j] = ZD at *
      generalize joD false S[k] = WD at *
      generalize josD false S = SD at *
      generalize hdD m = DD at *
      unfold bsT ovB
      cases q : hA m j with
      | none =>
        rw [q] at ix
        simp [m_law_hands_t1, ix, ohD]
      | some e =>
        rw [q] at ix
        by_cases q1 : jA (jb S) k ≤ jB (jb S) j <;> by_cases q2 : jA (jb S) j ≤ jB (jb S) k <;> simp [m_law_hands_t1, ix, ohD, i0, i1, i2, j0, j1, j2, q1, q2], fun _ => by
      have hj' : j < S.length := List.mem_range.mp hj
      have g := hd_at (m := m) (k := j) (by omega)
      have ix := ixF_ref (n := 0) (i := (j : Int)) (xs := hdD m) (h := [.lst (hdD m)]) rfl
      rw [g] at ix
      generalize josD false S = SD at *
      generalize hdD m = DD at *
      simp [m_law_hands_c3, ix]⟩)
  rw [upFrom_rg, c, List.nil_append, bsy_D]
theorem lp_loop {S : List Jo} (hl : S.length ≤ 12) (x1 x7 x8 : Option D) : ∀ (T : List (Int × Int)) (m : Hd) (x3 x4 x5 x6 : Option D), m.length = S.length → (∀ p ∈ T, 0 ≤ p.2 ∧ p.2 < S.length) →
    ∃ y3 y4 y5 y6, fl (fun _ => true) (.n 3) m_law_hands_l2 (T.map pr2D) [some (josD false S), x1, some (.ref 0), x3, x4, x5, x6, x7, x8] [.lst (hdD m)] =
      .nx [some (josD false S), x1, some (.ref 0), y3, y4, y5, y6, x7, x8] [.lst (hdD (runH (aJ S) (bJ S) S.length m (T.map fun p => p.2.toNat)))]
  | [], m, x3, x4, x5, x6, hm, _ => ⟨x3, x4, x5, x6, fl_end rfl⟩
  | p :: T, m, x3, x4, x5, x6, hm, hT => by
    obtain ⟨p0, p1⟩ := hT p (by simp)
    have ep : ((p.2.toNat : Nat) : Int) = p.2 := by omega
    have hk : p.2.toNat < S.length := by omega
    have hbl := Nat.le_trans (bsy_len (aJ S) (bJ S) S.length m p.2.toNat) hl
    have hfr := frH_len (bsy (aJ S) (bJ S) S.length m p.2.toNat)
    obtain ⟨z6, lp⟩ := lh_loop (some (josD false S)) x1 (some (pr2D p)) x7 x8 (bsy (aJ S) (bJ S) S.length m p.2.toNat) (m := m) (k := p.2.toNat) (by omega) 13 0 x6 (by unfold frH at hfr; omega)
    obtain ⟨y3, y4, y5, y6, ih⟩ := lp_loop hl x1 x7 x8 T (stpH (aJ S) (bJ S) S.length m p.2.toNat) (some (pr2D p)) (some (.int p.2)) (some (.lst ((cI (bsy (aJ S) (bJ S) S.length m p.2.toNat)).map D.int))) z6 (by rw [stp_len]; exact hm) (fun q hq => hT q (by simp [hq]))
    refine ⟨y3, y4, y5, y6, ?_⟩
    rw [List.map_cons, List.map_cons]
    refine Eq.trans (fl_n (b := m_law_hands_l2) ?_) ih
    have cr := fun x1 x3 x5 x6 x7 x8 => lh_busy (S := S) (by omega) hm hk x1 x3 x5 x6 x7 x8
    rw [ep] at cr lp
    have lp' : fl (fun _ => true) (.n 6) m_law_hands_l1 (upFrom 0 13) [some (josD false S), x1, some (.ref 0), some (pr2D p), some (.int p.2), some (.lst ((cI (bsy (aJ S) (bJ S) S.length m p.2.toNat)).map D.int)), x6, x7, x8] [.lst (hdD m)] =
      .nx [some (josD false S), x1, some (.ref 0), some (pr2D p), some (.int p.2), some (.lst ((cI (bsy (aJ S) (bJ S) S.length m p.2.toNat)).map D.int)), z6, x7, x8] [.lst (hdD (stpH (aJ S) (bJ S) S.length m p.2.toNat))] := lp
    clear lp ih
    have hlen : ∀ h, lenF [josD false S] h = .ok (.int (S.length : Int)) h := fun h => by unfold josD; rw [len_sqs, List.length_map]
    have g1 : ∀ h, rg1F [.int (S.length : Int)] h = .ok ⟨upFrom 0 S.length, fun _ => true⟩ h := fun h => by
      rw [rg1F_int, if_pos (rgOk_nat (by omega)), Int.toNat_natCast]
    have g2 : ∀ h, rg1F [.int 13] h = .ok ⟨upFrom 0 13, fun _ => true⟩ h := fun h => by
      rw [rg1F_int, if_pos (rgOk_of (j := 13) (by decide) (by decide))]
      rfl
    have i1 : ∀ h, ixF (pr2D p) (.int 1) h = .ok (.int p.2) h := fun h => by unfold pr2D; simp
    generalize hdD (stpH (aJ S) (bJ S) S.length m p.2.toNat) = DE at *
    generalize (cI (bsy (aJ S) (bJ S) S.length m p.2.toNat)).map D.int = BD at *
    generalize hdD m = DD at *
    generalize pr2D p = PD at *
    generalize josD false S = SD at *
    generalize upFrom 0 S.length = U1 at *
    generalize upFrom 0 13 = U2 at *
    simp [m_law_hands_l2, i1, hlen, g1, g2, cr, lp']
theorem law_hands_ok {S : List Jo} (T : YsOk S) (h : Hc) : callL m_law_hands [josD false S] h = .ok (outH S) h := by
  have hl := T.len
  have hlen : ∀ h, lenF [josD false S] h = .ok (.int (S.length : Int)) h := fun h => by unfold josD; rw [len_sqs, List.length_map]
  have g1 : ∀ h, rg1F [.int (S.length : Int)] h = .ok ⟨upFrom 0 S.length, fun _ => true⟩ h := fun h => by
    rw [rg1F_int, if_pos (rgOk_nat (by omega)), Int.toNat_natCast]
  have e0 : hdD (List.replicate S.length none) = S.map fun _ => D.non := by
    unfold hdD
    rw [List.map_replicate]
    exact (List.map_const' ..).symm
  have c1 : ∀ (x1 x2 x3 x4 x5 x6 x7 x8 : Option D) (h : Hc), lcR (fun _ => true) (.n 4) [4] (fun _ h => .ok true h) m_law_hands_c1 [some (josD false S), x1, x2, x3, x4, x5, x6, x7, x8] (upFrom 0 S.length) [] h = .ok ((ordL S).map pr2D) h := fun x1 x2 x3 x4 x5 x6 x7 x8 h => by
    have c := lcR_mm (chk := fun _ => true) (p := .n 4) (own := [4]) (m := m_law_hands_c1) (ds := [some (josD false S), x1, x2, x3, x4, x5, x6, x7, x8]) (h := h)
      (fun (j : Nat) => D.int (j : Int)) (fun j => pr2D (aJ S j, (j : Int))) rfl (List.range S.length) (by simp; omega)
      (fun j hj => ⟨_, bindP_n .., by
        have hj' : j < S.length := List.mem_range.mp hj
        have j0 := fun h => jo_at false hj' h
        have i1 := fun h => jo_ix1 false S[j] h
        rw [← jb_a hj'] at i1
        generalize joD false S[j] = ZD at *
        generalize josD false S = SD at *
        simp [m_law_hands_c1, j0, i1, pr2D]⟩)
    rw [upFrom_rg, c]
    unfold ordL
    rw [List.map_map]
    rfl
  have es := fun h => sortX_prs (ordL S) h
  have e8 : ∀ h, seqD h (josD false S) = some (S.map (joD false)) := fun h => seqD_sqs false _ h
  have e9 : chkQ (josD false S) (S.map (joD false)) = fun _ => true := chkQ_sqs false _
  have c2 : ∀ (x1 x2 x3 x4 x5 x6 x7 x8 : Option D) (h : Hc), lcR (fun _ => true) (.n 7) [7] (fun _ h => .ok true h) m_law_hands_c2 [some (josD false S), x1, x2, x3, x4, x5, x6, x7, x8] (S.map (joD false)) [] h = .ok (hdD (List.replicate S.length none)) h := fun x1 x2 x3 x4 x5 x6 x7 x8 h => by
    rw [e0]
    exact lcR_mm (chk := fun _ => true) (p := .n 7) (own := [7]) (m := m_law_hands_c2) (ds := [some (josD false S), x1, x2, x3, x4, x5, x6, x7, x8]) (h := h)
      (joD false) (fun _ => D.non) rfl S (by omega)
      (fun z hz => ⟨_, bindP_n .., by
        generalize joD false z = ZD at *
        generalize josD false S = SD at *
        simp [m_law_hands_c2]⟩)
  obtain ⟨y3, y4, y5, y6, lp⟩ := lp_loop hl (some (.lst ((isort leP (ordL S)).map pr2D))) none none (isort leP (ordL S)) (List.replicate S.length none) none none none none (List.length_replicate ..) (ord_ok S)
  have em2 : hdD (runH (aJ S) (bJ S) S.length (List.replicate S.length none) ((isort leP (ordL S)).map fun p => p.2.toNat)) = (cI (madeN S)).map D.int := by
    have : hdD (madeH S) = (cI (madeN S)).map D.int := by rw [made_some T, hd_some]
    exact this
  rw [em2] at lp
  have hml : (madeN S).length = S.length := by
    unfold madeN
    rw [List.length_map, (made_HI T).len]
  have ff : flatL ((cI (madeN S)).map D.int) = true := flatL_map _ (fun _ => rfl) _
  refine call_flat (h' := [.lst ((cI (madeN S)).map D.int)]) (by simp) ?_ (by simp) h
  have ln : lenF [.ref 0] [.lst ((cI (madeN S)).map D.int)] = .ok (.int (S.length : Int)) [.lst ((cI (madeN S)).map D.int)] := by
    have : ((cI (madeN S)).map D.int).length = S.length := by rw [List.length_map, List.length_map, hml]
    generalize (cI (madeN S)).map D.int = CL at *
    unfold lenF
    simp [this]
  unfold outH m_law_hands
  rw [runB_s]
  cases hM : madeN S with
  | nil =>
    rw [hM] at hml lp ln
    have h0 : S.length = 0 := by rw [← hml]; rfl
    rw [h0] at ln
    generalize (isort leP (ordL S)).map pr2D = TL at *
    generalize (ordL S).map pr2D = OL at *
    generalize hdD (List.replicate S.length none) = H0 at *
    generalize S.map (joD false) = SL at *
    generalize josD false S = SD at *
    generalize upFrom 0 S.length = U1 at *
    have ez : (cI []).map D.int = [] := rfl
    rw [ez] at lp ln ⊢
    simp [hlen, g1, c1, sortF, es, e8, e9, c2, lp, ln, tupleF, rdlD, lstD, cntN]
  | cons x r =>
    rw [hM] at hml lp ln
    have hp : (0 : Int) < (S.length : Int) := by
      rw [← hml, List.length_cons]
      omega
    have hp' : 0 < S.length := by omega
    have mx := max_ok x r (q := 0) (h := [.lst ((cI (x :: r)).map D.int)]) rfl
    have ec : ((cntN (x :: r) : Nat) : Int) = ((r.foldl max x : Nat) : Int) + 1 := by
      show (((r.foldl max x) + 1 : Nat) : Int) = _
      push_cast
      rfl
    rw [ec]
    generalize ((r.foldl max x : Nat) : Int) = MX at *
    generalize (cI (x :: r)).map D.int = CL at *
    generalize (isort leP (ordL S)).map pr2D = TL at *
    generalize (ordL S).map pr2D = OL at *
    generalize hdD (List.replicate S.length none) = H0 at *
    generalize S.map (joD false) = SL at *
    generalize josD false S = SD at *
    generalize upFrom 0 S.length = U1 at *
    simp [hlen, g1, c1, sortF, es, e8, e9, c2, lp, ln, hp, hp', mx, tupleF, rdlD, lstD]
end Mp
namespace Mp
open PySem PySem.Spec PyProof.Rows L2
theorem outH_ix0 (S : List Jo) (h : Hc) : ixF (outH S) (.int 0) h = .ok (.int ((cntN (madeN S) : Nat) : Int)) h := by
  unfold outH
  generalize (cI (madeN S)).map D.int = CL
  simp
theorem outH_ix1 (S : List Jo) (h : Hc) : ixF (outH S) (.int 1) h = .ok (.tup ((cI (madeN S)).map D.int)) h := by
  unfold outH
  generalize (cI (madeN S)).map D.int = CL
  simp
theorem made_at {S : List Jo} {k : Nat} (hk : k < (madeN S).length) (h : Hc) : ixF (.tup ((cI (madeN S)).map D.int)) (.int (k : Int)) h = .ok (.int (((madeN S).getD k 0 : Nat) : Int)) h := by
  have e : ixF (.tup ((cI (madeN S)).map D.int)) (.int (k : Int)) h = match atI ((cI (madeN S)).map D.int) (k : Int) with
    | some d => .ok d h
    | none => .bad := ix_sqs false _ _ h
  rw [e, atI_of (by omega) (by rw [List.length_map, List.length_map]; omega)]
  simp [List.getD, hk]
theorem made_hA {S : List Jo} (T : YsOk S) {k : Nat} (hk : k < S.length) : hA (madeH S) k = some ((madeN S).getD k 0) := by
  have hl : (madeN S).length = S.length := by
    unfold madeN
    rw [List.length_map, (made_HI T).len]
  have := made_some T
  unfold hA
  rw [this]
  have hk' : k < (madeN S).length := by omega
  simp [List.getD, hk']
theorem made_len {S : List Jo} (T : YsOk S) : (madeN S).length = S.length := by
  unfold madeN
  rw [List.length_map, (made_HI T).len]
theorem l1_loop {S : List Jo} (T : YsOk S) (x0 x1 x2 x7 x8 x9 : Option D) {k : Nat} (hk : k < S.length) (h : Hc) : ∀ (n j : Nat) (x6 : Option D), j + n = k → ∃ y6,
    fl (fun _ => true) (.n 6) m_law_l1 (upFrom (j : Int) n) [x0, x1, x2, some (josD false S), some (outH S), some (.int (k : Int)), x6, x7, x8, x9] h =
      .nx [x0, x1, x2, some (josD false S), some (outH S), some (.int (k : Int)), y6, x7, x8, x9] h
  | 0, j, x6, _ => ⟨x6, fl_end rfl⟩
  | n + 1, j, x6, hj => by
    obtain ⟨y6, ih⟩ := l1_loop T x0 x1 x2 x7 x8 x9 hk h n (j + 1) (some (.int (j : Int))) (by omega)
    have ep : ((j + 1 : Nat) : Int) = (j : Int) + 1 := by push_cast; rfl
    rw [ep] at ih
    rw [upFrom_cons]
    refine ⟨y6, Eq.trans (fl_n (b := m_law_l1) ?_) ih⟩
    have hj' : j < S.length := by omega
    have i0 := fun h => jo_at false hk h
    have j0 := fun h => jo_at false hj' h
    have i1 := fun h => jo_ix1 false S[k] h
    have i2 := fun h => jo_ix2 false S[k] h
    have j1 := fun h => jo_ix1 false S[j] h
    have j2 := fun h => jo_ix2 false S[j] h
    rw [← jb_a hk] at i1
    rw [← jb_a hj'] at j1
    rw [← jb_b hk] at i2
    rw [← jb_b hj'] at j2
    have o1 := fun h => outH_ix1 S h
    have mk := fun h => made_at (S := S) (k := k) (by rw [made_len T]; exact hk) h
    have mj := fun h => made_at (S := S) (k := j) (by rw [made_len T]; exact hj') h
    have dif : jA (jb S) k ≤ jB (jb S) j → jA (jb S) j ≤ jB (jb S) k → ¬ (((madeN S).getD j 0 : Nat) : Int) = (((madeN S).getD k 0 : Nat) : Int) := fun h1 h2 => by
      have := (made_HI T).dif j k _ _ hj' hk (by omega) (made_hA T hj') (made_hA T hk) (by
        unfold ovB
        show (decide (jA (jb S) j ≤ jB (jb S) k) && decide (jA (jb S) k ≤ jB (jb S) j)) = true
        simp [h1, h2])
      omega
    generalize (((madeN S).getD j 0 : Nat) : Int) = vj at *
    generalize (((madeN S).getD k 0 : Nat) : Int) = vk at *
    generalize (cI (madeN S)).map D.int = CL at *
    generalize outH S = OD at *
    generalize joD false S[j] = ZD at *
    generalize joD false S[k] = WD at *
    generalize josD false S = SD at *
    by_cases q1 : jA (jb S) k ≤ jB (jb S) j <;> by_cases q2 : jA (jb S) j ≤ jB (jb S) k
    · simp [m_law_l1, i0, i1, i2, j0, j1, j2, q1, q2, o1, mk, mj, dif q1 q2]
    · simp [m_law_l1, i0, i1, i2, j0, j1, j2, q1, q2]
    · simp [m_law_l1, i0, i1, i2, j0, j1, j2, q1, q2]
    · simp [m_law_l1, i0, i1, i2, j0, j1, j2, q1, q2]
theorem l2_loop {S : List Jo} (T : YsOk S) (x0 x1 x2 x7 x8 x9 : Option D) (h : Hc) : ∀ (n k : Nat) (x5 x6 : Option D), k + n = S.length → ∃ y5 y6,
    fl (fun _ => true) (.n 5) m_law_l2 (upFrom (k : Int) n) [x0, x1, x2, some (josD false S), some (outH S), x5, x6, x7, x8, x9] h =
      .nx [x0, x1, x2, some (josD false S), some (outH S), y5, y6, x7, x8, x9] h
  | 0, k, x5, x6, _ => ⟨x5, x6, fl_end rfl⟩
  | n + 1, k, x5, x6, hk => by
    have hl := T.len
    obtain ⟨z6, e1⟩ := l1_loop T x0 x1 x2 x7 x8 x9 (k := k) (by omega) h k 0 x6 (by omega)
    obtain ⟨y5, y6, ih⟩ := l2_loop T x0 x1 x2 x7 x8 x9 h n (k + 1) (some (.int (k : Int))) z6 (by omega)
    have ep : ((k + 1 : Nat) : Int) = (k : Int) + 1 := by push_cast; rfl
    rw [ep] at ih
    rw [upFrom_cons]
    refine ⟨y5, y6, Eq.trans (fl_n (b := m_law_l2) ?_) ih⟩
    have g1 : ∀ h, rg1F [.int (k : Int)] h = .ok ⟨upFrom 0 k, fun _ => true⟩ h := fun h => by
      rw [rg1F_int, if_pos (rgOk_nat (by omega)), Int.toNat_natCast]
    have e1' : fl (fun _ => true) (.n 6) m_law_l1 (upFrom 0 k) [x0, x1, x2, some (josD false S), some (outH S), some (.int (k : Int)), x6, x7, x8, x9] h =
      .nx [x0, x1, x2, some (josD false S), some (outH S), some (.int (k : Int)), z6, x7, x8, x9] h := e1
    clear e1 ih
    generalize outH S = OD at *
    generalize josD false S = SD at *
    generalize upFrom 0 k = U1 at *
    simp [m_law_l2, g1, e1']
def mst (S : List Jo) : Nat → Nat
  | 0 => 0
  | d + 1 => max (mst S d) (cov (aJ S) (bJ S) S.length (d : Int))
theorem mst_le {S : List Jo} {c : Nat} (h : ∀ d : Int, cov (aJ S) (bJ S) S.length d ≤ c) : ∀ n, mst S n ≤ c
  | 0 => Nat.zero_le _
  | n + 1 => by
    unfold mst
    exact Nat.max_le.mpr ⟨mst_le h n, h _⟩
theorem mst_ge {S : List Jo} {d : Nat} : ∀ n, d < n → cov (aJ S) (bJ S) S.length (d : Int) ≤ mst S n
  | 0, h => by omega
  | n + 1, h => by
    unfold mst
    by_cases e : d = n
    · subst e
      exact Nat.le_max_right ..
    · exact Nat.le_trans (mst_ge n (by omega)) (Nat.le_max_left ..)
theorem mst_cnt {S : List Jo} (T : YsOk S) : mst S 31 = cntN (madeN S) := by
  have H := made_HI T
  have ec : cntH (madeH S) = cntN (madeN S) := by rw [made_some T, cnt_some]
  apply Nat.le_antisymm
  · exact mst_le (fun d => by
      rw [← ec]
      exact cov_le _ _ _ H made_all d) 31
  · rw [← ec]
    rcases cov_ge _ _ _ H (fun k hk => (jab T k hk).1) with e | ⟨k, hk, e⟩
    · rw [e]
      exact Nat.zero_le _
    · obtain ⟨h1, h2, h3⟩ := jab T k hk
      have e2 : aJ S k = (((aJ S k).toNat : Nat) : Int) := by omega
      rw [e2] at e
      exact Nat.le_trans e (mst_ge 31 (by omega))
theorem cov_jos {S : List Jo} (hl : S.length ≤ 1000) (d : Nat) (ds : Sl) (x0 x1 x2 x4 x5 x6 x7 x9 : Option D) (h : Hc) : ∃ L : List D, L.length = cov (aJ S) (bJ S) S.length (d : Int) ∧
    lcR (fun _ => true) (.n 9) [9] m_law_t1 m_law_c1 [x0, x1, x2, some (josD false S), x4, x5, x6, x7, some (.int (d : Int)), x9] (S.map (joD false)) [] h = .ok L h := by
  have er : S.map (joD false) = (List.range S.length).map fun (j : Nat) => joD false (S.getD j jo0) := by
    apply List.ext_getElem?
    intro i
    by_cases h : i < S.length
    · simp [h, List.getD]
    · simp [h]
  have c := lcR_fm (chk := fun _ => true) (p := .n 9) (own := [9]) (c := m_law_t1) (m := m_law_c1) (ds := [x0, x1, x2, some (josD false S), x4, x5, x6, x7, some (.int (d : Int)), x9]) (h := h)
    (fun (j : Nat) => joD false (S.getD j jo0)) (fun j => decide (aJ S j ≤ (d : Int)) && decide ((d : Int) ≤ bJ S j)) (fun (j : Nat) => joD false (S.getD j jo0)) rfl (List.range S.length) [] (by simp; omega)
    (fun j hj => ⟨_, bindP_n .., by
      have hj' : j < S.length := List.mem_range.mp hj
      have eg : S.getD j jo0 = S[j] := by simp [List.getD, hj']
      rw [eg]
      have i1 := fun h => jo_ix1 false S[j] h
      have i2 := fun h => jo_ix2 false S[j] h
      rw [← jb_a hj'] at i1
      rw [← jb_b hj'] at i2
      show _ = R.ok (decide (jA (jb S) j ≤ (d : Int)) && decide ((d : Int) ≤ jB (jb S) j)) h
      generalize joD false S[j] = ZD at *
      generalize josD false S = SD at *
      by_cases q1 : jA (jb S) j ≤ (d : Int) <;> by_cases q2 : (d : Int) ≤ jB (jb S) j <;> simp [m_law_t1, i1, i2, q1, q2], fun _ => by
      generalize joD false (S.getD j jo0) = ZD at *
      generalize josD false S = SD at *
      simp [m_law_c1]⟩)
  refine ⟨_, ?_, by rw [er]; exact c⟩
  rw [List.nil_append, List.length_map]
  rfl
theorem l3_loop {S : List Jo} (hl : S.length ≤ 1000) (x0 x1 x2 x4 x5 x6 x9 : Option D) (h : Hc) : ∀ (n d : Nat) (x8 : Option D), d + n = 31 → ∃ y8,
    fl (fun _ => true) (.n 8) m_law_l3 (upFrom (d : Int) n) [x0, x1, x2, some (josD false S), x4, x5, x6, some (.int ((mst S d : Nat) : Int)), x8, x9] h =
      .nx [x0, x1, x2, some (josD false S), x4, x5, x6, some (.int ((mst S 31 : Nat) : Int)), y8, x9] h
  | 0, d, x8, hd => by
    have : d = 31 := by omega
    subst this
    exact ⟨x8, fl_end rfl⟩
  | n + 1, d, x8, hd => by
    obtain ⟨y8, ih⟩ := l3_loop hl x0 x1 x2 x4 x5 x6 x9 h n (d + 1) (some (.int (d : Int))) (by omega)
    have ep : ((d + 1 : Nat) : Int) = (d : Int) + 1 := by push_cast; rfl
    rw [ep] at ih
    rw [upFrom_cons]
    refine ⟨y8, Eq.trans (fl_n (b := m_law_l3) ?_) ih⟩
    have e8 : ∀ h, seqD h (josD false S) = some (S.map (joD false)) := fun h => seqD_sqs false _ h
    have e9 : chkQ (josD false S) (S.map (joD false)) = fun _ => true := chkQ_sqs false _
    obtain ⟨L, eL, c1⟩ := cov_jos hl d [] x0 x1 x2 x4 x5 x6 (some (.int ((mst S d : Nat) : Int))) x9 h
    have em : ((mst S (d + 1) : Nat) : Int) = if ((mst S d : Nat) : Int) < ((cov (aJ S) (bJ S) S.length (d : Int) : Nat) : Int) then ((cov (aJ S) (bJ S) S.length (d : Int) : Nat) : Int) else ((mst S d : Nat) : Int) := by
      show ((max (mst S d) (cov (aJ S) (bJ S) S.length (d : Int)) : Nat) : Int) = _
      split <;> omega
    rw [em]
    have ln : ∀ h, lenF [.lst L] h = .ok (.int ((cov (aJ S) (bJ S) S.length (d : Int) : Nat) : Int)) h := fun h => by rw [lenF_lst, eL]
    have mx := fun h => maxF_2 (i := ((mst S d : Nat) : Int)) (j := ((cov (aJ S) (bJ S) S.length (d : Int) : Nat) : Int)) (h := h)
    generalize ((cov (aJ S) (bJ S) S.length (d : Int) : Nat) : Int) = cv at *
    generalize ((mst S d : Nat) : Int) = mv at *
    generalize (if mv < cv then cv else mv) = mw at *
    generalize S.map (joD false) = SL at *
    generalize josD false S = SD at *
    simp [-maxF_2, m_law_l3, e8, e9, c1, ln, mx]
theorem so_outH {S : List Jo} (T : YsOk S) (h : Hc) : callL (m_law_so 24) [outH S, outH S] h = .ok (.bl true) h := by
  refine so_refl 24 _ h ?_
  have hl := made_len T
  have h12 := T.len
  have f2 : soFit 23 (.tup ((cI (madeN S)).map D.int)) = true := by
    rw [show (23 : Nat) = 22 + 1 from rfl, soF_tup, Bool.and_eq_true]
    refine ⟨by rw [List.length_map, List.length_map]; simp; omega, List.all_eq_true.mpr fun x hx => ?_⟩
    obtain ⟨y, _, rfl⟩ := List.mem_map.mp hx
    rfl
  unfold outH
  generalize (cI (madeN S)).map D.int = CL at *
  rw [show (24 : Nat) = 23 + 1 from rfl, soF_tup, Bool.and_eq_true]
  refine ⟨by simp, List.all_eq_true.mpr fun x hx => ?_⟩
  rcases List.mem_cons.mp hx with e | e
  · subst e; rfl
  · rw [List.mem_singleton.mp e]; exact f2
theorem law_ok (b : Bool) (ns : List Int) (hn : ns.length ≤ 63) : ∃ h, m_law [scD b (ns.map D.int)] [] = .ok (.bl true) h := by
  obtain ⟨row, hr, _, e0⟩ := numbers_ok b ns hn
  generalize hsc : scD b (ns.map D.int) = sc at e0
  obtain ⟨v, k1, v0, v1, hk1, e1⟩ := take_ex hr (h := [.lst [.int 0]]) (i := 0) (k := 0) (l := 13) rfl (by decide) (by decide)
  obtain ⟨wide, k2, _, ⟨w1, w2⟩, hk2, e2⟩ := pick_i hr (L := [2, 5, 12, 28]) (lo := 2) (hi' := 28) (by intro x hx; simp at hx; omega) (by simp) (k := k1) (T := []) hk1
  obtain ⟨S, k3, TS, hS, hk3, e3⟩ := jobs_ex hr (many := v.toNat) (by omega) (wide := wide) (by omega) (by omega) (h := [.lst [.int k2]]) (i := 0) rfl hk2
  rw [show ((v.toNat : Nat) : Int) = v by omega] at e3
  have hl := TS.len
  obtain ⟨b1, k4, hk4, e4⟩ := handed_jos hr (S := S) (by omega) (h := [.lst [.int k3]]) (i := 0) rfl hk3
  simp only [List.set_cons_zero, List.map_cons, List.map_nil] at e1 e2 e3 e4
  have e5 := fun h => hands_ok b1 TS h
  have e6 := fun h => law_hands_ok TS h
  have e7 := fun h => so_outH TS h
  obtain ⟨y5, y6, lp⟩ := l2_loop TS (some sc) (some (.lst (row.map D.int))) (some (.ref 0)) none none none [.lst [.int k4]] S.length 0 none none (by omega)
  obtain ⟨y8, lq⟩ := l3_loop (S := S) (by omega) (some sc) (some (.lst (row.map D.int))) (some (.ref 0)) (some (outH S)) y5 y6 none [.lst [.int k4]] 31 0 none (by omega)
  rw [mst_cnt TS] at lq
  have lp' : fl (fun _ => true) (.n 5) m_law_l2 (upFrom 0 S.length) [some sc, some (.lst (row.map D.int)), some (.ref 0), some (josD false S), some (outH S), none, none, none, none, none] [.lst [.int k4]] = .nx [some sc, some (.lst (row.map D.int)), some (.ref 0), some (josD false S), some (outH S), y5, y6, none, none, none] [.lst [.int k4]] := lp
  have lq' : fl (fun _ => true) (.n 8) m_law_l3 (upFrom 0 31) [some sc, some (.lst (row.map D.int)), some (.ref 0), some (josD false S), some (outH S), y5, y6, some (.int 0), none, none] [.lst [.int k4]] = .nx [some sc, some (.lst (row.map D.int)), some (.ref 0), some (josD false S), some (outH S), y5, y6, some (.int ((cntN (madeN S) : Nat) : Int)), y8, none] [.lst [.int k4]] := lq
  clear lp lq
  have o0 := fun h => outH_ix0 S h
  have hlen : ∀ h, lenF [josD false S] h = .ok (.int (S.length : Int)) h := fun h => by unfold josD; rw [len_sqs, List.length_map]
  have g1 : ∀ h, rg1F [.int (S.length : Int)] h = .ok ⟨upFrom 0 S.length, fun _ => true⟩ h := fun h => by
    rw [rg1F_int, if_pos (rgOk_nat (by omega)), Int.toNat_natCast]
  have g2 : ∀ h, rg1F [.int 31] h = .ok ⟨upFrom 0 31, fun _ => true⟩ h := fun h => by
    rw [rg1F_int, if_pos (rgOk_of (j := 31) (by decide) (by decide))]
    rfl
  refine ⟨[.lst [.int k4]], ?_⟩
  unfold m_law
  rw [runB_s]
  generalize ((cntN (madeN S) : Nat) : Int) = cn at *
  generalize outH S = OD at *
  generalize josD false S = SD at *
  generalize josD b1 S = SE at *
  generalize row.map D.int = RD at *
  generalize upFrom 0 S.length = U1 at *
  generalize upFrom 0 31 = U2 at *
  simp [m_law_p1, m_law_p2, m_law_p3, m_law_p4, m_law_p5, m_law_p6, m_law_p7, m_law_p8, m_law_p9, e0, e1, e2, e3, e4, e5, e6, e7, hlen, g1, g2, lp', lq', o0]
end Mp
namespace Mp
open PySem PySem.Spec PyProof.Rows L2
/-! ### the defs are as their mirrors say -/
def topS (i : Nat) : Stmt := PySem.Challenge.pw_mendplan_k60_whole_hands.main.body.getD i (.Pass ⟨0, 0, 0, 0⟩)
/-- what the top has left of names that are no defs -/
structure Tx (P : Program) (w : World) (K : PySem.W.Frag) (mg : Str → Option Value) : Prop where
  ok : True
  b_range : mg "range" = none
  b_int : mg "int" = none
  b_len : mg "len" = none
  b_min : mg "min" = none
  b_tuple : mg "tuple" = none
  b_isinstance : mg "isinstance" = none
  b_list : mg "list" = none
  b_bool : mg "bool" = none
  b_str : mg "str" = none
  b_all : mg "all" = none
  b_enumerate : mg "enumerate" = none
  b_sorted : mg "sorted" = none
  b_max : mg "max" = none
  c_WORDS : TopVal K mg "WORDS" (.tup [(.str "and"), (.str "or"), (.str "of"), (.str "always"), (.str "never")])
  c_LETTERS : TopVal K mg "LETTERS" (.str "abcdefghijklmnopqrstuvwxyz")
  c_LAST_DAY : TopVal K mg "LAST_DAY" (.int 30)
  c_MOST_TRIPLES : TopVal K mg "MOST_TRIPLES" (.int 12)
  x_BadValue : XCls P w K mg "BadValue" ["self", "at"] ["at"] (spX1 "at")
section
variable {P : Program} {w : World} {K : PySem.W.Frag} {mg : Str → Option Value} {base : Heap}
abbrev sx_BadValue : Stmt := inClass (topS 17) 0
theorem scx_BadValue : FnScope ["self", "at"] ["self", "at"] (defScope sx_BadValue) := ⟨rfl, rfl, rfl, by decide +kernel, rfl, by decide +kernel, by decide +kernel⟩
theorem init_BadValue {f : Addr} {fd : FuncData} (F : Fun K "__init__" "BadValue.__init__" sx_BadValue f fd) : FnOk P w K mg base CX0 1 f fd ["self", "at"] (spX1 "at" K) := F.ok scx_BadValue (fun vs H Q E h => x1_len vs H Q E h) fun cdv A outer s H vs Q E hr h => ⟨_, pss_one (ps_xst (pv 0) (pv 1)), x1_rd rfl h⟩
abbrev sm_law_numbers : Stmt := topS 24
theorem scm_law_numbers : FnScope ["script", "row", "cell", "left", "k", "mixed"] ["script"] (defScope sm_law_numbers) := ⟨rfl, rfl, rfl, by decide +kernel, rfl, by decide +kernel, by decide +kernel⟩
theorem goodm_law_numbers (T : Tx P w K mg) (D : DefAt K mg "_law_numbers" "_law_numbers" sm_law_numbers ["script"])  : Good P w K mg base "_law_numbers" 1 ["script"] m_law_numbers :=
  (D.good (N := ["script", "row", "cell", "left", "k", "mixed"]) scm_law_numbers fun f cdv A outer s H E hr =>
  (dss_cons (ds_set (ps_set (i := 1) scm_law_numbers.nd rfl (by first | exact .inl rfl | exact .inr rfl) (de_cell da_nil)))
  (dss_cons (ds_for (ps_for (passes_of rfl) rfl (di_seq (de_sl (pe_slice sl_all (de_var (pv 0)) do_none (do_some de_int)) sld_f)) (dg_n (pg_name (i := 2) scm_law_numbers.nd rfl (by first | exact .inl rfl | exact .inr rfl)))
    (dss_one (ds_if (dt_cmp op_geA opd_ord (de_var (pv 2)) (de_op op_pow opd_pow de_int de_int) rfl)
      (dss_cons (ds_set (ps_set (i := 3) scm_law_numbers.nd rfl (by first | exact .inl rfl | exact .inr rfl) (de_var (pv 2))))
      (dss_one (ds_for (ps_for (passes_of rfl) rfl (di_rg1 (pi_range1 rfl T.b_range (da_cons de_int da_nil))) (dg_n (pg_name (i := 4) scm_law_numbers.nd rfl (by first | exact .inl rfl | exact .inr rfl)))
        (dss_cons (ds_if (dt_cmp (op_eqA (hu_of64 hr)) opd_eqA (de_var (pv 3)) de_int rfl)
          (dss_one ds_break)
          dss_nil)
        (dss_cons (ds_drop (de_bm (pe_bm PySem.F.plainAttrs_list PySem.F.slot_list_append PySem.F.type_list_append mt_append (de_var (pv 1)) (da_cons (de_op op_mod opd_mod (de_cb (pe_callTy call_int1 rfl T.b_int (by decide +kernel) (da_cons (de_var (pv 3)) da_nil)) cd_int) de_int) da_nil)) md_app))
        (dss_one (ds_set (ps_set (i := 3) scm_law_numbers.nd rfl (by first | exact .inl rfl | exact .inr rfl) (de_op op_fdivA opd_fdiv (de_var (pv 3)) de_int))))))))))
      (dss_one (ds_for (ps_for (passes_of rfl) rfl (di_rg1 (pi_range1 rfl T.b_range (da_cons de_int da_nil))) (dg_n (pg_name (i := 4) scm_law_numbers.nd rfl (by first | exact .inl rfl | exact .inr rfl)))
        (dss_cons (ds_set (ps_set (i := 5) scm_law_numbers.nd rfl (by first | exact .inl rfl | exact .inr rfl) (de_op op_mod opd_mod (de_cb (pe_callTy call_int1 rfl T.b_int (by decide +kernel) (da_cons (de_op op_addA opd_add (de_op op_addA opd_add (de_op op_mulA opd_mul (de_var (pv 2)) de_int) (de_op op_mulA opd_mul (de_var (pv 4)) de_int)) de_int) da_nil)) cd_int) de_int)))
        (dss_one (ds_drop (de_bm (pe_bm PySem.F.plainAttrs_list PySem.F.slot_list_append PySem.F.type_list_append mt_append (de_var (pv 1)) (da_cons (de_op op_mod opd_mod (de_cb (pe_callTy call_int1 rfl T.b_int (by decide +kernel) (da_cons (de_op op_addA opd_add (de_op op_mulA opd_mul (de_var (pv 5)) de_int) (de_var (pv 4))) da_nil)) cd_int) de_int) da_nil)) md_app)))))))))))
  (dss_cons (ds_if (dt_cmp (op_eqA (hu_of64 hr)) opd_eqA (de_cb (pe_callB call_lenA rfl T.b_len (by decide +kernel) (da_cons (de_var (pv 1)) da_nil)) cd_len) de_int rfl)
    (dss_one (ds_drop (de_bm (pe_bm PySem.F.plainAttrs_list PySem.F.slot_list_append PySem.F.type_list_append mt_append (de_var (pv 1)) (da_cons de_int da_nil)) md_app)))
    dss_nil)
  (dss_one (ds_ret (de_var (pv 1))))))))
abbrev sm_law_draw : Stmt := topS 25
theorem scm_law_draw : FnScope ["row", "at", "limit", "mixed"] ["row", "at", "limit"] (defScope sm_law_draw) := ⟨rfl, rfl, rfl, by decide +kernel, rfl, by decide +kernel, by decide +kernel⟩
theorem goodm_law_draw (T : Tx P w K mg) (D : DefAt K mg "_law_draw" "_law_draw" sm_law_draw ["row", "at", "limit"])  : Good P w K mg base "_law_draw" 1 ["row", "at", "limit"] m_law_draw :=
  (D.good (N := ["row", "at", "limit", "mixed"]) scm_law_draw fun f cdv A outer s H E hr =>
  (dss_cons (ds_if (dt_cmp op_ltA opd_ord (de_var (pv 1)) (de_cb (pe_callB call_lenA rfl T.b_len (by decide +kernel) (da_cons (de_var (pv 0)) da_nil)) cd_len) rfl)
    (dss_one (ds_ret (de_op op_mod opd_mod (de_cb (pe_callTy call_int1 rfl T.b_int (by decide +kernel) (da_cons (de_ix ix_seq opd_ix (de_var (pv 0)) (de_var (pv 1)) (fun _ _ => rfl)) da_nil)) cd_int) (de_var (pv 2)))))
    dss_nil)
  (dss_cons (ds_set (ps_set (i := 3) scm_law_draw.nd rfl (by first | exact .inl rfl | exact .inr rfl) (de_op op_mod opd_mod (de_cb (pe_callTy call_int1 rfl T.b_int (by decide +kernel) (da_cons (de_op op_addA opd_add (de_op op_addA opd_add (de_op op_mulA opd_mul (de_ix ix_seq opd_ix (de_var (pv 0)) (de_op op_mod opd_mod (de_cb (pe_callTy call_int1 rfl T.b_int (by decide +kernel) (da_cons (de_var (pv 1)) da_nil)) cd_int) (de_cb (pe_callB call_lenA rfl T.b_len (by decide +kernel) (da_cons (de_var (pv 0)) da_nil)) cd_len)) (fun _ _ => rfl)) de_int) (de_op op_mulA opd_mul (de_var (pv 1)) de_int)) de_int) da_nil)) cd_int) de_int)))
  (dss_one (ds_ret (de_op op_mod opd_mod (de_cb (pe_callTy call_int1 rfl T.b_int (by decide +kernel) (da_cons (de_op op_mod opd_mod (de_cb (pe_callTy call_int1 rfl T.b_int (by decide +kernel) (da_cons (de_op op_addA opd_add (de_op op_mulA opd_mul (de_var (pv 3)) de_int) (de_var (pv 1))) da_nil)) cd_int) de_int) da_nil)) cd_int) (de_var (pv 2))))))))
abbrev sm_law_take : Stmt := topS 26
theorem scm_law_take : FnScope ["row", "spot", "limit"] ["row", "spot", "limit"] (defScope sm_law_take) := ⟨rfl, rfl, rfl, by decide +kernel, rfl, by decide +kernel, by decide +kernel⟩
theorem goodm_law_take (T : Tx P w K mg) (D : DefAt K mg "_law_take" "_law_take" sm_law_take ["row", "spot", "limit"]) (G_law_draw : Good P w K mg base "_law_draw" 1 ["row", "at", "limit"] m_law_draw) : Good P w K mg base "_law_take" 2 ["row", "spot", "limit"] m_law_take :=
  (D.good (N := ["row", "spot", "limit"]) scm_law_take fun f cdv A outer s H E hr =>
  (dss_cons (ds_put (ps_asg (de_op op_addA opd_add (de_ix ix_seq opd_ix (de_var (pv 1)) de_int (fun _ _ => rfl)) de_int) (pg_sub (de_var (pv 1)) de_int set_list)) sd_set)
  (dss_one (ds_ret (dc (takes_of rfl rfl rfl rfl) G_law_draw (hr.mono (by decide)) rfl rfl ((aCons_len (aCons_len (aCons_len aNil_len)))) (da_cons (de_var (pv 0)) (da_cons (de_op op_sub opd_sub (de_ix ix_seq opd_ix (de_var (pv 1)) de_int (fun _ _ => rfl)) de_int) (da_cons (de_var (pv 2)) da_nil))))))))
abbrev sm_law_pick : Stmt := topS 29
theorem scm_law_pick : FnScope ["row", "spot", "things"] ["row", "spot", "things"] (defScope sm_law_pick) := ⟨rfl, rfl, rfl, by decide +kernel, rfl, by decide +kernel, by decide +kernel⟩
theorem goodm_law_pick (T : Tx P w K mg) (D : DefAt K mg "_law_pick" "_law_pick" sm_law_pick ["row", "spot", "things"]) (G_law_take : Good P w K mg base "_law_take" 2 ["row", "spot", "limit"] m_law_take) : Good P w K mg base "_law_pick" 3 ["row", "spot", "things"] m_law_pick :=
  (D.good (N := ["row", "spot", "things"]) scm_law_pick fun f cdv A outer s H E hr =>
  (dss_one (ds_ret (de_ix ix_seq opd_ix (de_var (pv 2)) (dc (takes_of rfl rfl rfl rfl) G_law_take (hr.mono (by decide)) rfl rfl ((aCons_len (aCons_len (aCons_len aNil_len)))) (da_cons (de_var (pv 0)) (da_cons (de_var (pv 1)) (da_cons (de_cb (pe_callB call_lenA rfl T.b_len (by decide +kernel) (da_cons (de_var (pv 2)) da_nil)) cd_len) da_nil)))) (fun _ _ => rfl)))))
abbrev sm_law_letters : Stmt := topS 30
theorem scm_law_letters : FnScope ["row", "spot", "many", "made", "k"] ["row", "spot", "many"] (defScope sm_law_letters) := ⟨rfl, rfl, rfl, by decide +kernel, rfl, by decide +kernel, by decide +kernel⟩
theorem goodm_law_letters (T : Tx P w K mg) (D : DefAt K mg "_law_letters" "_law_letters" sm_law_letters ["row", "spot", "many"]) (G_law_take : Good P w K mg base "_law_take" 2 ["row", "spot", "limit"] m_law_take) : Good P w K mg base "_law_letters" 3 ["row", "spot", "many"] m_law_letters :=
  (D.good (N := ["row", "spot", "many", "made", "k"]) scm_law_letters fun f cdv A outer s H E hr =>
  (dss_cons (ds_set (ps_set (i := 3) scm_law_letters.nd rfl (by first | exact .inl rfl | exact .inr rfl) de_str))
  (dss_cons (ds_for (ps_for (passes_of rfl) rfl (di_rg1 (pi_range1 rfl T.b_range (da_cons (de_var (pv 2)) da_nil))) (dg_n (pg_name (i := 4) scm_law_letters.nd rfl (by first | exact .inl rfl | exact .inr rfl)))
    (dss_one (ds_set (ps_set (i := 3) scm_law_letters.nd rfl (by first | exact .inl rfl | exact .inr rfl) (de_op op_addA opd_add (de_var (pv 3)) (de_ix ix_seq opd_ix de_str (dc (takes_of rfl rfl rfl rfl) G_law_take (hr.mono (by decide)) rfl rfl ((aCons_len (aCons_len (aCons_len aNil_len)))) (da_cons (de_var (pv 0)) (da_cons (de_var (pv 1)) (da_cons de_int da_nil)))) (fun _ _ => rfl))))))))
  (dss_one (ds_ret (de_var (pv 3)))))))
abbrev sm_law_reserved : Stmt := topS 31
theorem scm_law_reserved : FnScope [] [] (defScope sm_law_reserved) := ⟨rfl, rfl, rfl, by decide +kernel, rfl, by decide +kernel, by decide +kernel⟩
theorem goodm_law_reserved (T : Tx P w K mg) (D : DefAt K mg "_law_reserved" "_law_reserved" sm_law_reserved [])  : Good P w K mg base "_law_reserved" 1 [] m_law_reserved :=
  (D.good (N := []) scm_law_reserved fun f cdv A outer s H E hr =>
  (dss_one (ds_ret (de_lst (da_cons de_str (da_cons de_str (da_cons de_str (da_cons de_str (da_cons de_str da_nil)))))))))
abbrev sm_law_name : Stmt := topS 32
theorem scm_law_name : FnScope ["row", "spot", "used", "made", "k"] ["row", "spot", "used"] (defScope sm_law_name) := ⟨rfl, rfl, rfl, by decide +kernel, rfl, by decide +kernel, by decide +kernel⟩
theorem goodm_law_name (T : Tx P w K mg) (D : DefAt K mg "_law_name" "_law_name" sm_law_name ["row", "spot", "used"]) (G_law_letters : Good P w K mg base "_law_letters" 3 ["row", "spot", "many"] m_law_letters) (G_law_take : Good P w K mg base "_law_take" 2 ["row", "spot", "limit"] m_law_take) (G_law_reserved : Good P w K mg base "_law_reserved" 1 [] m_law_reserved) : Good P w K mg base "_law_name" 4 ["row", "spot", "used"] m_law_name :=
  (D.good (N := ["row", "spot", "used", "made", "k"]) scm_law_name fun f cdv A outer s H E hr =>
  (dss_cons (ds_set (ps_set (i := 3) scm_law_name.nd rfl (by first | exact .inl rfl | exact .inr rfl) (dc (takes_of rfl rfl rfl rfl) G_law_letters (hr.mono (by decide)) rfl rfl ((aCons_len (aCons_len (aCons_len aNil_len)))) (da_cons (de_var (pv 0)) (da_cons (de_var (pv 1)) (da_cons (de_op op_addA opd_add de_int (dc (takes_of rfl rfl rfl rfl) G_law_take (hr.mono (by decide)) rfl rfl ((aCons_len (aCons_len (aCons_len aNil_len)))) (da_cons (de_var (pv 0)) (da_cons (de_var (pv 1)) (da_cons (de_if (dt_cmp op_gtA opd_ord (dc (takes_of rfl rfl rfl rfl) G_law_take (hr.mono (by decide)) rfl rfl ((aCons_len (aCons_len (aCons_len aNil_len)))) (da_cons (de_var (pv 0)) (da_cons (de_var (pv 1)) (da_cons de_int da_nil)))) de_int rfl) de_int de_int) da_nil))))) da_nil))))))
  (dss_cons (ds_for (ps_for (passes_of rfl) rfl (di_rg1 (pi_range1 rfl T.b_range (da_cons de_int da_nil))) (dg_n (pg_name (i := 4) scm_law_name.nd rfl (by first | exact .inl rfl | exact .inr rfl)))
    (dss_cons (ds_if (PW.pt (dw_and (dt_cmp op_notInA opd_in (de_var (pv 3)) (de_var (pv 2)) rfl) (dw_and1 (dt_cmp op_notInA opd_in (de_var (pv 3)) (dc0 (takes_of rfl rfl rfl rfl) G_law_reserved (hr.mono (by decide)) rfl rfl) rfl))))
      (dss_one ds_break)
      dss_nil)
    (dss_cons (ds_set (ps_set (i := 3) scm_law_name.nd rfl (by first | exact .inl rfl | exact .inr rfl) (de_op op_addA opd_add (de_sl (pe_slice sl_all (de_var (pv 3)) do_none (do_some de_int)) sld_f) (de_ix ix_seq opd_ix de_str (de_op op_mod opd_mod (de_cb (pe_callTy call_int1 rfl T.b_int (by decide +kernel) (da_cons (de_op op_addA opd_add (de_op op_mulA opd_mul (de_var (pv 4)) de_int) (de_cb (pe_callB call_lenA rfl T.b_len (by decide +kernel) (da_cons (de_var (pv 2)) da_nil)) cd_len)) da_nil)) cd_int) de_int) (fun _ _ => rfl)))))
    (dss_one (ds_if (dt_cmp op_gtA opd_ord (de_var (pv 4)) de_int rfl)
      (dss_one (ds_set (ps_set (i := 3) scm_law_name.nd rfl (by first | exact .inl rfl | exact .inr rfl) (de_op op_addA opd_add (de_sl (pe_slice sl_all (de_var (pv 3)) (do_some de_int) do_none) sld_f) de_str))))
      dss_nil))))))
  (dss_cons (ds_drop (de_bm (pe_bm PySem.F.plainAttrs_list PySem.F.slot_list_append PySem.F.type_list_append mt_append (de_var (pv 2)) (da_cons (de_var (pv 3)) da_nil)) md_app))
  (dss_one (ds_ret (de_var (pv 3))))))))
abbrev sm_law_jobs : Stmt := topS 33
theorem scm_law_jobs : FnScope ["row", "spot", "many", "wide", "used", "made", "k", "first", "last"] ["row", "spot", "many", "wide"] (defScope sm_law_jobs) := ⟨rfl, rfl, rfl, by decide +kernel, rfl, by decide +kernel, by decide +kernel⟩
theorem goodm_law_jobs (T : Tx P w K mg) (D : DefAt K mg "_law_jobs" "_law_jobs" sm_law_jobs ["row", "spot", "many", "wide"]) (G_law_take : Good P w K mg base "_law_take" 2 ["row", "spot", "limit"] m_law_take) (G_law_pick : Good P w K mg base "_law_pick" 3 ["row", "spot", "things"] m_law_pick) (G_law_name : Good P w K mg base "_law_name" 4 ["row", "spot", "used"] m_law_name) : Good P w K mg base "_law_jobs" 5 ["row", "spot", "many", "wide"] m_law_jobs :=
  (D.good (N := ["row", "spot", "many", "wide", "used", "made", "k", "first", "last"]) scm_law_jobs fun f cdv A outer s H E hr =>
  (dss_cons (ds_set (ps_set (i := 4) scm_law_jobs.nd rfl (by first | exact .inl rfl | exact .inr rfl) (de_cell da_nil)))
  (dss_cons (ds_set (ps_set (i := 5) scm_law_jobs.nd rfl (by first | exact .inl rfl | exact .inr rfl) (de_cell da_nil)))
  (dss_cons (ds_for (ps_for (passes_of rfl) rfl (di_rg1 (pi_range1 rfl T.b_range (da_cons (de_var (pv 2)) da_nil))) (dg_n (pg_name (i := 6) scm_law_jobs.nd rfl (by first | exact .inl rfl | exact .inr rfl)))
    (dss_cons (ds_set (ps_set (i := 7) scm_law_jobs.nd rfl (by first | exact .inl rfl | exact .inr rfl) (dc (takes_of rfl rfl rfl rfl) G_law_take (hr.mono (by decide)) rfl rfl ((aCons_len (aCons_len (aCons_len aNil_len)))) (da_cons (de_var (pv 0)) (da_cons (de_var (pv 1)) (da_cons (de_var (pv 3)) da_nil))))))
    (dss_cons (ds_set (ps_set (i := 8) scm_law_jobs.nd rfl (by first | exact .inl rfl | exact .inr rfl) (de_cb (pe_callB (call_minB rfl) rfl T.b_min (by decide +kernel) (da_cons de_int (da_cons (de_op op_addA opd_add (de_var (pv 7)) (dc (takes_of rfl rfl rfl rfl) G_law_pick (hr.mono (by decide)) rfl rfl ((aCons_len (aCons_len (aCons_len aNil_len)))) (da_cons (de_var (pv 0)) (da_cons (de_var (pv 1)) (da_cons (de_lst (da_cons de_int (da_cons de_int (da_cons de_int (da_cons de_int (da_cons de_int (da_cons de_int (da_cons (de_var (pv 3)) da_nil)))))))) da_nil))))) da_nil))) cd_min)))
    (dss_one (ds_drop (de_bm (pe_bm PySem.F.plainAttrs_list PySem.F.slot_list_append PySem.F.type_list_append mt_append (de_var (pv 5)) (da_cons (de_tup (da_cons (dc (takes_of rfl rfl rfl rfl) G_law_name (hr.mono (by decide)) rfl rfl ((aCons_len (aCons_len (aCons_len aNil_len)))) (da_cons (de_var (pv 0)) (da_cons (de_var (pv 1)) (da_cons (de_var (pv 4)) da_nil)))) (da_cons (de_var (pv 7)) (da_cons (de_var (pv 8)) da_nil)))) da_nil)) md_app)))))))
  (dss_one (ds_ret (de_cb (pe_callTy call_tuple_of rfl T.b_tuple (by decide +kernel) (da_cons (de_var (pv 5)) da_nil)) cd_tuple)))))))
abbrev sm_all_different : Stmt := topS 8
theorem scm_all_different : FnScope ["row", "seen", "x"] ["row"] (defScope sm_all_different) := ⟨rfl, rfl, rfl, by decide +kernel, rfl, by decide +kernel, by decide +kernel⟩
theorem goodm_all_different (T : Tx P w K mg) (D : DefAt K mg "all_different" "all_different" sm_all_different ["row"])  : Good P w K mg base "all_different" 1 ["row"] m_all_different :=
  (D.good (N := ["row", "seen", "x"]) scm_all_different fun f cdv A outer s H E hr =>
  (dss_cons (ds_set (ps_set (i := 1) scm_all_different.nd rfl (by first | exact .inl rfl | exact .inr rfl) de_dct0))
  (dss_cons (ds_for (ps_for (passes_of rfl) rfl (di_seq (de_var (pv 0))) (dg_n (pg_name (i := 2) scm_all_different.nd rfl (by first | exact .inl rfl | exact .inr rfl)))
    (dss_cons (ds_if (dt_din (hu_1 hr) (de_var (pv 2)) (de_var (pv 1)))
      (dss_one (ds_ret de_bl))
      dss_nil)
    (dss_one (ds_dput (hu_1 hr) (de_var (pv 1)) (de_var (pv 2)) de_bl)))))
  (dss_one (ds_ret de_bl)))))
abbrev sm_is_sequence : Stmt := topS 5
theorem scm_is_sequence : FnScope ["x"] ["x"] (defScope sm_is_sequence) := ⟨rfl, rfl, rfl, by decide +kernel, rfl, by decide +kernel, by decide +kernel⟩
theorem goodm_is_sequence (T : Tx P w K mg) (D : DefAt K mg "is_sequence" "is_sequence" sm_is_sequence ["x"])  : Good P w K mg base "is_sequence" 1 ["x"] m_is_sequence :=
  (D.good (N := ["x"]) scm_is_sequence fun f cdv A outer s H E hr =>
  (dss_one (ds_ret (de_is2 (pe_callB call_isiT rfl T.b_isinstance PyProof.Rows.boot_isinstance (pa_cons (de_var (pv 0)) (pa_cons (pe_tup (pa_cons (pe_bltn rfl T.b_list (by decide +kernel) rfl) (pa_cons (pe_bltn rfl T.b_tuple (by decide +kernel) rfl) pa_nil))) pa_nil)))))))
abbrev sm_is_row : Stmt := topS 6
theorem scm_is_row : FnScope ["x", "least", "most"] ["x", "least", "most"] (defScope sm_is_row) := ⟨rfl, rfl, rfl, by decide +kernel, rfl, by decide +kernel, by decide +kernel⟩
theorem goodm_is_row (T : Tx P w K mg) (D : DefAt K mg "is_row" "is_row" sm_is_row ["x", "least", "most"]) (Gis_sequence : Good P w K mg base "is_sequence" 1 ["x"] m_is_sequence) : Good P w K mg base "is_row" 2 ["x", "least", "most"] m_is_row :=
  (D.good (N := ["x", "least", "most"]) scm_is_row fun f cdv A outer s H E hr =>
  (dss_one (ds_ret (de_and (dc (takes_of rfl rfl rfl rfl) Gis_sequence (hr.mono (by decide)) rfl rfl ((aCons_len aNil_len)) (da_cons (de_var (pv 0)) da_nil)) (de_and (de_cmp op_leA opd_ord (de_var (pv 1)) (de_cb (pe_callB call_lenA rfl T.b_len (by decide +kernel) (da_cons (de_var (pv 0)) da_nil)) cd_len) rfl) (de_one (de_cmp op_leA opd_ord (de_cb (pe_callB call_lenA rfl T.b_len (by decide +kernel) (da_cons (de_var (pv 0)) da_nil)) cd_len) (de_var (pv 2)) rfl)))))))
abbrev sm_is_integer : Stmt := topS 3
theorem scm_is_integer : FnScope ["x"] ["x"] (defScope sm_is_integer) := ⟨rfl, rfl, rfl, by decide +kernel, rfl, by decide +kernel, by decide +kernel⟩
theorem goodm_is_integer (T : Tx P w K mg) (D : DefAt K mg "is_integer" "is_integer" sm_is_integer ["x"])  : Good P w K mg base "is_integer" 1 ["x"] m_is_integer :=
  (D.good (N := ["x"]) scm_is_integer fun f cdv A outer s H E hr =>
  (dss_one (ds_ret (de_and (de_cb (pe_callB call_isi rfl T.b_isinstance (by decide +kernel) (da_cons (de_var (pv 0)) (da_cons (de_bty rfl T.b_int (by decide +kernel)) da_nil))) cd_is) (de_one (de_not (de_cb (pe_callB call_isi rfl T.b_isinstance (by decide +kernel) (da_cons (de_var (pv 0)) (da_cons (de_bty rfl T.b_bool (by decide +kernel)) da_nil))) cd_is)))))))
abbrev sm_is_within : Stmt := topS 4
theorem scm_is_within : FnScope ["x", "low", "high"] ["x", "low", "high"] (defScope sm_is_within) := ⟨rfl, rfl, rfl, by decide +kernel, rfl, by decide +kernel, by decide +kernel⟩
theorem goodm_is_within (T : Tx P w K mg) (D : DefAt K mg "is_within" "is_within" sm_is_within ["x", "low", "high"]) (Gis_integer : Good P w K mg base "is_integer" 1 ["x"] m_is_integer) : Good P w K mg base "is_within" 2 ["x", "low", "high"] m_is_within :=
  (D.good (N := ["x", "low", "high"]) scm_is_within fun f cdv A outer s H E hr =>
  (dss_one (ds_ret (de_and (dc (takes_of rfl rfl rfl rfl) Gis_integer (hr.mono (by decide)) rfl rfl ((aCons_len aNil_len)) (da_cons (de_var (pv 0)) da_nil)) (de_and (de_cmp op_leA opd_ord (de_var (pv 1)) (de_var (pv 0)) rfl) (de_one (de_cmp op_leA opd_ord (de_var (pv 0)) (de_var (pv 2)) rfl)))))))
abbrev sm_is_name : Stmt := topS 7
theorem scm_is_name : FnScope ["x", "sign"] ["x"] (defScope sm_is_name) := ⟨rfl, rfl, rfl, by decide +kernel, rfl, by decide +kernel, by decide +kernel⟩
theorem goodm_is_name (T : Tx P w K mg) (D : DefAt K mg "is_name" "is_name" sm_is_name ["x"])  : Good P w K mg base "is_name" 1 ["x"] m_is_name :=
  (D.good (N := ["x", "sign"]) scm_is_name fun f cdv A outer s H E hr =>
  (dss_cons (ds_if (PW.pt (dw_or (dt_not (dt_tru (de_cb (pe_callB call_isi rfl T.b_isinstance (by decide +kernel) (da_cons (de_var (pv 0)) (da_cons (de_bty rfl T.b_str (by decide +kernel)) da_nil))) cd_is))) (dw_or (dt_cmp (op_eqA (hu_of64 hr)) opd_eqA (de_cb (pe_callB call_lenA rfl T.b_len (by decide +kernel) (da_cons (de_var (pv 0)) da_nil)) cd_len) de_int rfl) (dw_or (dt_cmp op_gtA opd_ord (de_cb (pe_callB call_lenA rfl T.b_len (by decide +kernel) (da_cons (de_var (pv 0)) da_nil)) cd_len) de_int rfl) (dw_or1 (dt_cmp op_inA opd_in (de_var (pv 0)) (de_top rfl T.c_WORDS) rfl))))))
    (dss_one (ds_ret de_bl))
    dss_nil)
  (dss_one (ds_ret (de_cb (pe_callB (cr_all rfl) rfl T.b_all (by decide +kernel) (da_cons (de_lc (by decide) (pe_lc (own := [("sign", 1)]) rfl scm_is_name.nd (di_str (de_var (pv 0))) (blkOk_by (N := ["x", "sign"]) (sc := (defScope sm_is_name)) (by decide +kernel)) (fun _ _ _ _ _ => (dg_n (pg_name (i := 1) scm_is_name.nd rfl (by first | exact .inl rfl | exact .inr rfl)))) (fun _ _ _ _ _ => dts_nil) (fun _ _ _ _ _ => (de_cmp op_inA opd_in (de_var (pv 1)) (de_top rfl T.c_LETTERS) rfl)))) da_nil)) cd_all)))))
abbrev sm_is_triple : Stmt := topS 12
theorem scm_is_triple : FnScope ["row"] ["row"] (defScope sm_is_triple) := ⟨rfl, rfl, rfl, by decide +kernel, rfl, by decide +kernel, by decide +kernel⟩
theorem goodm_is_triple (T : Tx P w K mg) (D : DefAt K mg "is_triple" "is_triple" sm_is_triple ["row"]) (Gis_within : Good P w K mg base "is_within" 2 ["x", "low", "high"] m_is_within) (Gis_row : Good P w K mg base "is_row" 2 ["x", "least", "most"] m_is_row) (Gis_name : Good P w K mg base "is_name" 1 ["x"] m_is_name) : Good P w K mg base "is_triple" 3 ["row"] m_is_triple :=
  (D.good (N := ["row"]) scm_is_triple fun f cdv A outer s H E hr =>
  (dss_cons (ds_if (PW.pt (dw_or (dt_not (dt_tru (dc (takes_of rfl rfl rfl rfl) Gis_row (hr.mono (by decide)) rfl rfl ((aCons_len (aCons_len (aCons_len aNil_len)))) (da_cons (de_var (pv 0)) (da_cons de_int (da_cons de_int da_nil)))))) (dw_or1 (dt_not (dt_tru (dc (takes_of rfl rfl rfl rfl) Gis_name (hr.mono (by decide)) rfl rfl ((aCons_len aNil_len)) (da_cons (de_ix ix_seq opd_ix (de_var (pv 0)) de_int (fun _ _ => rfl)) da_nil)))))))
    (dss_one (ds_ret de_bl))
    dss_nil)
  (dss_one (ds_ret (de_and (dc (takes_of rfl rfl rfl rfl) Gis_within (hr.mono (by decide)) rfl rfl ((aCons_len (aCons_len (aCons_len aNil_len)))) (da_cons (de_ix ix_seq opd_ix (de_var (pv 0)) de_int (fun _ _ => rfl)) (da_cons de_int (da_cons (de_top rfl T.c_LAST_DAY) da_nil)))) (de_one (dc (takes_of rfl rfl rfl rfl) Gis_within (hr.mono (by decide)) rfl rfl ((aCons_len (aCons_len (aCons_len aNil_len)))) (da_cons (de_ix ix_seq opd_ix (de_var (pv 0)) de_int (fun _ _ => rfl)) (da_cons (de_ix ix_seq opd_ix (de_var (pv 0)) de_int (fun _ _ => rfl)) (da_cons (de_top rfl T.c_LAST_DAY) da_nil))))))))))
abbrev sm_are_triples : Stmt := topS 13
theorem scm_are_triples : FnScope ["rows", "row"] ["rows"] (defScope sm_are_triples) := ⟨rfl, rfl, rfl, by decide +kernel, rfl, by decide +kernel, by decide +kernel⟩
theorem goodm_are_triples (T : Tx P w K mg) (D : DefAt K mg "are_triples" "are_triples" sm_are_triples ["rows"]) (Gall_different : Good P w K mg base "all_different" 1 ["row"] m_all_different) (Gis_row : Good P w K mg base "is_row" 2 ["x", "least", "most"] m_is_row) (Gis_triple : Good P w K mg base "is_triple" 3 ["row"] m_is_triple) : Good P w K mg base "are_triples" 4 ["rows"] m_are_triples :=
  (D.good (N := ["rows", "row"]) scm_are_triples fun f cdv A outer s H E hr =>
  (dss_cons (ds_if (PW.pt (dw_or (dt_not (dt_tru (dc (takes_of rfl rfl rfl rfl) Gis_row (hr.mono (by decide)) rfl rfl ((aCons_len (aCons_len (aCons_len aNil_len)))) (da_cons (de_var (pv 0)) (da_cons de_int (da_cons (de_top rfl T.c_MOST_TRIPLES) da_nil)))))) (dw_or1 (dt_not (dt_tru (de_cb (pe_callB (cr_all rfl) rfl T.b_all (by decide +kernel) (da_cons (de_lc (by decide) (pe_lc (own := [("row", 1)]) rfl scm_are_triples.nd (di_seq (de_var (pv 0))) (blkOk_by (N := ["rows", "row"]) (sc := (defScope sm_are_triples)) (by decide +kernel)) (fun _ _ _ _ _ => (dg_n (pg_name (i := 1) scm_are_triples.nd rfl (by first | exact .inl rfl | exact .inr rfl)))) (fun _ _ _ _ _ => dts_nil) (fun _ _ _ _ _ => (dc takes0 Gis_triple (hr.mono (by decide)) rfl rfl ((aCons_len aNil_len)) (da_cons (de_var (pv 1)) da_nil))))) da_nil)) cd_all))))))
    (dss_one (ds_ret de_bl))
    dss_nil)
  (dss_one (ds_ret (dc (takes_of rfl rfl rfl rfl) Gall_different (hr.mono (by decide)) rfl rfl ((aCons_len aNil_len)) (da_cons (de_lc (by decide) (pe_lc (own := [("row", 1)]) rfl scm_are_triples.nd (di_seq (de_var (pv 0))) (blkOk_by (N := ["rows", "row"]) (sc := (defScope sm_are_triples)) (by decide +kernel)) (fun _ _ _ _ _ => (dg_n (pg_name (i := 1) scm_are_triples.nd rfl (by first | exact .inl rfl | exact .inr rfl)))) (fun _ _ _ _ _ => dts_nil) (fun _ _ _ _ _ => (de_ix ix_seq opd_ix (de_var (pv 1)) de_int (fun _ _ => rfl))))) da_nil))))))
abbrev sm_check_triples : Stmt := topS 19
theorem scm_check_triples : FnScope ["rows"] ["rows"] (defScope sm_check_triples) := ⟨rfl, rfl, rfl, by decide +kernel, rfl, by decide +kernel, by decide +kernel⟩
theorem goodm_check_triples (T : Tx P w K mg) (D : DefAt K mg "check_triples" "check_triples" sm_check_triples ["rows"]) (Gare_triples : Good P w K mg base "are_triples" 4 ["rows"] m_are_triples) : Good P w K mg base "check_triples" 5 ["rows"] m_check_triples :=
  (D.good (N := ["rows"]) scm_check_triples fun f cdv A outer s H E hr =>
  (dss_one (ds_if (dt_not (dt_tru (dc (takes_of rfl rfl rfl rfl) Gare_triples (hr.mono (by decide)) rfl rfl ((aCons_len aNil_len)) (da_cons (de_var (pv 0)) da_nil))))
    (dss_one (ds_raise1 rfl (takes_of rfl rfl rfl rfl) T.x_BadValue (hr.mono (by decide)) rfl (da_cons de_int da_nil)))
    dss_nil)))
abbrev sm_overlap : Stmt := topS 14
theorem scm_overlap : FnScope ["one", "other"] ["one", "other"] (defScope sm_overlap) := ⟨rfl, rfl, rfl, by decide +kernel, rfl, by decide +kernel, by decide +kernel⟩
theorem goodm_overlap (T : Tx P w K mg) (D : DefAt K mg "overlap" "overlap" sm_overlap ["one", "other"])  : Good P w K mg base "overlap" 1 ["one", "other"] m_overlap :=
  (D.good (N := ["one", "other"]) scm_overlap fun f cdv A outer s H E hr =>
  (dss_one (ds_ret (de_and (de_cmp op_leA opd_ord (de_ix ix_seq opd_ix (de_var (pv 0)) de_int (fun _ _ => rfl)) (de_ix ix_seq opd_ix (de_var (pv 1)) de_int (fun _ _ => rfl)) rfl) (de_one (de_cmp op_leA opd_ord (de_ix ix_seq opd_ix (de_var (pv 1)) de_int (fun _ _ => rfl)) (de_ix ix_seq opd_ix (de_var (pv 0)) de_int (fun _ _ => rfl)) rfl))))))
abbrev sm_free_hand : Stmt := topS 20
theorem scm_free_hand : FnScope ["spans", "numbers", "at", "busy", "hand", "k", "span"] ["spans", "numbers", "at"] (defScope sm_free_hand) := ⟨rfl, rfl, rfl, by decide +kernel, rfl, by decide +kernel, by decide +kernel⟩
theorem goodm_free_hand (T : Tx P w K mg) (D : DefAt K mg "free_hand" "free_hand" sm_free_hand ["spans", "numbers", "at"]) (Goverlap : Good P w K mg base "overlap" 1 ["one", "other"] m_overlap) : Good P w K mg base "free_hand" 2 ["spans", "numbers", "at"] m_free_hand :=
  (D.good (N := ["spans", "numbers", "at", "busy", "hand", "k", "span"]) scm_free_hand fun f cdv A outer s H E hr =>
  (dss_cons (ds_setLc (by decide) (ps_setLc (own := [("k", 5), ("span", 6)]) rfl scm_free_hand.nd rfl rfl (sw_true rfl rfl rfl (by decide +kernel)) (di_enu (pi_enB rfl T.b_enumerate (da_cons (de_var (pv 0)) da_nil))) (blkOk_by (N := ["spans", "numbers", "at", "busy", "hand", "k", "span"]) (sc := (defScope sm_free_hand)) (by decide +kernel)) (fun _ _ _ _ _ => (dgT rfl (dgsC (dg_n (pg_name (i := 5) scm_free_hand.nd rfl (by first | exact .inl rfl | exact .inr rfl))) (dgsC (dg_n (pg_name (i := 6) scm_free_hand.nd rfl (by first | exact .inl rfl | exact .inr rfl))) dgs_nil (fun a b => pgs_cons a b)) (fun a b => pgs_cons a b)) (fun a => pg_tup rfl a) (fun a => pg_lst rfl a))) (fun _ _ _ _ _ => (dts_one (PW.pt (dw_and (dt_cmp op_notN opd_notn (de_ix ix_seq opd_ix (de_var (pv 1)) (de_var (pv 5)) (fun _ _ => rfl)) de_non rfl) (dw_and1 (dt_tru (dc takes0 Goverlap (hr.mono (by decide)) rfl rfl ((aCons_len (aCons_len aNil_len))) (da_cons (de_var (pv 6)) (da_cons (de_ix ix_seq opd_ix (de_var (pv 0)) (de_var (pv 2)) (fun _ _ => rfl)) da_nil))))))))) (fun _ _ _ _ _ => (de_ix ix_seq opd_ix (de_var (pv 1)) (de_var (pv 5)) (fun _ _ => rfl)))))
  (dss_cons (ds_set (ps_set (i := 4) scm_free_hand.nd rfl (by first | exact .inl rfl | exact .inr rfl) de_int))
  (dss_cons (ds_while 100000 (passes_of rfl) (dt_cmp op_inA opd_in (de_var (pv 4)) (de_var (pv 3)) rfl)
    (dss_one (ds_aug (ps_aug (i := 4) scm_free_hand.nd rfl (by first | exact .inl rfl | exact .inr rfl) de_int iop_add) opd_addI)))
  (dss_one (ds_ret (de_var (pv 4))))))))
abbrev sm_hands : Stmt := topS 21
theorem scm_hands : FnScope ["spans", "numbers", "_", "at", "count", "span", "number"] ["spans"] (defScope sm_hands) := ⟨rfl, rfl, rfl, by decide +kernel, rfl, by decide +kernel, by decide +kernel⟩
theorem goodm_hands (T : Tx P w K mg) (D : DefAt K mg "hands" "hands" sm_hands ["spans"]) (Gcheck_triples : Good P w K mg base "check_triples" 5 ["rows"] m_check_triples) (Gfree_hand : Good P w K mg base "free_hand" 2 ["spans", "numbers", "at"] m_free_hand) : Good P w K mg base "hands" 6 ["spans"] m_hands :=
  (D.good (N := ["spans", "numbers", "_", "at", "count", "span", "number"]) scm_hands fun f cdv A outer s H E hr =>
  (dss_cons (ds_drop (dc (takes_of rfl rfl rfl rfl) Gcheck_triples (hr.mono (by decide)) rfl rfl ((aCons_len aNil_len)) (da_cons (de_var (pv 0)) da_nil)))
  (dss_cons (ds_set (ps_set (i := 1) scm_hands.nd rfl (by first | exact .inl rfl | exact .inr rfl) (de_op op_mulA opd_mulC (de_lst (da_cons de_non da_nil)) (de_cb (pe_callB call_lenA rfl T.b_len (by decide +kernel) (da_cons (de_var (pv 0)) da_nil)) cd_len))))
  (dss_cons (ds_for (ps_for (passes_of rfl) rfl (di_seq (de_cb (pe_callB (call_sortA rfl) rfl T.b_sorted (by decide +kernel) (da_cons (de_lc (by decide) (pe_lc (own := [("at", 3), ("span", 5)]) rfl scm_hands.nd (di_enu (pi_enB rfl T.b_enumerate (da_cons (de_var (pv 0)) da_nil))) (blkOk_by (N := ["spans", "numbers", "_", "at", "count", "span", "number"]) (sc := (defScope sm_hands)) (by decide +kernel)) (fun _ _ _ _ _ => (dgT rfl (dgsC (dg_n (pg_name (i := 3) scm_hands.nd rfl (by first | exact .inl rfl | exact .inr rfl))) (dgsC (dg_n (pg_name (i := 5) scm_hands.nd rfl (by first | exact .inl rfl | exact .inr rfl))) dgs_nil (fun a b => pgs_cons a b)) (fun a b => pgs_cons a b)) (fun a => pg_tup rfl a) (fun a => pg_lst rfl a))) (fun _ _ _ _ _ => dts_nil) (fun _ _ _ _ _ => (de_tup (da_cons (de_ix ix_seq opd_ix (de_var (pv 5)) de_int (fun _ _ => rfl)) (da_cons (de_var (pv 3)) da_nil)))))) da_nil)) cd_sort)) (dgT rfl (dgsC (dg_n (pg_name (i := 2) scm_hands.nd rfl (by first | exact .inl rfl | exact .inr rfl))) (dgsC (dg_n (pg_name (i := 3) scm_hands.nd rfl (by first | exact .inl rfl | exact .inr rfl))) dgs_nil (fun a b => pgs_cons a b)) (fun a b => pgs_cons a b)) (fun a => pg_tup rfl a) (fun a => pg_lst rfl a))
    (dss_one (ds_put (ps_asg (dc (takes_of rfl rfl rfl rfl) Gfree_hand (hr.mono (by decide)) rfl rfl ((aCons_len (aCons_len (aCons_len aNil_len)))) (da_cons (de_var (pv 0)) (da_cons (de_var (pv 1)) (da_cons (de_var (pv 3)) da_nil)))) (pg_sub (de_var (pv 1)) (de_var (pv 3)) set_list)) sd_set))))
  (dss_cons (ds_set (ps_set (i := 4) scm_hands.nd rfl (by first | exact .inl rfl | exact .inr rfl) (de_maxD rfl (hu_of65 hr) rfl T.b_max (by decide +kernel) (de_lc (by decide) (pe_lc (own := [("number", 6)]) rfl scm_hands.nd (di_seq (de_var (pv 1))) (blkOk_by (N := ["spans", "numbers", "_", "at", "count", "span", "number"]) (sc := (defScope sm_hands)) (by decide +kernel)) (fun _ _ _ _ _ => (dg_n (pg_name (i := 6) scm_hands.nd rfl (by first | exact .inl rfl | exact .inr rfl)))) (fun _ _ _ _ _ => dts_nil) (fun _ _ _ _ _ => (de_op op_addA opd_add (de_var (pv 6)) de_int)))) de_int)))
  (dss_one (ds_ret (de_tup (da_cons (de_var (pv 4)) (da_cons (de_cb (pe_callTy call_tuple_of rfl T.b_tuple (by decide +kernel) (da_cons (de_var (pv 1)) da_nil)) cd_tuple) da_nil))))))))))
abbrev sm_law_listed : Stmt := topS 27
theorem scm_law_listed : FnScope ["value", "one"] ["value"] (defScope sm_law_listed) := ⟨rfl, rfl, rfl, by decide +kernel, rfl, by decide +kernel, by decide +kernel⟩
theorem goodm_law_listed (T : Tx P w K mg) (D : DefAt K mg "_law_listed" "_law_listed" sm_law_listed ["value"])  : ∀ n, Good P w K mg base "_law_listed" (1 + n) ["value"] (m_law_listed n)
  | 0 => (D.none scm_law_listed).mono (by omega)
  | n + 1 => have G := goodm_law_listed T D  n
  (D.good (N := ["value", "one"]) scm_law_listed fun f cdv A outer s H E hr =>
  (dss_cons (ds_if (dt_tru (de_cb (pe_callB call_isi rfl T.b_isinstance (by decide +kernel) (da_cons (de_var (pv 0)) (da_cons (de_bty rfl T.b_tuple (by decide +kernel)) da_nil))) cd_is))
    (dss_one (ds_ret (de_lc (by decide) (pe_lc (own := [("one", 1)]) rfl scm_law_listed.nd (di_seq (de_var (pv 0))) (blkOk_by (N := ["value", "one"]) (sc := (defScope sm_law_listed)) (by decide +kernel)) (fun _ _ _ _ _ => (dg_n (pg_name (i := 1) scm_law_listed.nd rfl (by first | exact .inl rfl | exact .inr rfl)))) (fun _ _ _ _ _ => dts_nil) (fun _ _ _ _ _ => (dc takes0 G (hr.mono (by first | omega | (simp only [Nat.add_eq]; omega))) rfl rfl ((aCons_len aNil_len)) (da_cons (de_var (pv 1)) da_nil)))))))
    dss_nil)
  (dss_one (ds_ret (de_var (pv 0))))))
abbrev sm_law_handed : Stmt := topS 28
theorem scm_law_handed : FnScope ["row", "spot", "value"] ["row", "spot", "value"] (defScope sm_law_handed) := ⟨rfl, rfl, rfl, by decide +kernel, rfl, by decide +kernel, by decide +kernel⟩
theorem goodm_law_handed (T : Tx P w K mg) (D : DefAt K mg "_law_handed" "_law_handed" sm_law_handed ["row", "spot", "value"]) (G_law_listed : ∀ n, Good P w K mg base "_law_listed" (1 + n) ["value"] (m_law_listed n)) (G_law_take : Good P w K mg base "_law_take" 2 ["row", "spot", "limit"] m_law_take) : Good P w K mg base "_law_handed" 26 ["row", "spot", "value"] m_law_handed :=
  (D.good (N := ["row", "spot", "value"]) scm_law_handed fun f cdv A outer s H E hr =>
  (dss_one (ds_ret (de_if (dt_cmp (op_eqA (hu_of64 hr)) opd_eqA (dc (takes_of rfl rfl rfl rfl) G_law_take (hr.mono (by decide)) rfl rfl ((aCons_len (aCons_len (aCons_len aNil_len)))) (da_cons (de_var (pv 0)) (da_cons (de_var (pv 1)) (da_cons de_int da_nil)))) de_int rfl) (dc (takes_of rfl rfl rfl rfl) (G_law_listed 24) (hr.mono (by decide)) rfl rfl ((aCons_len aNil_len)) (da_cons (de_var (pv 2)) da_nil)) (de_var (pv 2))))))
abbrev sm_law_so : Stmt := topS 23
theorem scm_law_so : FnScope ["found", "meant", "k"] ["found", "meant"] (defScope sm_law_so) := ⟨rfl, rfl, rfl, by decide +kernel, rfl, by decide +kernel, by decide +kernel⟩
theorem goodm_law_so (T : Tx P w K mg) (D : DefAt K mg "_law_so" "_law_so" sm_law_so ["found", "meant"])  : ∀ n, Good P w K mg base "_law_so" (1 + n) ["found", "meant"] (m_law_so n)
  | 0 => (D.none scm_law_so).mono (by omega)
  | n + 1 => have G := goodm_law_so T D  n
  (D.good (N := ["found", "meant", "k"]) scm_law_so fun f cdv A outer s H E hr =>
  (dss_cons (ds_if (dt_cmp op_isN opd_isn (de_var (pv 1)) de_non rfl)
    (dss_one (ds_ret (de_cmp op_isN opd_isn (de_var (pv 0)) de_non rfl)))
    dss_nil)
  (dss_cons (ds_if (dt_tru (de_cb (pe_callB call_isi rfl T.b_isinstance (by decide +kernel) (da_cons (de_var (pv 1)) (da_cons (de_bty rfl T.b_tuple (by decide +kernel)) da_nil))) cd_is))
    (dss_cons (ds_if (PW.pt (dw_or (dt_not (dt_tru (de_cb (pe_callB call_isi rfl T.b_isinstance (by decide +kernel) (da_cons (de_var (pv 0)) (da_cons (de_bty rfl T.b_tuple (by decide +kernel)) da_nil))) cd_is))) (dw_or1 (dt_cmp (op_neA (hu_of64 hr)) opd_eqA (de_cb (pe_callB call_lenA rfl T.b_len (by decide +kernel) (da_cons (de_var (pv 0)) da_nil)) cd_len) (de_cb (pe_callB call_lenA rfl T.b_len (by decide +kernel) (da_cons (de_var (pv 1)) da_nil)) cd_len) rfl))))
      (dss_one (ds_ret de_bl))
      dss_nil)
    (dss_cons (ds_for (ps_for (passes_of rfl) rfl (di_rg1 (pi_range1 rfl T.b_range (da_cons (de_cb (pe_callB call_lenA rfl T.b_len (by decide +kernel) (da_cons (de_var (pv 1)) da_nil)) cd_len) da_nil))) (dg_n (pg_name (i := 2) scm_law_so.nd rfl (by first | exact .inl rfl | exact .inr rfl)))
      (dss_one (ds_if (dt_not (dt_tru (dc (takes_of rfl rfl rfl rfl) G (hr.mono (by first | omega | (simp only [Nat.add_eq]; omega))) rfl rfl ((aCons_len (aCons_len aNil_len))) (da_cons (de_ix ix_seq opd_ix (de_var (pv 0)) (de_var (pv 2)) (fun _ _ => rfl)) (da_cons (de_ix ix_seq opd_ix (de_var (pv 1)) (de_var (pv 2)) (fun _ _ => rfl)) da_nil)))))
        (dss_one (ds_ret de_bl))
        dss_nil))))
    (dss_one (ds_ret de_bl))))
    dss_nil)
  (dss_cons (ds_if (PW.pt (dw_or (dt_tru (de_cb (pe_callB call_isi rfl T.b_isinstance (by decide +kernel) (da_cons (de_var (pv 1)) (da_cons (de_bty rfl T.b_bool (by decide +kernel)) da_nil))) cd_is)) (dw_or1 (dt_tru (de_cb (pe_callB call_isi rfl T.b_isinstance (by decide +kernel) (da_cons (de_var (pv 0)) (da_cons (de_bty rfl T.b_bool (by decide +kernel)) da_nil))) cd_is)))))
    (dss_one (ds_ret (de_and (de_cb (pe_callB call_isi rfl T.b_isinstance (by decide +kernel) (da_cons (de_var (pv 1)) (da_cons (de_bty rfl T.b_bool (by decide +kernel)) da_nil))) cd_is) (de_and (de_cb (pe_callB call_isi rfl T.b_isinstance (by decide +kernel) (da_cons (de_var (pv 0)) (da_cons (de_bty rfl T.b_bool (by decide +kernel)) da_nil))) cd_is) (de_one (de_cmp (op_eqA (hu_of64 hr)) opd_eqA (de_var (pv 0)) (de_var (pv 1)) rfl))))))
    dss_nil)
  (dss_cons (ds_if (dt_tru (de_cb (pe_callB call_isi rfl T.b_isinstance (by decide +kernel) (da_cons (de_var (pv 1)) (da_cons (de_bty rfl T.b_int (by decide +kernel)) da_nil))) cd_is))
    (dss_one (ds_ret (de_and (de_cb (pe_callB call_isi rfl T.b_isinstance (by decide +kernel) (da_cons (de_var (pv 0)) (da_cons (de_bty rfl T.b_int (by decide +kernel)) da_nil))) cd_is) (de_one (de_cmp (op_eqA (hu_of64 hr)) opd_eqA (de_var (pv 0)) (de_var (pv 1)) rfl)))))
    dss_nil)
  (dss_one (ds_ret (de_and (de_cb (pe_callB call_isi rfl T.b_isinstance (by decide +kernel) (da_cons (de_var (pv 1)) (da_cons (de_bty rfl T.b_str (by decide +kernel)) da_nil))) cd_is) (de_and (de_cb (pe_callB call_isi rfl T.b_isinstance (by decide +kernel) (da_cons (de_var (pv 0)) (da_cons (de_bty rfl T.b_str (by decide +kernel)) da_nil))) cd_is) (de_one (de_cmp (op_eqA (hu_of64 hr)) opd_eqA (de_var (pv 0)) (de_var (pv 1)) rfl)))))))))))
abbrev sm_law_hands : Stmt := topS 34
theorem scm_law_hands : FnScope ["spans", "order", "made", "pair", "k", "busy", "hand", "span", "j"] ["spans"] (defScope sm_law_hands) := ⟨rfl, rfl, rfl, by decide +kernel, rfl, by decide +kernel, by decide +kernel⟩
theorem goodm_law_hands (T : Tx P w K mg) (D : DefAt K mg "_law_hands" "_law_hands" sm_law_hands ["spans"])  : Good P w K mg base "_law_hands" 1 ["spans"] m_law_hands :=
  (D.good (N := ["spans", "order", "made", "pair", "k", "busy", "hand", "span", "j"]) scm_law_hands fun f cdv A outer s H E hr =>
  (dss_cons (ds_set (ps_set (i := 1) scm_law_hands.nd rfl (by first | exact .inl rfl | exact .inr rfl) (de_cb (pe_callB (call_sortA rfl) rfl T.b_sorted (by decide +kernel) (da_cons (de_lc (by decide) (pe_lc (own := [("k", 4)]) rfl scm_law_hands.nd (di_rg1 (pi_range1 rfl T.b_range (da_cons (de_cb (pe_callB call_lenA rfl T.b_len (by decide +kernel) (da_cons (de_var (pv 0)) da_nil)) cd_len) da_nil))) (blkOk_by (N := ["spans", "order", "made", "pair", "k", "busy", "hand", "span", "j"]) (sc := (defScope sm_law_hands)) (by decide +kernel)) (fun _ _ _ _ _ => (dg_n (pg_name (i := 4) scm_law_hands.nd rfl (by first | exact .inl rfl | exact .inr rfl)))) (fun _ _ _ _ _ => dts_nil) (fun _ _ _ _ _ => (de_tup (da_cons (de_ix ix_seq opd_ix (de_ix ix_seq opd_ix (de_var (pv 0)) (de_var (pv 4)) (fun _ _ => rfl)) de_int (fun _ _ => rfl)) (da_cons (de_var (pv 4)) da_nil)))))) da_nil)) cd_sort)))
  (dss_cons (ds_set (ps_set (i := 2) scm_law_hands.nd rfl (by first | exact .inl rfl | exact .inr rfl) (de_lcC (by decide) (pe_lc (own := [("span", 7)]) rfl scm_law_hands.nd (di_seq (de_var (pv 0))) (blkOk_by (N := ["spans", "order", "made", "pair", "k", "busy", "hand", "span", "j"]) (sc := (defScope sm_law_hands)) (by decide +kernel)) (fun _ _ _ _ _ => (dg_n (pg_name (i := 7) scm_law_hands.nd rfl (by first | exact .inl rfl | exact .inr rfl)))) (fun _ _ _ _ _ => dts_nil) (fun _ _ _ _ _ => de_non)))))
  (dss_cons (ds_for (ps_for (passes_of rfl) rfl (di_seq (de_var (pv 1))) (dg_n (pg_name (i := 3) scm_law_hands.nd rfl (by first | exact .inl rfl | exact .inr rfl)))
    (dss_cons (ds_set (ps_set (i := 4) scm_law_hands.nd rfl (by first | exact .inl rfl | exact .inr rfl) (de_ix ix_seq opd_ix (de_var (pv 3)) de_int (fun _ _ => rfl))))
    (dss_cons (ds_setLc (by decide) (ps_setLc (own := [("j", 8)]) rfl scm_law_hands.nd rfl rfl (sw_true rfl rfl rfl (by decide +kernel)) (di_rg1 (pi_range1 rfl T.b_range (da_cons (de_cb (pe_callB call_lenA rfl T.b_len (by decide +kernel) (da_cons (de_var (pv 0)) da_nil)) cd_len) da_nil))) (blkOk_by (N := ["spans", "order", "made", "pair", "k", "busy", "hand", "span", "j"]) (sc := (defScope sm_law_hands)) (by decide +kernel)) (fun _ _ _ _ _ => (dg_n (pg_name (i := 8) scm_law_hands.nd rfl (by first | exact .inl rfl | exact .inr rfl)))) (fun _ _ _ _ _ => (dts_one (PW.pt (dw_and (dt_cmp op_notN opd_notn (de_ix ix_seq opd_ix (de_var (pv 2)) (de_var (pv 8)) (fun _ _ => rfl)) de_non rfl) (dw_and (dt_cmp op_geA opd_ord (de_ix ix_seq opd_ix (de_ix ix_seq opd_ix (de_var (pv 0)) (de_var (pv 8)) (fun _ _ => rfl)) de_int (fun _ _ => rfl)) (de_ix ix_seq opd_ix (de_ix ix_seq opd_ix (de_var (pv 0)) (de_var (pv 4)) (fun _ _ => rfl)) de_int (fun _ _ => rfl)) rfl) (dw_and1 (dt_cmp op_leA opd_ord (de_ix ix_seq opd_ix (de_ix ix_seq opd_ix (de_var (pv 0)) (de_var (pv 8)) (fun _ _ => rfl)) de_int (fun _ _ => rfl)) (de_ix ix_seq opd_ix (de_ix ix_seq opd_ix (de_var (pv 0)) (de_var (pv 4)) (fun _ _ => rfl)) de_int (fun _ _ => rfl)) rfl))))))) (fun _ _ _ _ _ => (de_ix ix_seq opd_ix (de_var (pv 2)) (de_var (pv 8)) (fun _ _ => rfl)))))
    (dss_one (ds_for (ps_for (passes_of rfl) rfl (di_rg1 (pi_range1 rfl T.b_range (da_cons de_int da_nil))) (dg_n (pg_name (i := 6) scm_law_hands.nd rfl (by first | exact .inl rfl | exact .inr rfl)))
      (dss_one (ds_if (dt_cmp op_notInA opd_in (de_var (pv 6)) (de_var (pv 5)) rfl)
        (dss_cons (ds_put (ps_asg (de_var (pv 6)) (pg_sub (de_var (pv 2)) (de_var (pv 4)) set_list)) sd_set)
        (dss_one ds_break))
        dss_nil)))))))))
  (dss_one (ds_ret (de_tup (da_cons (de_if (dt_cmp op_gtA opd_ord (de_cb (pe_callB call_lenA rfl T.b_len (by decide +kernel) (da_cons (de_var (pv 2)) da_nil)) cd_len) de_int rfl) (de_op op_addA opd_add (de_cb (pe_callB (call_maxB rfl) rfl T.b_max (by decide +kernel) (da_cons (de_var (pv 2)) da_nil)) cd_max) de_int) de_int) (da_cons (de_cb (pe_callTy call_tuple_of rfl T.b_tuple (by decide +kernel) (da_cons (de_var (pv 2)) da_nil)) cd_tuple) da_nil)))))))))
abbrev sm_law : Stmt := topS 35
theorem scm_law : FnScope ["script", "row", "spot", "spans", "found", "k", "j", "most", "day", "span"] ["script"] (defScope sm_law) := ⟨rfl, rfl, rfl, by decide +kernel, rfl, by decide +kernel, by decide +kernel⟩
theorem goodm_law {cL PL : Addr} (T : Tx P w K mg) (D : DefAtC K mg "law" "law" sm_law ["script"] cL) (TB : LawTab K mg base cL PL) (G_law_numbers : Good P w K mg base "_law_numbers" 1 ["script"] m_law_numbers) (G_law_jobs : Good P w K mg base "_law_jobs" 5 ["row", "spot", "many", "wide"] m_law_jobs) (Ghands : Good P w K mg base "hands" 6 ["spans"] m_hands) (G_law_take : Good P w K mg base "_law_take" 2 ["row", "spot", "limit"] m_law_take) (G_law_pick : Good P w K mg base "_law_pick" 3 ["row", "spot", "things"] m_law_pick) (G_law_handed : Good P w K mg base "_law_handed" 26 ["row", "spot", "value"] m_law_handed) (G_law_so : ∀ n, Good P w K mg base "_law_so" (1 + n) ["found", "meant"] (m_law_so n)) (G_law_hands : Good P w K mg base "_law_hands" 1 ["spans"] m_law_hands) : Good P w K mg base "law" 27 ["script"] m_law :=
  (D.good (N := ["script", "row", "spot", "spans", "found", "k", "j", "most", "day", "span"]) scm_law fun f A outer s H E hr =>
  (dss_cons (ds_set (ps_set (i := 1) scm_law.nd rfl (by first | exact .inl rfl | exact .inr rfl) (dc (takes_of rfl rfl rfl rfl) G_law_numbers (hr.mono (by decide)) rfl rfl ((aCons_len aNil_len)) (da_cons (de_var (pv 0)) da_nil))))
  (dss_cons (ds_set (ps_set (i := 2) scm_law.nd rfl (by first | exact .inl rfl | exact .inr rfl) (de_cell (da_cons de_int da_nil))))
  (dss_cons (ds_set (ps_set (i := 3) scm_law.nd rfl (by first | exact .inl rfl | exact .inr rfl) (dc (takes_of rfl rfl rfl rfl) G_law_jobs (hr.mono (by decide)) rfl rfl ((aCons_len (aCons_len (aCons_len (aCons_len aNil_len))))) (da_cons (de_var (pv 1)) (da_cons (de_var (pv 2)) (da_cons (dc (takes_of rfl rfl rfl rfl) G_law_take (hr.mono (by decide)) rfl rfl ((aCons_len (aCons_len (aCons_len aNil_len)))) (da_cons (de_var (pv 1)) (da_cons (de_var (pv 2)) (da_cons de_int da_nil)))) (da_cons (dc (takes_of rfl rfl rfl rfl) G_law_pick (hr.mono (by decide)) rfl rfl ((aCons_len (aCons_len (aCons_len aNil_len)))) (da_cons (de_var (pv 1)) (da_cons (de_var (pv 2)) (da_cons (de_lst (da_cons de_int (da_cons de_int (da_cons de_int (da_cons de_int da_nil))))) da_nil)))) da_nil)))))))
  (dss_cons (ds_set (ps_set (i := 4) scm_law.nd rfl (by first | exact .inl rfl | exact .inr rfl) (dc (takes_of rfl rfl rfl rfl) Ghands (hr.mono (by decide)) rfl rfl ((aCons_len aNil_len)) (da_cons (dc (takes_of rfl rfl rfl rfl) G_law_handed (hr.mono (by decide)) rfl rfl ((aCons_len (aCons_len (aCons_len aNil_len)))) (da_cons (de_var (pv 1)) (da_cons (de_var (pv 2)) (da_cons (de_var (pv 3)) da_nil)))) da_nil))))
  (dss_cons (ds_if (dt_not (dt_tru (dc (takes_of rfl rfl rfl rfl) (G_law_so 24) (hr.mono (by decide)) rfl rfl ((aCons_len (aCons_len aNil_len))) (da_cons (de_var (pv 4)) (da_cons (dc (takes_of rfl rfl rfl rfl) G_law_hands (hr.mono (by decide)) rfl rfl ((aCons_len aNil_len)) (da_cons (de_var (pv 3)) da_nil)) da_nil)))))
    (dss_one (ds_ret de_bl))
    dss_nil)
  (dss_cons (ds_for (ps_for (passes_of rfl) rfl (di_rg1 (pi_range1 rfl T.b_range (da_cons (de_cb (pe_callB call_lenA rfl T.b_len (by decide +kernel) (da_cons (de_var (pv 3)) da_nil)) cd_len) da_nil))) (dg_n (pg_name (i := 5) scm_law.nd rfl (by first | exact .inl rfl | exact .inr rfl)))
    (dss_one (ds_for (ps_for (passes_of rfl) rfl (di_rg1 (pi_range1 rfl T.b_range (da_cons (de_var (pv 5)) da_nil))) (dg_n (pg_name (i := 6) scm_law.nd rfl (by first | exact .inl rfl | exact .inr rfl)))
      (dss_one (ds_if (PW.pt (dw_and (dt_cmp op_geA opd_ord (de_ix ix_seq opd_ix (de_ix ix_seq opd_ix (de_var (pv 3)) (de_var (pv 6)) (fun _ _ => rfl)) de_int (fun _ _ => rfl)) (de_ix ix_seq opd_ix (de_ix ix_seq opd_ix (de_var (pv 3)) (de_var (pv 5)) (fun _ _ => rfl)) de_int (fun _ _ => rfl)) rfl) (dw_and (dt_cmp op_leA opd_ord (de_ix ix_seq opd_ix (de_ix ix_seq opd_ix (de_var (pv 3)) (de_var (pv 6)) (fun _ _ => rfl)) de_int (fun _ _ => rfl)) (de_ix ix_seq opd_ix (de_ix ix_seq opd_ix (de_var (pv 3)) (de_var (pv 5)) (fun _ _ => rfl)) de_int (fun _ _ => rfl)) rfl) (dw_and1 (dt_cmp (op_eqA (hu_of64 hr)) opd_eqA (de_ix ix_seq opd_ix (de_ix ix_seq opd_ix (de_var (pv 4)) de_int (fun _ _ => rfl)) (de_var (pv 6)) (fun _ _ => rfl)) (de_ix ix_seq opd_ix (de_ix ix_seq opd_ix (de_var (pv 4)) de_int (fun _ _ => rfl)) (de_var (pv 5)) (fun _ _ => rfl)) rfl)))))
        (dss_one (ds_ret de_bl))
        dss_nil)))))))
  (dss_cons (ds_set (ps_set (i := 7) scm_law.nd rfl (by first | exact .inl rfl | exact .inr rfl) de_int))
  (dss_cons (ds_for (ps_for (passes_of rfl) rfl (di_rg1 (pi_range1 rfl T.b_range (da_cons de_int da_nil))) (dg_n (pg_name (i := 8) scm_law.nd rfl (by first | exact .inl rfl | exact .inr rfl)))
    (dss_one (ds_set (ps_set (i := 7) scm_law.nd rfl (by first | exact .inl rfl | exact .inr rfl) (de_cb (pe_callB (call_maxB rfl) rfl T.b_max (by decide +kernel) (da_cons (de_var (pv 7)) (da_cons (de_cb (pe_callB call_lenA rfl T.b_len (by decide +kernel) (da_cons (de_lc (by decide) (pe_lc (own := [("span", 9)]) rfl scm_law.nd (di_seq (de_var (pv 3))) (blkOk_by (N := ["script", "row", "spot", "spans", "found", "k", "j", "most", "day", "span"]) (sc := (defScope sm_law)) (by decide +kernel)) (fun _ _ _ _ _ => (dg_n (pg_name (i := 9) scm_law.nd rfl (by first | exact .inl rfl | exact .inr rfl)))) (fun _ _ _ _ _ => (dts_one (PW.pt (dw_and (dt_cmp op_leA opd_ord (de_ix ix_seq opd_ix (de_var (pv 9)) de_int (fun _ _ => rfl)) (de_var (pv 8)) rfl) (dw_and1 (dt_cmp op_leA opd_ord (de_var (pv 8)) (de_ix ix_seq opd_ix (de_var (pv 9)) de_int (fun _ _ => rfl)) rfl)))))) (fun _ _ _ _ _ => (de_var (pv 9))))) da_nil)) cd_len) da_nil))) cd_max))))))
  (dss_one (ds_ret (de_cmp (op_eqA (hu_of64 hr)) opd_eqA (de_ix ix_seq opd_ix (de_var (pv 4)) de_int (fun _ _ => rfl)) (de_var (pv 7)) rfl))))))))))))
end
end Mp
namespace Mp
open PySem PySem.Spec PyProof.Rows L2
theorem topTup {K : PySem.W.Frag} {mg : Str → Option Value} {x : Str} {q : Addr} {o : Obj} {its : Array Value} {n : Nat} (hm : mg x = some (.ref q)) (hl : K.lookup q = some o) (hc : o.cls = .type "tuple") (hd : o.data = .seq its n) (hz : its.size ≤ sizeLine) (zs : List Str) (hv : Vals (zs.map V.str) its.toList) :
    TopVal K mg x (.tup (zs.map D.str)) := ⟨.ref q, .ref q, hm, rfl, fun ω => by
  unfold RelD
  exact ⟨q, _, rfl, .inr ⟨o, its, n, hl, hc, hd, hz, hv⟩, RelL.of_strs zs⟩⟩
theorem all_mk {l : PySem.W.OpenLaw} {w : World} {K : PySem.W.Frag} {h : Heap} {mg : Str → Option Value} {fa cL PL f1 f2 f3 f4 f5 f6 f7 f8 f9 f10 f11 f12 f13 f14 f15 f16 f17 f18 f19 f20 f21 f22 f23 f24 f25 : Addr} (X : K.In h) (G : h.Ns mainGlobals mg) (hfa : mg "law" = some (.ref fa))
    {od1 an1 od2 an2 od3 an3 od4 an4 od5 an5 od6 an6 od7 an7 od8 an8 od9 an9 od10 an10 od11 an11 od12 an12 od13 an13 od14 an14 od15 an15 od16 an16 od17 an17 od18 an18 od19 an19 od20 an20 od21 an21 od22 an22 od23 an23 od24 an24 od25 an25 odL : Option Addr} {sl1 sl2 sl3 sl4 sl5 sl6 sl7 sl8 sl9 sl10 sl11 sl12 sl13 sl14 sl15 sl16 sl17 sl18 sl19 sl20 sl21 sl22 sl23 sl24 sl25 slL : Array (Option Value)} {oc1 kV1 dc1 pm1 ct1 oc2 kV2 dc2 pm2 ct2 oc3 kV3 dc3 pm3 ct3 oc4 kV4 dc4 pm4 ct4 oc5 kV5 dc5 pm5 ct5 oc6 kV6 dc6 pm6 ct6 oc7 kV7 dc7 pm7 ct7 oc8 kV8 dc8 pm8 ct8 oc9 kV9 dc9 pm9 ct9 oc10 kV10 dc10 pm10 ct10 oc11 kV11 dc11 pm11 ct11 oc12 kV12 dc12 pm12 ct12 oc13 kV13 dc13 pm13 ct13 oc14 kV14 dc14 pm14 ct14 oc15 kV15 dc15 pm15 ct15 oc16 kV16 dc16 pm16 ct16 oc17 kV17 dc17 pm17 ct17 oc18 kV18 dc18 pm18 ct18 oc19 kV19 dc19 pm19 ct19 oc20 kV20 dc20 pm20 ct20 oc21 kV21 dc21 pm21 ct21 oc22 kV22 dc22 pm22 ct22 oc23 kV23 dc23 pm23 ct23 oc24 kV24 dc24 pm24 ct24 oc25 kV25 dc25 pm25 ct25 cd1 cd2 cd3 cd4 cd5 cd6 cd7 cd8 cd9 cd10 cd11 cd12 cd13 cd14 cd15 cd16 cd17 cd18 cd19 cd20 cd21 cd22 cd23 cd24 ocL : Value} {vsL : Array Value} {t_WORDS0 t_WORDS1 t_WORDS2 t_WORDS3 t_WORDS4 : Tok} {q_WORDS : Addr} {o_WORDS : Obj} {n_WORDS : Nat} {t_LETTERS : Tok} {t_LAST_DAY : Tok} {t_MOST_TRIPLES : Tok} {Cx_BadValue : Addr} {fx_BadValue Nx_BadValue : Addr} {nmx_BadValue qx_BadValue : Str} {bsx_BadValue mrx_BadValue sbx_BadValue : List Value} {snx_BadValue : List Str} {abx_BadValue : Bool} {colx_BadValue : Option Bool} {ddx_BadValue odx_BadValue anx_BadValue : Option Addr} {k0x_BadValue k1x_BadValue k2x_BadValue k3x_BadValue k5x_BadValue : Option Value} {ocx_BadValue kVx_BadValue dcx_BadValue pmx_BadValue cdx_BadValue ctx_BadValue : Value} {slx_BadValue : Array (Option Value)}
    (a1 : PySem.W.nsIn K mainGlobals "_law_numbers" = some (some (.ref f1))) (l1 : K.lookup f1 = some ⟨oc1, od1, .func (PySem.W.fnOf "_law_numbers" "_law_numbers" (defArgs sm_law_numbers) (defBody sm_law_numbers) (defScope sm_law_numbers) .none kV1 dc1 pm1 an1 cd1 ct1), sl1⟩) (c1 : PySem.W.codeIn K cd1 "_law_numbers" = true) (k1 : PySem.W.keepIn K (.ref f1) = true)
    (a2 : PySem.W.nsIn K mainGlobals "_law_draw" = some (some (.ref f2))) (l2 : K.lookup f2 = some ⟨oc2, od2, .func (PySem.W.fnOf "_law_draw" "_law_draw" (defArgs sm_law_draw) (defBody sm_law_draw) (defScope sm_law_draw) .none kV2 dc2 pm2 an2 cd2 ct2), sl2⟩) (c2 : PySem.W.codeIn K cd2 "_law_draw" = true) (k2 : PySem.W.keepIn K (.ref f2) = true)
    (a3 : PySem.W.nsIn K mainGlobals "_law_take" = some (some (.ref f3))) (l3 : K.lookup f3 = some ⟨oc3, od3, .func (PySem.W.fnOf "_law_take" "_law_take" (defArgs sm_law_take) (defBody sm_law_take) (defScope sm_law_take) .none kV3 dc3 pm3 an3 cd3 ct3), sl3⟩) (c3 : PySem.W.codeIn K cd3 "_law_take" = true) (k3 : PySem.W.keepIn K (.ref f3) = true)
    (a4 : PySem.W.nsIn K mainGlobals "_law_pick" = some (some (.ref f4))) (l4 : K.lookup f4 = some ⟨oc4, od4, .func (PySem.W.fnOf "_law_pick" "_law_pick" (defArgs sm_law_pick) (defBody sm_law_pick) (defScope sm_law_pick) .none kV4 dc4 pm4 an4 cd4 ct4), sl4⟩) (c4 : PySem.W.codeIn K cd4 "_law_pick" = true) (k4 : PySem.W.keepIn K (.ref f4) = true)
    (a5 : PySem.W.nsIn K mainGlobals "_law_letters" = some (some (.ref f5))) (l5 : K.lookup f5 = some ⟨oc5, od5, .func (PySem.W.fnOf "_law_letters" "_law_letters" (defArgs sm_law_letters) (defBody sm_law_letters) (defScope sm_law_letters) .none kV5 dc5 pm5 an5 cd5 ct5), sl5⟩) (c5 : PySem.W.codeIn K cd5 "_law_letters" = true) (k5 : PySem.W.keepIn K (.ref f5) = true)
    (a6 : PySem.W.nsIn K mainGlobals "_law_reserved" = some (some (.ref f6))) (l6 : K.lookup f6 = some ⟨oc6, od6, .func (PySem.W.fnOf "_law_reserved" "_law_reserved" (defArgs sm_law_reserved) (defBody sm_law_reserved) (defScope sm_law_reserved) .none kV6 dc6 pm6 an6 cd6 ct6), sl6⟩) (c6 : PySem.W.codeIn K cd6 "_law_reserved" = true) (k6 : PySem.W.keepIn K (.ref f6) = true)
    (a7 : PySem.W.nsIn K mainGlobals "_law_name" = some (some (.ref f7))) (l7 : K.lookup f7 = some ⟨oc7, od7, .func (PySem.W.fnOf "_law_name" "_law_name" (defArgs sm_law_name) (defBody sm_law_name) (defScope sm_law_name) .none kV7 dc7 pm7 an7 cd7 ct7), sl7⟩) (c7 : PySem.W.codeIn K cd7 "_law_name" = true) (k7 : PySem.W.keepIn K (.ref f7) = true)
    (a8 : PySem.W.nsIn K mainGlobals "_law_jobs" = some (some (.ref f8))) (l8 : K.lookup f8 = some ⟨oc8, od8, .func (PySem.W.fnOf "_law_jobs" "_law_jobs" (defArgs sm_law_jobs) (defBody sm_law_jobs) (defScope sm_law_jobs) .none kV8 dc8 pm8 an8 cd8 ct8), sl8⟩) (c8 : PySem.W.codeIn K cd8 "_law_jobs" = true) (k8 : PySem.W.keepIn K (.ref f8) = true)
    (a9 : PySem.W.nsIn K mainGlobals "all_different" = some (some (.ref f9))) (l9 : K.lookup f9 = some ⟨oc9, od9, .func (PySem.W.fnOf "all_different" "all_different" (defArgs sm_all_different) (defBody sm_all_different) (defScope sm_all_different) .none kV9 dc9 pm9 an9 cd9 ct9), sl9⟩) (c9 : PySem.W.codeIn K cd9 "all_different" = true) (k9 : PySem.W.keepIn K (.ref f9) = true)
    (a10 : PySem.W.nsIn K mainGlobals "is_sequence" = some (some (.ref f10))) (l10 : K.lookup f10 = some ⟨oc10, od10, .func (PySem.W.fnOf "is_sequence" "is_sequence" (defArgs sm_is_sequence) (defBody sm_is_sequence) (defScope sm_is_sequence) .none kV10 dc10 pm10 an10 cd10 ct10), sl10⟩) (c10 : PySem.W.codeIn K cd10 "is_sequence" = true) (k10 : PySem.W.keepIn K (.ref f10) = true)
    (a11 : PySem.W.nsIn K mainGlobals "is_row" = some (some (.ref f11))) (l11 : K.lookup f11 = some ⟨oc11, od11, .func (PySem.W.fnOf "is_row" "is_row" (defArgs sm_is_row) (defBody sm_is_row) (defScope sm_is_row) .none kV11 dc11 pm11 an11 cd11 ct11), sl11⟩) (c11 : PySem.W.codeIn K cd11 "is_row" = true) (k11 : PySem.W.keepIn K (.ref f11) = true)
    (a12 : PySem.W.nsIn K mainGlobals "is_integer" = some (some (.ref f12))) (l12 : K.lookup f12 = some ⟨oc12, od12, .func (PySem.W.fnOf "is_integer" "is_integer" (defArgs sm_is_integer) (defBody sm_is_integer) (defScope sm_is_integer) .none kV12 dc12 pm12 an12 cd12 ct12), sl12⟩) (c12 : PySem.W.codeIn K cd12 "is_integer" = true) (k12 : PySem.W.keepIn K (.ref f12) = true)
    (a13 : PySem.W.nsIn K mainGlobals "is_within" = some (some (.ref f13))) (l13 : K.lookup f13 = some ⟨oc13, od13, .func (PySem.W.fnOf "is_within" "is_within" (defArgs sm_is_within) (defBody sm_is_within) (defScope sm_is_within) .none kV13 dc13 pm13 an13 cd13 ct13), sl13⟩) (c13 : PySem.W.codeIn K cd13 "is_within" = true) (k13 : PySem.W.keepIn K (.ref f13) = true)
    (a14 : PySem.W.nsIn K mainGlobals "is_name" = some (some (.ref f14))) (l14 : K.lookup f14 = some ⟨oc14, od14, .func (PySem.W.fnOf "is_name" "is_name" (defArgs sm_is_name) (defBody sm_is_name) (defScope sm_is_name) .none kV14 dc14 pm14 an14 cd14 ct14), sl14⟩) (c14 : PySem.W.codeIn K cd14 "is_name" = true) (k14 : PySem.W.keepIn K (.ref f14) = true)
    (a15 : PySem.W.nsIn K mainGlobals "is_triple" = some (some (.ref f15))) (l15 : K.lookup f15 = some ⟨oc15, od15, .func (PySem.W.fnOf "is_triple" "is_triple" (defArgs sm_is_triple) (defBody sm_is_triple) (defScope sm_is_triple) .none kV15 dc15 pm15 an15 cd15 ct15), sl15⟩) (c15 : PySem.W.codeIn K cd15 "is_triple" = true) (k15 : PySem.W.keepIn K (.ref f15) = true)
    (a16 : PySem.W.nsIn K mainGlobals "are_triples" = some (some (.ref f16))) (l16 : K.lookup f16 = some ⟨oc16, od16, .func (PySem.W.fnOf "are_triples" "are_triples" (defArgs sm_are_triples) (defBody sm_are_triples) (defScope sm_are_triples) .none kV16 dc16 pm16 an16 cd16 ct16), sl16⟩) (c16 : PySem.W.codeIn K cd16 "are_triples" = true) (k16 : PySem.W.keepIn K (.ref f16) = true)
    (a17 : PySem.W.nsIn K mainGlobals "check_triples" = some (some (.ref f17))) (l17 : K.lookup f17 = some ⟨oc17, od17, .func (PySem.W.fnOf "check_triples" "check_triples" (defArgs sm_check_triples) (defBody sm_check_triples) (defScope sm_check_triples) .none kV17 dc17 pm17 an17 cd17 ct17), sl17⟩) (c17 : PySem.W.codeIn K cd17 "check_triples" = true) (k17 : PySem.W.keepIn K (.ref f17) = true)
    (a18 : PySem.W.nsIn K mainGlobals "overlap" = some (some (.ref f18))) (l18 : K.lookup f18 = some ⟨oc18, od18, .func (PySem.W.fnOf "overlap" "overlap" (defArgs sm_overlap) (defBody sm_overlap) (defScope sm_overlap) .none kV18 dc18 pm18 an18 cd18 ct18), sl18⟩) (c18 : PySem.W.codeIn K cd18 "overlap" = true) (k18 : PySem.W.keepIn K (.ref f18) = true)
    (a19 : PySem.W.nsIn K mainGlobals "free_hand" = some (some (.ref f19))) (l19 : K.lookup f19 = some ⟨oc19, od19, .func (PySem.W.fnOf "free_hand" "free_hand" (defArgs sm_free_hand) (defBody sm_free_hand) (defScope sm_free_hand) .none kV19 dc19 pm19 an19 cd19 ct19), sl19⟩) (c19 : PySem.W.codeIn K cd19 "free_hand" = true) (k19 : PySem.W.keepIn K (.ref f19) = true)
    (a20 : PySem.W.nsIn K mainGlobals "hands" = some (some (.ref f20))) (l20 : K.lookup f20 = some ⟨oc20, od20, .func (PySem.W.fnOf "hands" "hands" (defArgs sm_hands) (defBody sm_hands) (defScope sm_hands) .none kV20 dc20 pm20 an20 cd20 ct20), sl20⟩) (c20 : PySem.W.codeIn K cd20 "hands" = true) (k20 : PySem.W.keepIn K (.ref f20) = true)
    (a21 : PySem.W.nsIn K mainGlobals "_law_listed" = some (some (.ref f21))) (l21 : K.lookup f21 = some ⟨oc21, od21, .func (PySem.W.fnOf "_law_listed" "_law_listed" (defArgs sm_law_listed) (defBody sm_law_listed) (defScope sm_law_listed) .none kV21 dc21 pm21 an21 cd21 ct21), sl21⟩) (c21 : PySem.W.codeIn K cd21 "_law_listed" = true) (k21 : PySem.W.keepIn K (.ref f21) = true)
    (a22 : PySem.W.nsIn K mainGlobals "_law_handed" = some (some (.ref f22))) (l22 : K.lookup f22 = some ⟨oc22, od22, .func (PySem.W.fnOf "_law_handed" "_law_handed" (defArgs sm_law_handed) (defBody sm_law_handed) (defScope sm_law_handed) .none kV22 dc22 pm22 an22 cd22 ct22), sl22⟩) (c22 : PySem.W.codeIn K cd22 "_law_handed" = true) (k22 : PySem.W.keepIn K (.ref f22) = true)
    (a23 : PySem.W.nsIn K mainGlobals "_law_so" = some (some (.ref f23))) (l23 : K.lookup f23 = some ⟨oc23, od23, .func (PySem.W.fnOf "_law_so" "_law_so" (defArgs sm_law_so) (defBody sm_law_so) (defScope sm_law_so) .none kV23 dc23 pm23 an23 cd23 ct23), sl23⟩) (c23 : PySem.W.codeIn K cd23 "_law_so" = true) (k23 : PySem.W.keepIn K (.ref f23) = true)
    (a24 : PySem.W.nsIn K mainGlobals "_law_hands" = some (some (.ref f24))) (l24 : K.lookup f24 = some ⟨oc24, od24, .func (PySem.W.fnOf "_law_hands" "_law_hands" (defArgs sm_law_hands) (defBody sm_law_hands) (defScope sm_law_hands) .none kV24 dc24 pm24 an24 cd24 ct24), sl24⟩) (c24 : PySem.W.codeIn K cd24 "_law_hands" = true) (k24 : PySem.W.keepIn K (.ref f24) = true)
    (a25 : PySem.W.nsIn K mainGlobals "law" = some (some (.ref f25))) (l25 : K.lookup f25 = some ⟨oc25, od25, .func (PySem.W.fnOf "law" "law" (defArgs sm_law) (defBody sm_law) (defScope sm_law) .none kV25 dc25 pm25 an25 (.ref cL) ct25), sl25⟩) (c25 : PySem.W.codeIn K (.ref cL) "law" = true) (k25 : PySem.W.keepIn K (.ref f25) = true)
    (lL : K.lookup cL = some ⟨ocL, odL, .fields vsL, slL⟩) (vL : vsL[11]? = some (.ref PL)) (nL : K.lookup PL = none)
    (zb_range : PySem.W.nsIn K mainGlobals "range" = some none)
    (zb_int : PySem.W.nsIn K mainGlobals "int" = some none)
    (zb_len : PySem.W.nsIn K mainGlobals "len" = some none)
    (zb_min : PySem.W.nsIn K mainGlobals "min" = some none)
    (zb_tuple : PySem.W.nsIn K mainGlobals "tuple" = some none)
    (zb_isinstance : PySem.W.nsIn K mainGlobals "isinstance" = some none)
    (zb_list : PySem.W.nsIn K mainGlobals "list" = some none)
    (zb_bool : PySem.W.nsIn K mainGlobals "bool" = some none)
    (zb_str : PySem.W.nsIn K mainGlobals "str" = some none)
    (zb_all : PySem.W.nsIn K mainGlobals "all" = some none)
    (zb_enumerate : PySem.W.nsIn K mainGlobals "enumerate" = some none)
    (zb_sorted : PySem.W.nsIn K mainGlobals "sorted" = some none)
    (zb_max : PySem.W.nsIn K mainGlobals "max" = some none)
    (zc_WORDS : PySem.W.nsIn K mainGlobals "WORDS" = some (some (.ref q_WORDS))) (zo_WORDS : K.lookup q_WORDS = some o_WORDS) (zd_WORDS : o_WORDS.cls = .type "tuple" ∧ o_WORDS.data = .seq #[.str "and" t_WORDS0, .str "or" t_WORDS1, .str "of" t_WORDS2, .str "always" t_WORDS3, .str "never" t_WORDS4] n_WORDS)
    (zc_LETTERS : PySem.W.nsIn K mainGlobals "LETTERS" = some (some (.str "abcdefghijklmnopqrstuvwxyz" t_LETTERS)))
    (zc_LAST_DAY : PySem.W.nsIn K mainGlobals "LAST_DAY" = some (some (.int 30 t_LAST_DAY)))
    (zc_MOST_TRIPLES : PySem.W.nsIn K mainGlobals "MOST_TRIPLES" = some (some (.int 12 t_MOST_TRIPLES)))
    (ax_BadValue : PySem.W.nsIn K mainGlobals "BadValue" = some (some (.ref Cx_BadValue))) (ex_BadValue : PySem.W.subIn K (.ref Cx_BadValue) (.type "BaseException") = some true)
    (nx_BadValue_at : PySem.W.findIn K (.ref Cx_BadValue) "at" = some none)
    (lx_BadValue : K.lookup Cx_BadValue = some (excClassObj nmx_BadValue qx_BadValue Cx_BadValue Nx_BadValue bsx_BadValue mrx_BadValue true snx_BadValue sbx_BadValue abx_BadValue colx_BadValue ddx_BadValue k0x_BadValue k1x_BadValue k2x_BadValue k3x_BadValue k5x_BadValue "Exception.__new__")) (mx_BadValue : refsE mrx_BadValue = true) (sx__BadValue : PySem.W.findIn K (.ref Cx_BadValue) "__setattr__" = some (some (.builtin "object.__setattr__"))) (tx_BadValue : PySem.W.typeIn K (.ref Cx_BadValue) = some (.type "type")) (kx_BadValue : PySem.W.keepIn K (.ref Cx_BadValue) = true)
    (ix_BadValue : PySem.W.findIn K (.ref Cx_BadValue) "__init__" = some (some (.ref fx_BadValue))) (jx_BadValue : PySem.W.typeIn K (.ref fx_BadValue) = some (.type "function")) (ux_BadValue : K.lookup fx_BadValue = some ⟨ocx_BadValue, odx_BadValue, .func (PySem.W.fnOf "__init__" "BadValue.__init__" (defArgs sx_BadValue) (defBody sx_BadValue) (defScope sx_BadValue) .none kVx_BadValue dcx_BadValue pmx_BadValue anx_BadValue cdx_BadValue ctx_BadValue), slx_BadValue⟩) (cx_BadValue : PySem.W.codeIn K cdx_BadValue "BadValue.__init__" = true) (wx_BadValue : PySem.W.keepIn K (.ref fx_BadValue) = true)
    (hlaw : ∀ (b : Bool) (ns : List Int), ns.length ≤ 63 → ∃ h, m_law [scD b (ns.map D.int)] [] = .ok (.bl true) h) :
    ∃ (fd : FuncData) (c P : Addr), PySem.W.tabIn K "law" = some (c, P) ∧ K.lookup P = none ∧ (∀ (s : Shared) (v : Value), BindsTo s fd ⟨[v], []⟩ [("script", v)]) ∧ ∀ base : Heap, K.In base → base.Ns mainGlobals mg → LawTab K mg base c P → FnOk l.prog w K mg base (L2.CX l.prog w) 27 fa fd ["script"] (spTrue K) := by
  have e : fa = f25 := by
    have z := hfa.symm.trans (PySem.W.mg_of X G a25)
    cases z; rfl
  rw [e]
  have Fx_BadValue := fun_mk (st := sx_BadValue) ux_BadValue cx_BadValue wx_BadValue
  have T : Tx l.prog w K mg := { ok := trivial, b_range := PySem.W.mg_none_of X G zb_range, b_int := PySem.W.mg_none_of X G zb_int, b_len := PySem.W.mg_none_of X G zb_len, b_min := PySem.W.mg_none_of X G zb_min, b_tuple := PySem.W.mg_none_of X G zb_tuple, b_isinstance := PySem.W.mg_none_of X G zb_isinstance, b_list := PySem.W.mg_none_of X G zb_list, b_bool := PySem.W.mg_none_of X G zb_bool, b_str := PySem.W.mg_none_of X G zb_str, b_all := PySem.W.mg_none_of X G zb_all, b_enumerate := PySem.W.mg_none_of X G zb_enumerate, b_sorted := PySem.W.mg_none_of X G zb_sorted, b_max := PySem.W.mg_none_of X G zb_max, c_WORDS := topTup (PySem.W.mg_of X G zc_WORDS) zo_WORDS zd_WORDS.1 zd_WORDS.2 (lim_le (n := 5) (by decide)) ["and", "or", "of", "always", "never"] (.cons ⟨_, rfl⟩ (.cons ⟨_, rfl⟩ (.cons ⟨_, rfl⟩ (.cons ⟨_, rfl⟩ (.cons ⟨_, rfl⟩ (.nil)))))), c_LETTERS := ⟨_, .str "abcdefghijklmnopqrstuvwxyz", PySem.W.mg_of X G zc_LETTERS, ⟨_, rfl⟩, fun _ => str_rd⟩, c_LAST_DAY := ⟨_, .int 30, PySem.W.mg_of X G zc_LAST_DAY, ⟨_, rfl⟩, fun _ => int_rd⟩, c_MOST_TRIPLES := ⟨_, .int 12, PySem.W.mg_of X G zc_MOST_TRIPLES, ⟨_, rfl⟩, fun _ => int_rd⟩, x_BadValue := ⟨Cx_BadValue, fx_BadValue, _, PySem.W.mg_of X G ax_BadValue, ⟨⟨_, _, _, _, _, _, _, _, _, _, _, _, _, _, _, lx_BadValue, mx_BadValue⟩, sx__BadValue, ex_BadValue, tx_BadValue, kx_BadValue⟩, ix_BadValue, jx_BadValue, Fx_BadValue.binds (ps := ["self", "at"]) (fun _ _ _ _ _ _ us hl => match us, hl with | [_, _], _ => rfl), fun base => init_BadValue Fx_BadValue, (fun f hf => (List.mem_singleton.mp hf) ▸ nx_BadValue_at)⟩ }
  have F1 := fun_mk (st := sm_law_numbers) l1 c1 k1
  have D1 : DefAt K mg "_law_numbers" "_law_numbers" sm_law_numbers ["script"] := ⟨f1, _, PySem.W.mg_of X G a1, F1, F1.binds (ps := ["script"]) fun _ _ _ _ _ _ us hl => match us, hl with | [_], _ => rfl⟩
  have F2 := fun_mk (st := sm_law_draw) l2 c2 k2
  have D2 : DefAt K mg "_law_draw" "_law_draw" sm_law_draw ["row", "at", "limit"] := ⟨f2, _, PySem.W.mg_of X G a2, F2, F2.binds (ps := ["row", "at", "limit"]) fun _ _ _ _ _ _ us hl => match us, hl with | [_, _, _], _ => rfl⟩
  have F3 := fun_mk (st := sm_law_take) l3 c3 k3
  have D3 : DefAt K mg "_law_take" "_law_take" sm_law_take ["row", "spot", "limit"] := ⟨f3, _, PySem.W.mg_of X G a3, F3, F3.binds (ps := ["row", "spot", "limit"]) fun _ _ _ _ _ _ us hl => match us, hl with | [_, _, _], _ => rfl⟩
  have F4 := fun_mk (st := sm_law_pick) l4 c4 k4
  have D4 : DefAt K mg "_law_pick" "_law_pick" sm_law_pick ["row", "spot", "things"] := ⟨f4, _, PySem.W.mg_of X G a4, F4, F4.binds (ps := ["row", "spot", "things"]) fun _ _ _ _ _ _ us hl => match us, hl with | [_, _, _], _ => rfl⟩
  have F5 := fun_mk (st := sm_law_letters) l5 c5 k5
  have D5 : DefAt K mg "_law_letters" "_law_letters" sm_law_letters ["row", "spot", "many"] := ⟨f5, _, PySem.W.mg_of X G a5, F5, F5.binds (ps := ["row", "spot", "many"]) fun _ _ _ _ _ _ us hl => match us, hl with | [_, _, _], _ => rfl⟩
  have F6 := fun_mk (st := sm_law_reserved) l6 c6 k6
  have D6 : DefAt K mg "_law_reserved" "_law_reserved" sm_law_reserved [] := ⟨f6, _, PySem.W.mg_of X G a6, F6, F6.binds (ps := []) fun _ _ _ _ _ _ us hl => match us, hl with | [], _ => rfl⟩
  have F7 := fun_mk (st := sm_law_name) l7 c7 k7
  have D7 : DefAt K mg "_law_name" "_law_name" sm_law_name ["row", "spot", "used"] := ⟨f7, _, PySem.W.mg_of X G a7, F7, F7.binds (ps := ["row", "spot", "used"]) fun _ _ _ _ _ _ us hl => match us, hl with | [_, _, _], _ => rfl⟩
  have F8 := fun_mk (st := sm_law_jobs) l8 c8 k8
  have D8 : DefAt K mg "_law_jobs" "_law_jobs" sm_law_jobs ["row", "spot", "many", "wide"] := ⟨f8, _, PySem.W.mg_of X G a8, F8, F8.binds (ps := ["row", "spot", "many", "wide"]) fun _ _ _ _ _ _ us hl => match us, hl with | [_, _, _, _], _ => rfl⟩
  have F9 := fun_mk (st := sm_all_different) l9 c9 k9
  have D9 : DefAt K mg "all_different" "all_different" sm_all_different ["row"] := ⟨f9, _, PySem.W.mg_of X G a9, F9, F9.binds (ps := ["row"]) fun _ _ _ _ _ _ us hl => match us, hl with | [_], _ => rfl⟩
  have F10 := fun_mk (st := sm_is_sequence) l10 c10 k10
  have D10 : DefAt K mg "is_sequence" "is_sequence" sm_is_sequence ["x"] := ⟨f10, _, PySem.W.mg_of X G a10, F10, F10.binds (ps := ["x"]) fun _ _ _ _ _ _ us hl => match us, hl with | [_], _ => rfl⟩
  have F11 := fun_mk (st := sm_is_row) l11 c11 k11
  have D11 : DefAt K mg "is_row" "is_row" sm_is_row ["x", "least", "most"] := ⟨f11, _, PySem.W.mg_of X G a11, F11, F11.binds (ps := ["x", "least", "most"]) fun _ _ _ _ _ _ us hl => match us, hl with | [_, _, _], _ => rfl⟩
  have F12 := fun_mk (st := sm_is_integer) l12 c12 k12
  have D12 : DefAt K mg "is_integer" "is_integer" sm_is_integer ["x"] := ⟨f12, _, PySem.W.mg_of X G a12, F12, F12.binds (ps := ["x"]) fun _ _ _ _ _ _ us hl => match us, hl with | [_], _ => rfl⟩
  have F13 := fun_mk (st := sm_is_within) l13 c13 k13
  have D13 : DefAt K mg "is_within" "is_within" sm_is_within ["x", "low", "high"] := ⟨f13, _, PySem.W.mg_of X G a13, F13, F13.binds (ps := ["x", "low", "high"]) fun _ _ _ _ _ _ us hl => match us, hl with | [_, _, _], _ => rfl⟩
  have F14 := fun_mk (st := sm_is_name) l14 c14 k14
  have D14 : DefAt K mg "is_name" "is_name" sm_is_name ["x"] := ⟨f14, _, PySem.W.mg_of X G a14, F14, F14.binds (ps := ["x"]) fun _ _ _ _ _ _ us hl => match us, hl with | [_], _ => rfl⟩
  have F15 := fun_mk (st := sm_is_triple) l15 c15 k15
  have D15 : DefAt K mg "is_triple" "is_triple" sm_is_triple ["row"] := ⟨f15, _, PySem.W.mg_of X G a15, F15, F15.binds (ps := ["row"]) fun _ _ _ _ _ _ us hl => match us, hl with | [_], _ => rfl⟩
  have F16 := fun_mk (st := sm_are_triples) l16 c16 k16
  have D16 : DefAt K mg "are_triples" "are_triples" sm_are_triples ["rows"] := ⟨f16, _, PySem.W.mg_of X G a16, F16, F16.binds (ps := ["rows"]) fun _ _ _ _ _ _ us hl => match us, hl with | [_], _ => rfl⟩
  have F17 := fun_mk (st := sm_check_triples) l17 c17 k17
  have D17 : DefAt K mg "check_triples" "check_triples" sm_check_triples ["rows"] := ⟨f17, _, PySem.W.mg_of X G a17, F17, F17.binds (ps := ["rows"]) fun _ _ _ _ _ _ us hl => match us, hl with | [_], _ => rfl⟩
  have F18 := fun_mk (st := sm_overlap) l18 c18 k18
  have D18 : DefAt K mg "overlap" "overlap" sm_overlap ["one", "other"] := ⟨f18, _, PySem.W.mg_of X G a18, F18, F18.binds (ps := ["one", "other"]) fun _ _ _ _ _ _ us hl => match us, hl with | [_, _], _ => rfl⟩
  have F19 := fun_mk (st := sm_free_hand) l19 c19 k19
  have D19 : DefAt K mg "free_hand" "free_hand" sm_free_hand ["spans", "numbers", "at"] := ⟨f19, _, PySem.W.mg_of X G a19, F19, F19.binds (ps := ["spans", "numbers", "at"]) fun _ _ _ _ _ _ us hl => match us, hl with | [_, _, _], _ => rfl⟩
  have F20 := fun_mk (st := sm_hands) l20 c20 k20
  have D20 : DefAt K mg "hands" "hands" sm_hands ["spans"] := ⟨f20, _, PySem.W.mg_of X G a20, F20, F20.binds (ps := ["spans"]) fun _ _ _ _ _ _ us hl => match us, hl with | [_], _ => rfl⟩
  have F21 := fun_mk (st := sm_law_listed) l21 c21 k21
  have D21 : DefAt K mg "_law_listed" "_law_listed" sm_law_listed ["value"] := ⟨f21, _, PySem.W.mg_of X G a21, F21, F21.binds (ps := ["value"]) fun _ _ _ _ _ _ us hl => match us, hl with | [_], _ => rfl⟩
  have F22 := fun_mk (st := sm_law_handed) l22 c22 k22
  have D22 : DefAt K mg "_law_handed" "_law_handed" sm_law_handed ["row", "spot", "value"] := ⟨f22, _, PySem.W.mg_of X G a22, F22, F22.binds (ps := ["row", "spot", "value"]) fun _ _ _ _ _ _ us hl => match us, hl with | [_, _, _], _ => rfl⟩
  have F23 := fun_mk (st := sm_law_so) l23 c23 k23
  have D23 : DefAt K mg "_law_so" "_law_so" sm_law_so ["found", "meant"] := ⟨f23, _, PySem.W.mg_of X G a23, F23, F23.binds (ps := ["found", "meant"]) fun _ _ _ _ _ _ us hl => match us, hl with | [_, _], _ => rfl⟩
  have F24 := fun_mk (st := sm_law_hands) l24 c24 k24
  have D24 : DefAt K mg "_law_hands" "_law_hands" sm_law_hands ["spans"] := ⟨f24, _, PySem.W.mg_of X G a24, F24, F24.binds (ps := ["spans"]) fun _ _ _ _ _ _ us hl => match us, hl with | [_], _ => rfl⟩
  have F25 := fun_mk (st := sm_law) l25 c25 k25
  have D25 : DefAtC K mg "law" "law" sm_law ["script"] cL := ⟨f25, _, PySem.W.mg_of X G a25, F25, F25.binds (ps := ["script"]) (fun _ _ _ _ _ _ us hl => match us, hl with | [_], _ => rfl), rfl⟩
  refine ⟨PySem.W.fnOf "law" "law" (defArgs sm_law) (defBody sm_law) (defScope sm_law) .none kV25 dc25 pm25 an25 (.ref cL) ct25, cL, PL, tabIn_mk a25 l25 rfl lL vL, nL, fun s v => .of_eq rfl, fun base _ _ TB => ?_⟩
  have GL : Good l.prog w K mg base "law" 27 ["script"] m_law := by
    have gm_law_numbers : Good l.prog w K mg base "_law_numbers" 1 ["script"] m_law_numbers := goodm_law_numbers T D1 
    have gm_law_draw : Good l.prog w K mg base "_law_draw" 1 ["row", "at", "limit"] m_law_draw := goodm_law_draw T D2 
    have gm_law_take : Good l.prog w K mg base "_law_take" 2 ["row", "spot", "limit"] m_law_take := goodm_law_take T D3 gm_law_draw
    have gm_law_pick : Good l.prog w K mg base "_law_pick" 3 ["row", "spot", "things"] m_law_pick := goodm_law_pick T D4 gm_law_take
    have gm_law_letters : Good l.prog w K mg base "_law_letters" 3 ["row", "spot", "many"] m_law_letters := goodm_law_letters T D5 gm_law_take
    have gm_law_reserved : Good l.prog w K mg base "_law_reserved" 1 [] m_law_reserved := goodm_law_reserved T D6 
    have gm_law_name : Good l.prog w K mg base "_law_name" 4 ["row", "spot", "used"] m_law_name := goodm_law_name T D7 gm_law_letters gm_law_take gm_law_reserved
    have gm_law_jobs : Good l.prog w K mg base "_law_jobs" 5 ["row", "spot", "many", "wide"] m_law_jobs := goodm_law_jobs T D8 gm_law_take gm_law_pick gm_law_name
    have gm_all_different : Good l.prog w K mg base "all_different" 1 ["row"] m_all_different := goodm_all_different T D9 
    have gm_is_sequence : Good l.prog w K mg base "is_sequence" 1 ["x"] m_is_sequence := goodm_is_sequence T D10 
    have gm_is_row : Good l.prog w K mg base "is_row" 2 ["x", "least", "most"] m_is_row := goodm_is_row T D11 gm_is_sequence
    have gm_is_integer : Good l.prog w K mg base "is_integer" 1 ["x"] m_is_integer := goodm_is_integer T D12 
    have gm_is_within : Good l.prog w K mg base "is_within" 2 ["x", "low", "high"] m_is_within := goodm_is_within T D13 gm_is_integer
    have gm_is_name : Good l.prog w K mg base "is_name" 1 ["x"] m_is_name := goodm_is_name T D14 
    have gm_is_triple : Good l.prog w K mg base "is_triple" 3 ["row"] m_is_triple := goodm_is_triple T D15 gm_is_within gm_is_row gm_is_name
    have gm_are_triples : Good l.prog w K mg base "are_triples" 4 ["rows"] m_are_triples := goodm_are_triples T D16 gm_all_different gm_is_row gm_is_triple
    have gm_check_triples : Good l.prog w K mg base "check_triples" 5 ["rows"] m_check_triples := goodm_check_triples T D17 gm_are_triples
    have gm_overlap : Good l.prog w K mg base "overlap" 1 ["one", "other"] m_overlap := goodm_overlap T D18 
    have gm_free_hand : Good l.prog w K mg base "free_hand" 2 ["spans", "numbers", "at"] m_free_hand := goodm_free_hand T D19 gm_overlap
    have gm_hands : Good l.prog w K mg base "hands" 6 ["spans"] m_hands := goodm_hands T D20 gm_check_triples gm_free_hand
    have gm_law_listed : ∀ n, Good l.prog w K mg base "_law_listed" (1 + n) ["value"] (m_law_listed n) := goodm_law_listed T D21 
    have gm_law_handed : Good l.prog w K mg base "_law_handed" 26 ["row", "spot", "value"] m_law_handed := goodm_law_handed T D22 gm_law_listed gm_law_take
    have gm_law_so : ∀ n, Good l.prog w K mg base "_law_so" (1 + n) ["found", "meant"] (m_law_so n) := goodm_law_so T D23 
    have gm_law_hands : Good l.prog w K mg base "_law_hands" 1 ["spans"] m_law_hands := goodm_law_hands T D24 
    exact goodm_law T D25 TB gm_law_numbers gm_law_jobs gm_hands gm_law_take gm_law_pick gm_law_handed gm_law_so gm_law_hands
  obtain ⟨fz, fdz, gz, _, _, ⟨o1, o2, o3, lk⟩, Fz⟩ := GL
  have e1 : fz = f25 := by
    have z := gz.symm.trans (PySem.W.mg_of X G a25)
    cases z; rfl
  rw [e1] at lk Fz
  have e2 := lk.symm.trans l25
  cases e2
  exact Fz.imp fun vs H Q E z => law_sp hlaw z
end Mp
open PySem PySem.W PyProof.Rows
set_option maxRecDepth 100000 in
set_option maxHeartbeats 0 in
theorem PySem.Challenge.cw_mendplan_k60_whole_hands_holds : PySem.Challenge.rw_mendplan_k60_whole_hands.Holds := by
  w_on; o_law; k_head; (case hw => w_witness2)
  k_fill
  refine Mp.walk_law (l := PySem.Challenge.rw_mendplan_k60_whole_hands) (k := 27) rfl rfl ⟨rfl, by decide, by decide⟩ (fun w h Y => PySem.W.kIn_of Y) ⟨_, rfl⟩ ?F
  case F =>
    intro w mg fa h KX G hmg
    refine' Mp.all_mk KX G hmg ?a1 ?l1 ?c1 ?k1 ?a2 ?l2 ?c2 ?k2 ?a3 ?l3 ?c3 ?k3 ?a4 ?l4 ?c4 ?k4 ?a5 ?l5 ?c5 ?k5 ?a6 ?l6 ?c6 ?k6 ?a7 ?l7 ?c7 ?k7 ?a8 ?l8 ?c8 ?k8 ?a9 ?l9 ?c9 ?k9 ?a10 ?l10 ?c10 ?k10 ?a11 ?l11 ?c11 ?k11 ?a12 ?l12 ?c12 ?k12 ?a13 ?l13 ?c13 ?k13 ?a14 ?l14 ?c14 ?k14 ?a15 ?l15 ?c15 ?k15 ?a16 ?l16 ?c16 ?k16 ?a17 ?l17 ?c17 ?k17 ?a18 ?l18 ?c18 ?k18 ?a19 ?l19 ?c19 ?k19 ?a20 ?l20 ?c20 ?k20 ?a21 ?l21 ?c21 ?k21 ?a22 ?l22 ?c22 ?k22 ?a23 ?l23 ?c23 ?k23 ?a24 ?l24 ?c24 ?k24 ?a25 ?l25 ?c25 ?k25 ?lL ?vL ?nL ?zb_range ?zb_int ?zb_len ?zb_min ?zb_tuple ?zb_isinstance ?zb_list ?zb_bool ?zb_str ?zb_all ?zb_enumerate ?zb_sorted ?zb_max ?zc_WORDS ?zo_WORDS ?zd_WORDS ?zc_LETTERS ?zc_LAST_DAY ?zc_MOST_TRIPLES ?ax_BadValue ?ex_BadValue ?nx_BadValue_at ?lx_BadValue ?mx_BadValue ?sx__BadValue ?tx_BadValue ?kx_BadValue ?ix_BadValue ?jx_BadValue ?ux_BadValue ?cx_BadValue ?wx_BadValue Mp.law_ok
    (case a1 => k_is)
    (case l1 => k_is)
    (case c1 => k_is)
    (case k1 => k_is)
    (case a2 => k_is)
    (case l2 => k_is)
    (case c2 => k_is)
    (case k2 => k_is)
    (case a3 => k_is)
    (case l3 => k_is)
    (case c3 => k_is)
    (case k3 => k_is)
    (case a4 => k_is)
    (case l4 => k_is)
    (case c4 => k_is)
    (case k4 => k_is)
    (case a5 => k_is)
    (case l5 => k_is)
    (case c5 => k_is)
    (case k5 => k_is)
    (case a6 => k_is)
    (case l6 => k_is)
    (case c6 => k_is)
    (case k6 => k_is)
    (case a7 => k_is)
    (case l7 => k_is)
    (case c7 => k_is)
    (case k7 => k_is)
    (case a8 => k_is)
    (case l8 => k_is)
    (case c8 => k_is)
    (case k8 => k_is)
    (case a9 => k_is)
    (case l9 => k_is)
    (case c9 => k_is)
    (case k9 => k_is)
    (case a10 => k_is)
    (case l10 => k_is)
    (case c10 => k_is)
    (case k10 => k_is)
    (case a11 => k_is)
    (case l11 => k_is)
    (case c11 => k_is)
    (case k11 => k_is)
    (case a12 => k_is)
    (case l12 => k_is)
    (case c12 => k_is)
    (case k12 => k_is)
    (case a13 => k_is)
    (case l13 => k_is)
    (case c13 => k_is)
    (case k13 => k_is)
    (case a14 => k_is)
    (case l14 => k_is)
    (case c14 => k_is)
    (case k14 => k_is)
    (case a15 => k_is)
    (case l15 => k_is)
    (case c15 => k_is)
    (case k15 => k_is)
    (case a16 => k_is)
    (case l16 => k_is)
    (case c16 => k_is)
    (case k16 => k_is)
    (case a17 => k_is)
    (case l17 => k_is)
    (case c17 => k_is)
    (case k17 => k_is)
    (case a18 => k_is)
    (case l18 => k_is)
    (case c18 => k_is)
    (case k18 => k_is)
    (case a19 => k_is)
    (case l19 => k_is)
    (case c19 => k_is)
    (case k19 => k_is)
    (case a20 => k_is)
    (case l20 => k_is)
    (case c20 => k_is)
    (case k20 => k_is)
    (case a21 => k_is)
    (case l21 => k_is)
    (case c21 => k_is)
    (case k21 => k_is)
    (case a22 => k_is)
    (case l22 => k_is)
    (case c22 => k_is)
    (case k22 => k_is)
    (case a23 => k_is)
    (case l23 => k_is)
    (case c23 => k_is)
    (case k23 => k_is)
    (case a24 => k_is)
    (case l24 => k_is)
    (case c24 => k_is)
    (case k24 => k_is)
    (case a25 => k_is)
    (case l25 => k_is)
    (case c25 => k_is)
    (case k25 => k_is)
    (case lL => k_is)
    (case vL => exact rfl)
    (case nL => exact rfl)
    (case zb_range => k_is)
    (case zb_int => k_is)
    (case zb_len => k_is)
    (case zb_min => k_is)
    (case zb_tuple => k_is)
    (case zb_isinstance => k_is)
    (case zb_list => k_is)
    (case zb_bool => k_is)
    (case zb_str => k_is)
    (case zb_all => k_is)
    (case zb_enumerate => k_is)
    (case zb_sorted => k_is)
    (case zb_max => k_is)
    (case zc_WORDS => k_is)
    (case zo_WORDS => k_is)
    (case zd_WORDS => exact ⟨rfl, rfl⟩)
    (case zc_LETTERS => k_is)
    (case zc_LAST_DAY => k_is)
    (case zc_MOST_TRIPLES => k_is)
    (case ax_BadValue => k_is)
    (case ex_BadValue => k_is)
    (case nx_BadValue_at => k_is)
    (case lx_BadValue => k_is)
    (case mx_BadValue => exact (by decide +kernel))
    (case sx__BadValue => k_is)
    (case tx_BadValue => k_is)
    (case kx_BadValue => k_is)
    (case ix_BadValue => k_is)
    (case jx_BadValue => k_is)
    (case ux_BadValue => k_is)
    (case cx_BadValue => k_is)
    (case wx_BadValue => k_is)
