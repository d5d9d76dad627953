import PyProof.Rows.All
import Wide.All
import OpenK.AllK
import Wide.FinOn
import HandS.ForMost
import HandS.ForExc
import HandS.Lambda
import KE.KNest
import HandS.Wide
import HandS.WideBits
import HandS.IsInst
import HandS.Gcd
import HandS.TupAny
import HandS.Codes
import HandS.Zip
import HandS.SortInts
import HandS.EndTab
import KE.GoesEnum
import KE.KMathGC
import KE.GoesZip
import HandS.DictComp
import HandS.More
import HandS.Iter
import HandS.ExcInit
import HandS.ExcSuper
import HandS.ExcField
import HandS.TryMany
import HandS.Flow
import HandS.Style
import KE.GoesMore
import HandS.Deep
import HandS.SortKw
import KE.DataMinMax
import HandS.Nested
import HandS.ExcValue
import KE.SortKeyHeap
import HandS.Star
import KE.LtData
import HandS.SetFor
import HandS.Strs
import HandS.SetBool
import PyProof.ListRange
import KE.KDictDisplayH
import HandS.Head3
import HandS.HeadHook1
import PySem.Challenge.RW_mendplan_k63_refusals_of_visits
set_option Elab.async false
set_option linter.all false
set_option maxRecDepth 100000
set_option maxHeartbeats 4000000
/-! LayA: data, cells, worlds; what a value of the program stands for. -/
namespace Mp
open PySem PySem.Spec PyProof.Rows L2

inductive D where
  | non | bl (b : Bool) | int (i : Int) | str (x : Str) | tup (xs : List D) | lst (xs : List D) | scr (xs : List D) | dct (ks : List Key) (ds : List D) | ref (n : Nat) | ty (n : String)
  deriving Inhabited
inductive C where
  | lst (xs : List D) | dct (ks : List Key) (ds : List D) | dtt (ks : List (List Key)) (ds : List D) | obj (cls : Str) (fs : List Str) (ds : List D) | rng (lo hi : Int) | lkd (ks : List Key) (ds : List D) | lkt (ks : List (List Key)) (ds : List D)
  deriving Inhabited
abbrev Hc := List C
abbrev Sl := List (Option D)
/-- what an expression comes to -/
inductive R (α : Type) where
  | ok (a : α) (h : Hc) | ex (x : Str) (fs : List Str) (ds : List D) (h : Hc) | bad
def R.bd {α β : Type} (r : R α) (f : α → Hc → R β) : R β := match r with
  | .ok a h => f a h
  | .ex x fs ds h => .ex x fs ds h
  | .bad => .bad
@[simp] theorem R.bd_ok {α β : Type} (a : α) (h : Hc) (f : α → Hc → R β) : (R.ok a h).bd f = f a h := Eq.trans rfl rfl
/-- the defs besides the law that make lambdas -/
def lamNames : List Str := ["_masks", "purchases"]
def lamQual (x : Str) : Str := x ++ ".<locals>.<lambda>"
def tabGo (K : PySem.W.Frag) : List Str → List (Addr × Str) → List (Addr × Str)
  | [], acc => acc
  | x :: r, acc => match PySem.W.tabIn K x with
    | some (_, P) => if acc.any (fun p => decide (p.1 = P)) = true then tabGo K r acc else tabGo K r (acc ++ [(P, lamQual x)])
    | none => tabGo K r acc
/-- where the tables of code objects stand: the law's, and those of the other defs that make lambdas -/
def tabT (K : PySem.W.Frag) : List (Addr × Str) := tabGo K (("law" : Str) :: lamNames) []
theorem tabGo_sub (K : PySem.W.Frag) : ∀ (l : List Str) (acc : List (Addr × Str)) (p : Addr × Str), p ∈ acc → p ∈ tabGo K l acc
  | [], acc, p, h => h
  | x :: r, acc, p, h => by
    unfold tabGo
    cases q : PySem.W.tabIn K x with
    | none => exact tabGo_sub K r acc p h
    | some cp =>
      obtain ⟨c, P⟩ := cp
      show p ∈ (if acc.any (fun p => decide (p.1 = P)) = true then tabGo K r acc else tabGo K r (acc ++ [(P, lamQual x)]))
      split
      · exact tabGo_sub K r acc p h
      · exact tabGo_sub K r _ p (List.mem_append.mpr (.inl h))
theorem tabGo_all (K : PySem.W.Frag) : ∀ (l : List Str) (acc : List (Addr × Str)) (p : Addr × Str), p ∈ tabGo K l acc → p ∈ acc ∨ ∃ x c, x ∈ l ∧ PySem.W.tabIn K x = some (c, p.1) ∧ p.2 = lamQual x
  | [], acc, p, h => .inl h
  | x :: r, acc, p, h => by
    unfold tabGo at h
    cases q : PySem.W.tabIn K x with
    | none =>
      rw [q] at h
      rcases tabGo_all K r acc p h with z | ⟨y, c, h1, h2⟩
      · exact .inl z
      · exact .inr ⟨y, c, List.mem_cons_of_mem _ h1, h2⟩
    | some cp =>
      obtain ⟨c, P⟩ := cp
      rw [q] at h
      simp only at h
      split at h
      · rcases tabGo_all K r acc p h with z | ⟨y, c, h1, h2⟩
        · exact .inl z
        · exact .inr ⟨y, c, List.mem_cons_of_mem _ h1, h2⟩
      · rcases tabGo_all K r _ p h with z | ⟨y, c, h1, h2⟩
        · rcases List.mem_append.mp z with z | z
          · exact .inl z
          · have e := List.mem_singleton.mp z
            subst e
            exact .inr ⟨x, c, List.mem_cons_self .., q, rfl⟩
        · exact .inr ⟨y, c, List.mem_cons_of_mem _ h1, h2⟩
theorem tabGo_uniq (K : PySem.W.Frag) : ∀ (l : List Str) (acc : List (Addr × Str)), (∀ p ∈ acc, ∀ q ∈ acc, p.1 = q.1 → p = q) → ∀ p ∈ tabGo K l acc, ∀ q ∈ tabGo K l acc, p.1 = q.1 → p = q
  | [], acc, h => h
  | x :: r, acc, h => by
    unfold tabGo
    cases q : PySem.W.tabIn K x with
    | none => exact tabGo_uniq K r acc h
    | some cp =>
      obtain ⟨c, P⟩ := cp
      show ∀ p ∈ (if acc.any (fun p => decide (p.1 = P)) = true then tabGo K r acc else tabGo K r (acc ++ [(P, lamQual x)])), ∀ q ∈ (if acc.any (fun p => decide (p.1 = P)) = true then tabGo K r acc else tabGo K r (acc ++ [(P, lamQual x)])), p.1 = q.1 → p = q
      split
      · exact tabGo_uniq K r acc h
      · rename_i hn
        have hn' : ∀ p ∈ acc, p.1 ≠ P := fun p hp e => hn (List.any_eq_true.mpr ⟨p, hp, by simpa using e⟩)
        refine tabGo_uniq K r _ fun p hp q hq e => ?_
        rcases List.mem_append.mp hp with hp | hp <;> rcases List.mem_append.mp hq with hq | hq
        · exact h p hp q hq e
        · rw [List.mem_singleton.mp hq] at e
          exact absurd e (hn' p hp)
        · rw [List.mem_singleton.mp hp] at e
          exact absurd e.symm (hn' q hq)
        · rw [List.mem_singleton.mp hp, List.mem_singleton.mp hq]
theorem tab_uniq {K : PySem.W.Frag} : ∀ p ∈ tabT K, ∀ q ∈ tabT K, p.1 = q.1 → p = q := tabGo_uniq K _ [] fun p hp => by cases hp
theorem tab_all {K : PySem.W.Frag} {p : Addr × Str} (h : p ∈ tabT K) : ∃ x c, x ∈ ("law" : Str) :: lamNames ∧ PySem.W.tabIn K x = some (c, p.1) ∧ p.2 = lamQual x := by
  rcases tabGo_all K _ [] p h with z | z
  · cases z
  · exact z
theorem tab_law {K : PySem.W.Frag} {c P : Addr} (h : PySem.W.tabIn K "law" = some (c, P)) : (P, lamQual "law") ∈ tabT K := by
  unfold tabT tabGo
  rw [h]
  exact tabGo_sub K _ _ _ (List.mem_append.mpr (.inr (List.mem_singleton.mpr rfl)))
abbrev TabsK (K : PySem.W.Frag) (H : Hp) : Prop := LamX.Tabs (tabT K) H
/-- a world: the addresses that may change, where the cells stand, how many, the tracked heap -/
structure Wo where
  A : Addr → Prop
  β : Nat → Addr
  n : Nat
  H : Hp
/-- what may be changed -/
def MutO : HO → Prop
  | .lst _ => True
  | .dK _ => True
  | .dT _ => True
  | .ins _ _ _ => True
  | .rng _ _ => True
  | .frz _ (.dK _) => True
  | .frz _ (.dT _) => True
  | _ => False
/-- a locked thing -/
def isFz : HO → Prop
  | .frz _ _ => True
  | _ => False
structure Ext (ω ω' : Wo) : Prop where
  n : ω.n ≤ ω'.n
  b : ∀ i, i < ω.n → ω'.β i = ω.β i
  a : ∀ q, ω.A q → ω'.A q
  aN : ∀ q, ω'.A q → ω.A q ∨ ω.H q = none
  nw : ∀ i, ω.n ≤ i → i < ω'.n → ω.H (ω'.β i) = none
  dom : ∀ q, ω'.H q = none → ω.H q = none
  keep : ∀ q o, ω.H q = some o → (∀ ps, o ≠ .tbl ps) → ((∀ i, i < ω.n → ω.β i ≠ q) ∨ isFz o) → ω'.H q = some o
theorem Ext.refl (ω : Wo) : Ext ω ω := ⟨Nat.le_refl _, fun _ _ => rfl, fun _ h => h, fun _ h => .inl h, fun i h1 h2 => absurd h2 (Nat.not_lt.mpr h1), fun _ h => h, fun _ _ h _ _ => h⟩
theorem Ext.trans {ω ω1 ω2 : Wo} (x : Ext ω ω1) (y : Ext ω1 ω2) : Ext ω ω2 where
  n := Nat.le_trans x.n y.n
  b := fun i h => (y.b i (Nat.lt_of_lt_of_le h x.n)).trans (x.b i h)
  a := fun q h => y.a q (x.a q h)
  aN := fun q h => by
    rcases y.aN q h with z | z
    · exact x.aN q z
    · exact .inr (x.dom q z)
  nw := fun i h1 h2 => by
    by_cases h : i < ω1.n
    · rw [y.b i h]; exact x.nw i h1 h
    · exact x.dom _ (y.nw i (Nat.not_lt.mp h) h2)
  dom := fun q h => x.dom q (y.dom q h)
  keep := fun q o h nt hb => y.keep q o (x.keep q o h nt hb) nt <| hb.elim (fun hb => .inl fun i hi e => by
    by_cases h' : i < ω.n
    · rw [x.b i h'] at e; exact hb i h' e
    · have z := x.nw i (Nat.not_lt.mp h') hi
      rw [e, h] at z; cases z) .inr

section
variable (K : PySem.W.Frag)
/-- a written list -/
def WrL (p : Addr) (vs : List V) : Prop :=
  ∃ (o : Obj) (its : Array Value) (n : Nat), K.lookup p = some o ∧ o.cls = .type "list" ∧ o.dict = none ∧ o.data = .seq its n ∧ its.size ≤ sizeLine ∧ Vals vs its.toList
/-- a list that nobody changes any more; one that is locked or written -/
def FzL (ω : Wo) (p : Addr) (vs : List V) : Prop := ω.H p = some (.lst vs) ∧ ¬ ω.A p
def LkL (ω : Wo) (p : Addr) (vs : List V) : Prop := (∃ o, ω.H p = some (.frz o (.lst vs))) ∨ WrL K p vs
theorem LkL.sq {K : PySem.W.Frag} {ω : Wo} {p : Addr} {vs : List V} (h : LkL K ω p vs) : SqL K ω.H p vs := by
  rcases h with ⟨o, h⟩ | h
  · exact .inl (.inr ⟨o, h⟩)
  · exact .inr h
/-- an int, or more than one, and nothing else -/
def keyV : List V → Bool
  | [] => false
  | [.int _] => true
  | .int _ :: r => keyV r
  | _ => false
/-- a tuple; if its items are ints, it is tracked (it may be the key of a dict) -/
def SqQ (H : Hp) (p : Addr) (vs : List V) : Prop := SqT K H p vs ∧ (keyV vs = true → H p = some (.tup vs))
/-- the class of this name -/
def clsAt (x : Str) : Option Addr := match PySem.W.nsIn K mainGlobals x with
  | some (some (.ref c)) => some c
  | _ => none
mutual
def RelD (ω : Wo) : D → V → Prop
  | .non, v => v = .non
  | .bl b, v => v = .bl b
  | .int i, v => v = .int i
  | .str x, v => v = .str x
  | .ty t, v => v = .ty t
  | .tup ds, v => ∃ p vs, v = .ref p ∧ SqQ K ω.H p vs ∧ RelL ω ds vs
  | .lst ds, v => ∃ p vs, v = .ref p ∧ FzL ω p vs ∧ RelL ω ds vs
  | .scr ds, v => ∃ p vs, v = .ref p ∧ LkL K ω p vs ∧ RelL ω ds vs
  | .dct ks ds, v => ∃ p vs, v = .ref p ∧ (ω.H p = some (.dK (ks.zip vs)) ∧ ¬ ω.A p) ∧ ks.length = vs.length ∧ RelL ω ds vs
  | .ref i, v => i < ω.n ∧ v = .ref (ω.β i)
def RelL (ω : Wo) : List D → List V → Prop
  | [], vs => vs = []
  | d :: ds, vs => ∃ v ws, vs = v :: ws ∧ RelD ω d v ∧ RelL ω ds ws
end
def RelC (ω : Wo) (p : Addr) : C → Prop
  | .lst ds => ∃ vs, ω.H p = some (.lst vs) ∧ RelL K ω ds vs
  | .dct ks ds => ∃ vs, ω.H p = some (.dK (ks.zip vs)) ∧ ks.length = vs.length ∧ RelL K ω ds vs
  | .dtt ks ds => ∃ vs, ω.H p = some (.dT (ks.zip vs)) ∧ ks.length = vs.length ∧ RelL K ω ds vs
  | .obj cls fs ds => ∃ vs, (∃ cx dx, clsAt K cls = some cx ∧ ω.H p = some (.ins cx dx (fs.zip vs))) ∧ fs.length = vs.length ∧ RelL K ω ds vs
  | .rng lo hi => ω.H p = some (.rng lo hi)
  | .lkd ks ds => ∃ vs, (∃ o, ω.H p = some (.frz o (.dK (ks.zip vs)))) ∧ ks.length = vs.length ∧ RelL K ω ds vs
  | .lkt ks ds => ∃ vs, (∃ o, ω.H p = some (.frz o (.dT (ks.zip vs)))) ∧ ks.length = vs.length ∧ RelL K ω ds vs
structure Rel (ω : Wo) (h : Hc) : Prop where
  n : ω.n = h.length
  inj : ∀ i j, i < ω.n → j < ω.n → ω.β i = ω.β j → i = j
  inA : ∀ i, i < ω.n → ω.A (ω.β i)
  sub : ∀ q, ω.A q → ω.H q ≠ none
  cel : ∀ i c, h[i]? = some c → RelC K ω (ω.β i) c
  tabs : TabsK K ω.H
def RelS (ω : Wo) (ds : Sl) (σ : L2.St) : Prop := ds.length = σ.length ∧ ∀ (i : Nat) (d : D), ds[i]? = some (some d) → ∃ v, σ[i]? = some (some v) ∧ RelD K ω d v
end
section
variable {K : PySem.W.Frag} {ω ω' : Wo} {h h' : Hc} {d : D} {v : V} {ds : List D} {vs : List V} {p : Addr}
theorem Rel.mut (r : Rel K ω h) {i : Nat} (hi : i < ω.n) : ∃ o, ω.H (ω.β i) = some o ∧ MutO o := by
  rw [r.n] at hi
  have c := r.cel i h[i] (List.getElem?_eq_getElem hi)
  cases e : h[i] with
  | lst xs => rw [e] at c; obtain ⟨vs, e, _⟩ := c; exact ⟨_, e, trivial⟩
  | dct ks xs => rw [e] at c; obtain ⟨vs, e, _⟩ := c; exact ⟨_, e, trivial⟩
  | dtt ks xs => rw [e] at c; obtain ⟨vs, e, _⟩ := c; exact ⟨_, e, trivial⟩
  | obj cls fs xs => rw [e] at c; obtain ⟨vs, ⟨cx, dx, _, e⟩, _⟩ := c; exact ⟨_, e, trivial⟩
  | rng lo hi => rw [e] at c; exact ⟨_, c, trivial⟩
  | lkd ks xs => rw [e] at c; obtain ⟨vs, ⟨o, e⟩, _⟩ := c; exact ⟨_, e, trivial⟩
  | lkt ks xs => rw [e] at c; obtain ⟨vs, ⟨o, e⟩, _⟩ := c; exact ⟨_, e, trivial⟩
theorem Rel.kept (r : Rel K ω h) (e : Ext ω ω') {p : Addr} {o : HO} (h1 : ω.H p = some o) (h2 : ¬ ω.A p ∨ ¬ MutO o) (nt : ∀ ps, o ≠ .tbl ps := by intro _ z; cases z) : ω'.H p = some o :=
  e.keep p o h1 nt <| .inl fun i hi eq => by
    rcases h2 with h2 | h2
    · exact h2 (eq ▸ r.inA i hi)
    · obtain ⟨o', e1, e2⟩ := r.mut hi
      rw [eq, h1] at e1; cases e1
      exact h2 e2
theorem Rel.offA (r : Rel K ω h) (e : Ext ω ω') {p : Addr} {o : HO} (h1 : ω.H p = some o) (h2 : ¬ ω.A p) : ¬ ω'.A p := fun z => by
  rcases e.aN p z with z | z
  · exact h2 z
  · rw [h1] at z; cases z
theorem Rel.sqT (r : Rel K ω h) (e : Ext ω ω') (x : SqT K ω.H p vs) : SqT K ω'.H p vs := by
  rcases x with (x | ⟨o, x⟩) | x
  · exact .inl (.inl (r.kept e x (.inr id)))
  · exact .inl (.inr ⟨o, r.kept e x (.inr id)⟩)
  · exact .inr x
theorem Rel.sqQ (r : Rel K ω h) (e : Ext ω ω') (x : SqQ K ω.H p vs) : SqQ K ω'.H p vs := ⟨r.sqT e x.1, fun z => r.kept e (x.2 z) (.inr id)⟩
theorem SqQ.t {H : Hp} (e : H p = some (.tup vs)) : SqQ K H p vs := ⟨.inl (.inl e), fun _ => e⟩
theorem Rel.fzd (r : Rel K ω h) (e : Ext ω ω') {o : HO} (x : ω.H p = some o) (n : ¬ ω.A p) (nt : ∀ ps, o ≠ .tbl ps := by intro _ z; cases z) : ω'.H p = some o ∧ ¬ ω'.A p := ⟨r.kept e x (.inl n) nt, r.offA e x n⟩
theorem Rel.lk (r : Rel K ω h) (e : Ext ω ω') (x : LkL K ω p vs) : LkL K ω' p vs := by
  rcases x with ⟨o, x⟩ | x
  · exact .inl ⟨o, r.kept e x (.inr id)⟩
  · exact .inr x
mutual
theorem mono (r : Rel K ω h) (e : Ext ω ω') : ∀ (d : D) (v : V), RelD K ω d v → RelD K ω' d v
  | .non, v, x => by unfold RelD at x ⊢; exact x
  | .bl b, v, x => by unfold RelD at x ⊢; exact x
  | .int i, v, x => by unfold RelD at x ⊢; exact x
  | .str s, v, x => by unfold RelD at x ⊢; exact x
  | .ty t, v, x => by unfold RelD at x ⊢; exact x
  | .tup ds, v, x => by
    unfold RelD at x ⊢
    obtain ⟨p, vs, e1, e2, e3⟩ := x
    exact ⟨p, vs, e1, r.sqQ e e2, monoL r e ds vs e3⟩
  | .lst ds, v, x => by
    unfold RelD at x ⊢
    obtain ⟨p, vs, e1, e2, e3⟩ := x
    exact ⟨p, vs, e1, r.fzd e e2.1 e2.2, monoL r e ds vs e3⟩
  | .scr ds, v, x => by
    unfold RelD at x ⊢
    obtain ⟨p, vs, e1, e2, e3⟩ := x
    exact ⟨p, vs, e1, r.lk e e2, monoL r e ds vs e3⟩
  | .dct ks ds, v, x => by
    unfold RelD at x ⊢
    obtain ⟨p, vs, e1, e2, e3, e4⟩ := x
    exact ⟨p, vs, e1, r.fzd e e2.1 e2.2, e3, monoL r e ds vs e4⟩
  | .ref i, v, x => by
    unfold RelD at x ⊢
    exact ⟨Nat.lt_of_lt_of_le x.1 e.n, by rw [x.2, e.b i x.1]⟩
theorem monoL (r : Rel K ω h) (e : Ext ω ω') : ∀ (ds : List D) (vs : List V), RelL K ω ds vs → RelL K ω' ds vs
  | [], vs, x => by unfold RelL at x ⊢; exact x
  | d :: ds, vs, x => by
    unfold RelL at x ⊢
    obtain ⟨v, ws, e1, e2, e3⟩ := x
    exact ⟨v, ws, e1, mono r e d v e2, monoL r e ds ws e3⟩
end
theorem monoS (r : Rel K ω h) (e : Ext ω ω') {ds : Sl} {σ : L2.St} (x : RelS K ω ds σ) : RelS K ω' ds σ :=
  ⟨x.1, fun i d hd => let ⟨v, e1, e2⟩ := x.2 i d hd; ⟨v, e1, mono r e d v e2⟩⟩
/-! ### lists of data -/
theorem RelL.nil : RelL K ω [] [] := by unfold RelL; rfl
theorem RelL.cons (a : RelD K ω d v) (b : RelL K ω ds vs) : RelL K ω (d :: ds) (v :: vs) := by
  show RelL K ω (d :: ds) (v :: vs)
  unfold RelL; exact ⟨v, vs, rfl, a, b⟩
theorem RelL.len : ∀ {ds : List D} {vs : List V}, RelL K ω ds vs → ds.length = vs.length
  | [], vs, x => by unfold RelL at x; subst x; rfl
  | d :: ds, vs, x => by
    unfold RelL at x
    obtain ⟨v, ws, e1, e2, e3⟩ := x
    rw [e1, List.length_cons, List.length_cons, RelL.len e3]
theorem RelL.get : ∀ {ds : List D} {vs : List V} {i : Nat} {d : D}, RelL K ω ds vs → ds[i]? = some d → ∃ v, vs[i]? = some v ∧ RelD K ω d v
  | [], vs, i, d, x, e => by simp at e
  | d :: ds, vs, 0, d', x, e => by
    unfold RelL at x
    obtain ⟨v, ws, rfl, e2, e3⟩ := x
    have e' : d = d' := by simpa using e
    subst e'
    exact ⟨v, rfl, e2⟩
  | d :: ds, vs, i + 1, d', x, e => by
    unfold RelL at x
    obtain ⟨v, ws, rfl, e2, e3⟩ := x
    obtain ⟨v', q1, q2⟩ := RelL.get (i := i) e3 (by simpa using e)
    exact ⟨v', by simpa using q1, q2⟩
theorem RelL.append : ∀ {ds es : List D} {vs ws : List V}, RelL K ω ds vs → RelL K ω es ws → RelL K ω (ds ++ es) (vs ++ ws)
  | [], es, vs, ws, x, y => by unfold RelL at x; subst x; exact y
  | d :: ds, es, vs, ws, x, y => by
    unfold RelL at x
    obtain ⟨v, us, rfl, e2, e3⟩ := x
    exact RelL.cons e2 (RelL.append e3 y)
theorem RelL.take : ∀ {ds : List D} {vs : List V} (n : Nat), RelL K ω ds vs → RelL K ω (ds.take n) (vs.take n)
  | _, _, 0, _ => by simpa using RelL.nil
  | [], vs, n + 1, x => by unfold RelL at x; subst x; simpa using RelL.nil
  | d :: ds, vs, n + 1, x => by
    unfold RelL at x
    obtain ⟨v, us, rfl, e2, e3⟩ := x
    exact RelL.cons e2 (RelL.take n e3)
theorem RelL.drop : ∀ {ds : List D} {vs : List V} (n : Nat), RelL K ω ds vs → RelL K ω (ds.drop n) (vs.drop n)
  | _, _, 0, x => by simpa using x
  | [], vs, n + 1, x => by unfold RelL at x; subst x; simpa using RelL.nil
  | d :: ds, vs, n + 1, x => by
    unfold RelL at x
    obtain ⟨v, us, rfl, e2, e3⟩ := x
    simpa using RelL.drop n e3
theorem RelL.set {d : D} {v : V} (r : RelD K ω d v) : ∀ {ds : List D} {vs : List V} (i : Nat), RelL K ω ds vs → RelL K ω (ds.set i d) (vs.set i v)
  | [], vs, i, x => by unfold RelL at x; subst x; simpa using RelL.nil
  | d' :: ds, vs, 0, x => by
    unfold RelL at x
    obtain ⟨v', us, rfl, e2, e3⟩ := x
    exact RelL.cons r e3
  | d' :: ds, vs, i + 1, x => by
    unfold RelL at x
    obtain ⟨v', us, rfl, e2, e3⟩ := x
    exact RelL.cons e2 (RelL.set r i e3)
theorem RelL.reverse : ∀ {ds : List D} {vs : List V}, RelL K ω ds vs → RelL K ω ds.reverse vs.reverse
  | [], vs, x => by unfold RelL at x; subst x; simpa using RelL.nil
  | d' :: ds, vs, x => by
    unfold RelL at x
    obtain ⟨v', us, rfl, e2, e3⟩ := x
    rw [List.reverse_cons, List.reverse_cons]
    exact RelL.append (RelL.reverse e3) (RelL.cons e2 RelL.nil)
theorem RelL.inv {vs : List V} (x : RelL K ω (d :: ds) vs) : ∃ v ws, vs = v :: ws ∧ RelD K ω d v ∧ RelL K ω ds ws := by unfold RelL at x; exact x
theorem RelL.inv0 {vs : List V} (x : RelL K ω [] vs) : vs = [] := by unfold RelL at x; exact x
theorem RelL.ints : ∀ {ns : List Int} {vs : List V}, RelL K ω (ns.map D.int) vs → vs = ns.map V.int
  | [], vs, x => x.inv0
  | n :: ns, vs, x => by
    obtain ⟨v, ws, rfl, e2, e3⟩ := x.inv
    unfold RelD at e2
    rw [e2, RelL.ints e3]; rfl
theorem RelL.of_ints : ∀ (ns : List Int), RelL K ω (ns.map D.int) (ns.map V.int)
  | [] => RelL.nil
  | n :: ns => RelL.cons (by unfold RelD; rfl) (RelL.of_ints ns)
theorem RelL.strs : ∀ {ns : List Str} {vs : List V}, RelL K ω (ns.map D.str) vs → vs = ns.map V.str
  | [], vs, x => x.inv0
  | n :: ns, vs, x => by
    obtain ⟨v, ws, rfl, e2, e3⟩ := x.inv
    unfold RelD at e2
    rw [e2, RelL.strs e3]; rfl
theorem RelL.of_strs : ∀ (ns : List Str), RelL K ω (ns.map D.str) (ns.map V.str)
  | [] => RelL.nil
  | n :: ns => RelL.cons (by unfold RelD; rfl) (RelL.of_strs ns)
theorem RelL.bls : ∀ {ns : List Bool} {vs : List V}, RelL K ω (ns.map D.bl) vs → vs = ns.map V.bl
  | [], vs, x => x.inv0
  | n :: ns, vs, x => by
    obtain ⟨v, ws, rfl, e2, e3⟩ := x.inv
    unfold RelD at e2
    rw [e2, RelL.bls e3]; rfl
/-- the tables stay where all but lists and dicts stay -/
theorem tabs_keep {K : PySem.W.Frag} {H H' : Hp} (t : TabsK K H) (k : ∀ b o, H b = some o → ¬ MutO o → H' b = some o) : TabsK K H' := fun p hp => by
  obtain ⟨ps, h1, h2, h3⟩ := t p hp
  refine ⟨ps, k _ _ h1 id, h2, fun pos cv hc => ?_⟩
  obtain ⟨c, e1, e2⟩ := h3 pos cv hc
  exact ⟨c, e1, k _ _ e2 (by unfold LamX.CodeO; exact id)⟩
/-! ### new objects, changed cells -/
def Wo.up (ω : Wo) (p : Addr) (o : HO) : Wo := { ω with H := upd ω.H p o }
theorem Ext.up {o : HO} (hp : ω.H p = none) : Ext ω (ω.up p o) where
  n := Nat.le_refl _
  b := fun _ _ => rfl
  a := fun _ x => x
  aN := fun _ x => .inl x
  nw := fun i h1 h2 => absurd h2 (Nat.not_lt.mpr h1)
  dom := fun q x => by
    by_cases e : q = p
    · rw [e]; exact hp
    · have x' : upd ω.H p o q = none := x
      rw [upd_ne e] at x'; exact x'
  keep := fun q u x _ _ => by
    show upd ω.H p o q = some u
    rw [upd_ne (ne_of_none x hp)]; exact x
theorem Rel.ext1 (r : Rel K ω h) (e : Ext ω ω') (hn : ω'.n = ω.n) (hA : ∀ q, ω'.A q → ω'.H q ≠ none) (hc : ∀ i, i < ω.n → ω'.H (ω.β i) = ω.H (ω.β i)) (ht : TabsK K ω'.H) : Rel K ω' h where
  tabs := ht
  n := hn.trans r.n
  inj := fun i j hi hj q => by
    rw [hn] at hi hj
    rw [e.b i hi, e.b j hj] at q
    exact r.inj i j hi hj q
  inA := fun i hi => by rw [hn] at hi; rw [e.b i hi]; exact e.a _ (r.inA i hi)
  sub := hA
  cel := fun i c hi => by
    have hl : i < ω.n := by rw [r.n]; exact (List.getElem?_eq_some_iff.mp hi).1
    rw [e.b i hl]
    have x := r.cel i c hi
    cases c with
    | lst xs =>
      obtain ⟨vs, e1, e2⟩ := x
      exact ⟨vs, (hc i hl).trans e1, monoL r e _ _ e2⟩
    | dct ks xs =>
      obtain ⟨vs, e1, e3, e2⟩ := x
      exact ⟨vs, (hc i hl).trans e1, e3, monoL r e _ _ e2⟩
    | dtt ks xs =>
      obtain ⟨vs, e1, e3, e2⟩ := x
      exact ⟨vs, (hc i hl).trans e1, e3, monoL r e _ _ e2⟩
    | obj cls fs xs =>
      obtain ⟨vs, ⟨cx, dx, e0, e1⟩, e3, e2⟩ := x
      exact ⟨vs, ⟨cx, dx, e0, (hc i hl).trans e1⟩, e3, monoL r e _ _ e2⟩
    | rng lo hi => exact (hc i hl).trans x
    | lkd ks xs => obtain ⟨vs, ⟨o, e1⟩, e3, e2⟩ := x; exact ⟨vs, ⟨o, (hc i hl).trans e1⟩, e3, monoL r e _ _ e2⟩
    | lkt ks xs => obtain ⟨vs, ⟨o, e1⟩, e3, e2⟩ := x; exact ⟨vs, ⟨o, (hc i hl).trans e1⟩, e3, monoL r e _ _ e2⟩
theorem Rel.ext0 (r : Rel K ω h) (e : Ext ω ω') (hn : ω'.n = ω.n) (hA : ∀ q, ω'.A q → ω.A q) (hc : ∀ i, i < ω.n → ω'.H (ω.β i) = ω.H (ω.β i)) (ht : TabsK K ω'.H) : Rel K ω' h :=
  r.ext1 e hn (fun q hq z => r.sub q (hA q hq) (e.dom q z)) hc ht
theorem Rel.up {o : HO} (r : Rel K ω h) (hp : ω.H p = none) : Rel K (ω.up p o) h :=
  r.ext0 (Ext.up hp) rfl (fun _ x => x) (fun i hi => by
    obtain ⟨u, e, _⟩ := r.mut hi
    show upd ω.H p o _ = _
    rw [upd_ne (ne_of_none e hp)]) (tabs_keep r.tabs fun b u e _ => by
    show upd ω.H p o b = some u
    rw [upd_ne (ne_of_none e hp)]; exact e)
theorem Rel.free (r : Rel K ω h) (hp : ω.H p = none) : ¬ ω.A p := fun z => r.sub p z hp
/-- a new cell at p -/
def Wo.cell (ω : Wo) (p : Addr) (o : HO) : Wo := ⟨fun q => ω.A q ∨ q = p, fun i => if i = ω.n then p else ω.β i, ω.n + 1, upd ω.H p o⟩
theorem Ext.cell {o : HO} (hp : ω.H p = none) : Ext ω (ω.cell p o) where
  n := Nat.le_succ _
  b := fun i hi => if_neg (Nat.ne_of_lt hi)
  a := fun _ x => .inl x
  aN := fun q x => by
    rcases x with x | x
    · exact .inl x
    · rw [x]; exact .inr hp
  nw := fun i h1 h2 => by
    have h2' : i < ω.n + 1 := h2
    have e : i = ω.n := Nat.le_antisymm (Nat.le_of_lt_succ h2') h1
    show ω.H (if i = ω.n then p else ω.β i) = none
    rw [if_pos e]; exact hp
  dom := (Ext.up (o := o) hp).dom
  keep := (Ext.up (o := o) hp).keep
theorem Wo.cell_at {o : HO} : (ω.cell p o).β ω.n = p := if_pos rfl
theorem Rel.cell {o : HO} {c : C} (r : Rel K ω h) (hp : ω.H p = none) (hc : RelC K (ω.cell p o) p c) : Rel K (ω.cell p o) (h ++ [c]) where
  tabs := tabs_keep r.tabs fun b u e _ => by
    show upd ω.H p o b = some u
    rw [upd_ne (ne_of_none e hp)]; exact e
  n := by rw [List.length_append, ← r.n]; rfl
  inj := fun i j hi hj q => by
    have hi' : i < ω.n + 1 := hi
    have hj' : j < ω.n + 1 := hj
    have q' : (if i = ω.n then p else ω.β i) = (if j = ω.n then p else ω.β j) := q
    by_cases e1 : i = ω.n
    · by_cases e2 : j = ω.n
      · omega
      · rw [if_pos e1, if_neg e2] at q'
        obtain ⟨u, z, _⟩ := r.mut (show j < ω.n by omega)
        rw [← q', hp] at z; cases z
    · by_cases e2 : j = ω.n
      · rw [if_neg e1, if_pos e2] at q'
        obtain ⟨u, z, _⟩ := r.mut (show i < ω.n by omega)
        rw [q', hp] at z; cases z
      · rw [if_neg e1, if_neg e2] at q'
        exact r.inj i j (by omega) (by omega) q'
  inA := fun i hi => by
    have hi' : i < ω.n + 1 := hi
    by_cases e1 : i = ω.n
    · exact .inr (if_pos e1)
    · refine .inl ?_
      show ω.A (if i = ω.n then p else ω.β i)
      rw [if_neg e1]; exact r.inA i (by omega)
  sub := fun q x z => by
    have z' : upd ω.H p o q = none := z
    by_cases e : q = p
    · rw [e, upd_same] at z'; cases z'
    · rw [upd_ne e] at z'
      rcases x with x | x
      · exact r.sub q x z'
      · exact e x
  cel := fun i c' hi => by
    by_cases e1 : i = ω.n
    · have e2 : i = h.length := e1.trans r.n
      rw [List.getElem?_append_right (by omega), e2, Nat.sub_self] at hi
      have e3 : c = c' := by simpa using hi
      subst e3
      have e4 : (ω.cell p o).β i = p := if_pos e1
      rw [e4]; exact hc
    · have hlt : i < ω.n := by
        have := (List.getElem?_eq_some_iff.mp hi).1
        rw [List.length_append, ← r.n] at this
        simp at this; omega
      rw [List.getElem?_append_left (by rw [← r.n]; exact hlt)] at hi
      have e4 : (ω.cell p o).β i = ω.β i := if_neg e1
      rw [e4]
      obtain ⟨u, z, _⟩ := r.mut hlt
      have ne : ω.β i ≠ p := ne_of_none z hp
      have x := r.cel i c' hi
      have e := Ext.cell (ω := ω) (p := p) (o := o) hp
      cases c' with
      | lst xs =>
        obtain ⟨vs, e1, e2⟩ := x
        exact ⟨vs, (upd_ne ne).trans e1, monoL r e _ _ e2⟩
      | dct ks xs =>
        obtain ⟨vs, e1, e3, e2⟩ := x
        exact ⟨vs, (upd_ne ne).trans e1, e3, monoL r e _ _ e2⟩
      | dtt ks xs =>
        obtain ⟨vs, e1, e3, e2⟩ := x
        exact ⟨vs, (upd_ne ne).trans e1, e3, monoL r e _ _ e2⟩
      | obj cls fs xs =>
        obtain ⟨vs, ⟨cx, dx, e0, e1⟩, e3, e2⟩ := x
        exact ⟨vs, ⟨cx, dx, e0, (upd_ne ne).trans e1⟩, e3, monoL r e _ _ e2⟩
      | rng lo hi => exact (upd_ne ne).trans x
      | lkd ks xs => obtain ⟨vs, ⟨o, e1⟩, e3, e2⟩ := x; exact ⟨vs, ⟨o, (upd_ne ne).trans e1⟩, e3, monoL r e _ _ e2⟩
      | lkt ks xs => obtain ⟨vs, ⟨o, e1⟩, e3, e2⟩ := x; exact ⟨vs, ⟨o, (upd_ne ne).trans e1⟩, e3, monoL r e _ _ e2⟩
/-- cell i is changed -/
theorem Ext.put {o u : HO} {i : Nat} (hi : i < ω.n) (hu : ω.H (ω.β i) = some u) (nf : ¬ isFz u := by exact id) : Ext ω (ω.up (ω.β i) o) where
  n := Nat.le_refl _
  b := fun _ _ => rfl
  a := fun _ x => x
  aN := fun _ x => .inl x
  nw := fun i h1 h2 => absurd h2 (Nat.not_lt.mpr h1)
  dom := fun q x => by
    have x' : upd ω.H (ω.β i) o q = none := x
    by_cases e : q = ω.β i
    · rw [e, upd_same] at x'; cases x'
    · rw [upd_ne e] at x'; exact x'
  keep := fun q w x _ hb => by
    show upd ω.H (ω.β i) o q = some w
    rw [upd_ne (fun e => hb.elim (fun hb => hb i hi e.symm) fun f => nf (by rw [e, hu] at x; cases x; exact f))]; exact x
theorem Rel.put {o : HO} {c : C} {i : Nat} (r : Rel K ω h) (hi : i < ω.n) {u : HO} (hu : ω.H (ω.β i) = some u) (hc : RelC K (ω.up (ω.β i) o) (ω.β i) c) (nf : ¬ isFz u := by exact id) : Rel K (ω.up (ω.β i) o) (h.set i c) := by
  have e := Ext.put (o := o) hi hu nf
  refine ⟨by rw [List.length_set]; exact r.n, r.inj, r.inA, fun q x z => r.sub q x (e.dom q z), fun j c' hj => ?_, tabs_keep r.tabs fun b w e1 nm => by
    show upd ω.H (ω.β i) o b = some w
    rw [upd_ne (fun z => nm (by
      obtain ⟨w', e2, m⟩ := r.mut hi
      rw [z, e2] at e1; cases e1
      exact m))]; exact e1⟩
  by_cases ej : j = i
  · subst ej
    rw [List.getElem?_set_self (by rw [← r.n]; exact hi)] at hj
    have e3 : c = c' := by simpa using hj
    subst e3
    exact hc
  · rw [List.getElem?_set_ne (Ne.symm ej)] at hj
    have hl : j < ω.n := by rw [r.n]; exact (List.getElem?_eq_some_iff.mp hj).1
    have ne : ω.β j ≠ ω.β i := fun q => ej (r.inj j i hl hi q)
    have x := r.cel j c' hj
    show RelC K (ω.up (ω.β i) o) (ω.β j) c'
    cases c' with
    | lst xs =>
      obtain ⟨vs, e1, e2⟩ := x
      exact ⟨vs, (upd_ne ne).trans e1, monoL r e _ _ e2⟩
    | dct ks xs =>
      obtain ⟨vs, e1, e3, e2⟩ := x
      exact ⟨vs, (upd_ne ne).trans e1, e3, monoL r e _ _ e2⟩
    | dtt ks xs =>
      obtain ⟨vs, e1, e3, e2⟩ := x
      exact ⟨vs, (upd_ne ne).trans e1, e3, monoL r e _ _ e2⟩
    | obj cls fs xs =>
      obtain ⟨vs, ⟨cx, dx, e0, e1⟩, e3, e2⟩ := x
      exact ⟨vs, ⟨cx, dx, e0, (upd_ne ne).trans e1⟩, e3, monoL r e _ _ e2⟩
    | rng lo hi => exact (upd_ne ne).trans x
    | lkd ks xs => obtain ⟨vs, ⟨o, e1⟩, e3, e2⟩ := x; exact ⟨vs, ⟨o, (upd_ne ne).trans e1⟩, e3, monoL r e _ _ e2⟩
    | lkt ks xs => obtain ⟨vs, ⟨o, e1⟩, e3, e2⟩ := x; exact ⟨vs, ⟨o, (upd_ne ne).trans e1⟩, e3, monoL r e _ _ e2⟩
end
end Mp
/-! LayB: what an expression, a test, a statement means over data. -/
namespace Mp
open PySem PySem.Spec PyProof.Rows L2
abbrev SE := Sl → Hc → R D
abbrev SB := Sl → Hc → R Bool
abbrev SA := Sl → Hc → R (List D)
/-- an exception over data -/
def RelX (K : PySem.W.Frag) (mg : Str → Option Value) (ω : Wo) (x : Str) (fs : List Str) (ds : List D) (cls : Value) (dx : Option Addr) : Prop :=
  ∃ (C d : Addr) (vs : List V), cls = .ref C ∧ dx = some d ∧ mg x = some (.ref C) ∧ ω.H d = some (.xd (fs.zip vs)) ∧ fs.length = vs.length ∧ RelL K ω ds vs
def Post {α β : Type} (K : PySem.W.Frag) (mg : Str → Option Value) (W : WX) (σ : L2.St) (ω : Wo) (rel : Wo → α → β → Prop) (Q : β → Hp → Prop) : R α → Prop
  | .ok a h => ∀ b ω', Ext ω ω' → Rel K ω' h → rel ω' a b → Q b ω'.H
  | .ex x fs ds h => ∀ cls dx ω', Ext ω ω' → Rel K ω' h → RelX K mg ω' x fs ds cls dx → W cls dx σ ω'.H
  | .bad => False
section
variable {α β α' β' : Type} {K : PySem.W.Frag} {mg : Str → Option Value} {W : WX} {σ : L2.St} {ω ω' : Wo} {rel : Wo → α → β → Prop} {Q : β → Hp → Prop} {rel' : Wo → α' → β' → Prop} {Q' : β' → Hp → Prop}
theorem Post.bd {r : R α} {f : α → Hc → R α'} (hp : Post K mg W σ ω rel' Q' (r.bd f))
    (hq : ∀ a h b ω', Ext ω ω' → Rel K ω' h → rel ω' a b → Post K mg W σ ω' rel' Q' (f a h) → Q b ω'.H) : Post K mg W σ ω rel Q r := by
  cases r with
  | ok a h =>
    intro b ω' e r1 ra
    refine hq a h b ω' e r1 ra ?_
    have hp' : Post K mg W σ ω rel' Q' (f a h) := hp
    cases q : f a h with
    | ok a2 h2 => rw [q] at hp'; exact fun b2 ω2 e2 => hp' b2 ω2 (e.trans e2)
    | ex x fs ds h2 => rw [q] at hp'; exact fun c d ω2 e2 => hp' c d ω2 (e.trans e2)
    | bad => rw [q] at hp'; exact hp'
  | ex x fs ds h => exact hp
  | bad => exact hp
theorem Post.mono {r : R α} (hp : Post K mg W σ ω rel Q r) (e : Ext ω ω') : Post K mg W σ ω' rel Q r := by
  cases r with
  | ok a h => exact fun b2 ω2 e2 => hp b2 ω2 (e.trans e2)
  | ex x fs ds h2 => exact fun c d ω2 e2 => hp c d ω2 (e.trans e2)
  | bad => exact hp
end
/-- a reading by data -/
def tOf {α β : Type} (K : PySem.W.Frag) (mg : Str → Option Value) (W : WX) (rel : Wo → α → β → Prop) (m : Sl → Hc → R α) : L2.St → Hp → (β → Hp → Prop) → Prop := fun σ H Q =>
  ∃ ω h ds, ω.H = H ∧ Rel K ω h ∧ RelS K ω ds σ ∧ Post K mg W σ ω rel Q (m ds h)
def relB : Wo → Bool → Bool → Prop := fun _ a b => a = b
abbrev tE (X : Cx) (W : WX) (m : SE) : TE := tOf X.K X.mg W (RelD X.K) m
abbrev tT (X : Cx) (W : WX) (m : SB) : TT := tOf X.K X.mg W relB m
abbrev tA (X : Cx) (W : WX) (m : SA) : TA := tOf X.K X.mg W (RelL X.K) m
abbrev DE (X : Cx) (W : WX) (e : Expr) (m : SE) : Prop := PE X e (tE X W m)
abbrev DT (X : Cx) (W : WX) (e : Expr) (m : SB) : Prop := PT X e (tT X W m)
abbrev DW (X : Cx) (W : WX) (e : Expr) (m : SB) : Prop := PW X e (tT X W m)
abbrev DA (X : Cx) (W : WX) (es : List Expr) (m : SA) : Prop := PA X es (tA X W m)
section
variable {X : Cx} {W : WX} {e a b : Expr} {es : List Expr} {pos : Pos} {ma mb m : SE} {t u : SB} {as : SA} {t1 : TE}
theorem de_of (h : PE X e t1) (hw : ∀ σ H Q, tE X W m σ H Q → t1 σ H Q) : DE X W e m := ⟨fun pins s σ H Q I q => h.run pins s σ H Q I (hw σ H Q q)⟩
theorem dt_of {t1 : TT} (h : PT X e t1) (hw : ∀ σ H Q, tT X W t σ H Q → t1 σ H Q) : DT X W e t := ⟨fun pins s σ H Q I q => h.run pins s σ H Q I (hw σ H Q q)⟩
theorem dw_of {t1 : TT} (h : PW X e t1) (hw : ∀ σ H Q, tT X W t σ H Q → t1 σ H Q) : DW X W e t := ⟨fun wh pins s σ H Q I q => h.run wh pins s σ H Q I (hw σ H Q q)⟩
theorem da_of {t1 : TA} (h : PA X es t1) (hw : ∀ σ H Q, tA X W as σ H Q → t1 σ H Q) : DA X W es as := ⟨fun pos pins s σ H Q I q => h.run pos pins s σ H Q I (hw σ H Q q)⟩
/-! ### names, constants -/
def eVar (i : Nat) : SE := fun ds h => match ds[i]? with
  | some (some d) => .ok d h
  | _ => .bad
def eC (d : D) : SE := fun _ h => .ok d h
theorem de_var {i : Nat} (h : PE X e (tVar i)) : DE X W e (eVar i) := de_of h fun σ H Q ⟨ω, h, ds, e1, r, s, p⟩ => by
  subst e1
  unfold eVar at p
  cases q : ds[i]? with
  | none => rw [q] at p; exact False.elim p
  | some o =>
    cases o with
    | none => rw [q] at p; exact False.elim p
    | some d =>
      rw [q] at p
      obtain ⟨v, e2, rd⟩ := s.2 i d q
      exact ⟨v, e2, p v ω (Ext.refl ω) r rd⟩
/-- a constant: it stands for d in every world -/
theorem de_c {v : V} {d : D} (h : PE X e (tC v)) (hd : ∀ ω, RelD X.K ω d v) : DE X W e (eC d) := de_of h fun σ H Q ⟨ω, h, ds, e1, r, s, p⟩ => by
  subst e1
  exact p v ω (Ext.refl ω) r (hd ω)
theorem de_int {i : Int} {j : Nat} : DE X W (.Constant (.int i) j pos) (eC (.int i)) := de_c pe_int fun _ => by unfold RelD; rfl
theorem de_bl {b : Bool} {j : Nat} : DE X W (.Constant (.bool b) j pos) (eC (.bl b)) := de_c pe_bl fun _ => by unfold RelD; rfl
theorem de_non {j : Nat} : DE X W (.Constant .none j pos) (eC .non) := de_c pe_non fun _ => by unfold RelD; rfl
theorem de_str {x : Str} {j : Nat} : DE X W (.Constant (.str x) j pos) (eC (.str x)) := de_c pe_str fun _ => by unfold RelD; rfl
/-! ### operators by values -/
def OpD (X : Cx) (r : R2) (f : D → D → Hc → R D) : Prop := ∀ (W : WX) (σ : L2.St) (ω : Wo) (h : Hc) (x y : D) (v u : V) (Q : VK), Rel X.K ω h → RelD X.K ω x v → RelD X.K ω y u → Post X.K X.mg W σ ω (RelD X.K) Q (f x y h) → r v u ω.H Q
def eOp (f : D → D → Hc → R D) (ma mb : SE) : SE := fun ds h => (ma ds h).bd fun x h1 => (mb ds h1).bd fun y h2 => f x y h2
theorem opw {r : R2} {f : D → D → Hc → R D} (ho : OpD X r f) : ∀ σ H Q, tE X W (eOp f ma mb) σ H Q → tOp r (tE X W ma) (tE X W mb) σ H Q := fun σ H Q ⟨ω, h, ds, e1, r, s, p⟩ => by
  subst e1
  exact ⟨ω, h, ds, rfl, r, s, p.bd fun x h1 v ω1 e1 r1 d1 p1 => ⟨ω1, h1, ds, rfl, r1, monoS r e1 s, p1.bd fun y h2 u ω2 e2 r2 d2 p2 => ho W σ ω2 h2 x y v u Q r2 (mono r1 e2 _ _ d1) d2 p2⟩⟩
theorem de_op {op : Operator} {r : R2} {f : D → D → Hc → R D} (ho : OpR X (binaryOp op) r) (hd : OpD X r f) (ha : DE X W a ma) (hb : DE X W b mb) : DE X W (.BinOp a op b pos) (eOp f ma mb) := de_of (pe_op ho ha hb) (opw hd)
theorem de_cmp {op : CmpOp} {r : R2} {f : D → D → Hc → R D} (ho : OpR X (compareOp op) r) (hd : OpD X r f) (ha : DE X W a ma) (hb : DE X W b mb) (hm : behindInMarks op b = false) : DE X W (.Compare a [op] [b] pos) (eOp f ma mb) := de_of (pe_cmpR ho ha hb hm) (opw hd)
theorem de_ix {r : R2} {f : D → D → Hc → R D} (hr : IxR X r) (hd : OpD X r f) (ha : DE X W a ma) (hb : DE X W b mb) (hs : PlainIx b) : DE X W (.Subscript a b pos) (eOp f ma mb) := de_of (pe_ix hr ha hb hs) (opw hd)
def UnD (X : Cx) (r : V → Hp → VK → Prop) (f : D → Hc → R D) : Prop := ∀ (W : WX) (σ : L2.St) (ω : Wo) (h : Hc) (x : D) (v : V) (Q : VK), Rel X.K ω h → RelD X.K ω x v → Post X.K X.mg W σ ω (RelD X.K) Q (f x h) → r v ω.H Q
def eUn (f : D → Hc → R D) (ma : SE) : SE := fun ds h => (ma ds h).bd fun x h1 => f x h1
theorem de_un {op : UnaryOp} {r : V → Hp → VK → Prop} {f : D → Hc → R D} (ho : UnR X (unaryOp op) r) (hd : UnD X r f) (ha : DE X W a ma) : DE X W (.UnaryOp op a pos) (eUn f ma) := de_of (pe_un ho ha) fun σ H Q ⟨ω, h, ds, e1, r, s, p⟩ => by
  subst e1
  exact ⟨ω, h, ds, rfl, r, s, p.bd fun x h1 v ω1 e1 r1 d1 p1 => hd W σ ω1 h1 x v Q r1 d1 p1⟩
/-! ### and, or, not, if as values -/
def isBl : D → Option Bool
  | .bl b => some b
  | _ => none
theorem isBl_rel {K : PySem.W.Frag} {ω : Wo} {d : D} {v : V} {b : Bool} (h : isBl d = some b) (r : RelD K ω d v) : v = .bl b := by
  cases d <;> simp [isBl] at h
  subst h
  unfold RelD at r; exact r
def eAnd (ma mb : SE) : SE := fun ds h => (ma ds h).bd fun x h1 => match isBl x with
  | some true => mb ds h1
  | some false => .ok (.bl false) h1
  | none => .bad
def eOr (ma mb : SE) : SE := fun ds h => (ma ds h).bd fun x h1 => match isBl x with
  | some true => .ok (.bl true) h1
  | some false => mb ds h1
  | none => .bad
def eNot (ma : SE) : SE := fun ds h => (ma ds h).bd fun x h1 => match isBl x with
  | some b => .ok (.bl (!b)) h1
  | none => .bad
theorem de_one {op : BoolOp} (ha : DE X W a ma) : DE X W (.BoolOp op [a] pos) ma := pe_one ha
theorem de_and (ha : DE X W a ma) (hb : DE X W (.BoolOp .And (b :: es) pos) mb) : DE X W (.BoolOp .And (a :: b :: es) pos) (eAnd ma mb) := de_of (pe_and ha hb) fun σ H Q ⟨ω, h, ds, e1, r, s, p⟩ => by
  subst e1
  refine ⟨ω, h, ds, rfl, r, s, p.bd fun x h1 v ω1 e1 r1 d1 p1 => ?_⟩
  cases q : isBl x with
  | none => rw [q] at p1; exact False.elim p1
  | some b =>
    rw [q] at p1
    refine ⟨b, isBl_rel q d1, ?_⟩
    cases b with
    | true => rw [if_pos rfl]; exact ⟨ω1, h1, ds, rfl, r1, monoS r e1 s, p1⟩
    | false => rw [if_neg Bool.false_ne_true]; exact p1 _ ω1 (Ext.refl _) r1 (by unfold RelD; rfl)
theorem de_not (ha : DE X W a ma) : DE X W (.UnaryOp .Not a pos) (eNot ma) := de_of (pe_not ha) fun σ H Q ⟨ω, h, ds, e1, r, s, p⟩ => by
  subst e1
  refine ⟨ω, h, ds, rfl, r, s, p.bd fun x h1 v ω1 e1 r1 d1 p1 => ?_⟩
  cases q : isBl x with
  | none => rw [q] at p1; exact False.elim p1
  | some b => rw [q] at p1; exact ⟨b, isBl_rel q d1, p1 _ ω1 (Ext.refl _) r1 (by unfold RelD; rfl)⟩
def eIf (t : SB) (ma mb : SE) : SE := fun ds h => (t ds h).bd fun b h1 => if b = true then ma ds h1 else mb ds h1
theorem de_if {c : Expr} (hc : DT X W c t) (ha : DE X W a ma) (hb : DE X W b mb) : DE X W (.IfExp c a b pos) (eIf t ma mb) := de_of (pe_ifExp hc ha hb) fun σ H Q ⟨ω, h, ds, e1, r, s, p⟩ => by
  subst e1
  refine ⟨ω, h, ds, rfl, r, s, p.bd fun x h1 v ω1 e1 r1 d1 p1 => ?_⟩
  have d1' : x = v := d1
  subst d1'
  cases x with
  | true => exact ⟨ω1, h1, ds, rfl, r1, monoS r e1 s, p1⟩
  | false => exact ⟨ω1, h1, ds, rfl, r1, monoS r e1 s, p1⟩
/-! ### tests -/
def bEx (m : SE) : SB := fun ds h => (m ds h).bd fun x h1 => match isBl x with
  | some b => .ok b h1
  | none => .bad
theorem tBw : ∀ σ H Q, tT X W (bEx m) σ H Q → tB (tE X W m) σ H Q := fun σ H Q ⟨ω, h, ds, e1, r, s, p⟩ => by
  subst e1
  refine ⟨ω, h, ds, rfl, r, s, p.bd fun x h1 v ω1 e1 r1 d1 p1 => ?_⟩
  cases q : isBl x with
  | none => rw [q] at p1; exact False.elim p1
  | some b => rw [q] at p1; exact ⟨b, isBl_rel q d1, p1 b ω1 (Ext.refl _) r1 rfl⟩
theorem dt_cmp {op : CmpOp} {r : R2} {f : D → D → Hc → R D} (ho : OpR X (compareOp op) r) (hd : OpD X r f) (ha : DE X W a ma) (hb : DE X W b mb) (hm : behindInMarks op b = false) : DT X W (.Compare a [op] [b] pos) (bEx (eOp f ma mb)) :=
  dt_of (pt_cmpR ho ha hb hm) fun σ H Q h => by
    obtain ⟨ω, h, ds, e1, r, s, p⟩ := h
    subst e1
    have p' : Post X.K X.mg W σ ω relB Q ((ma ds h).bd fun x h1 => (mb ds h1).bd fun y h2 => (f x y h2).bd fun x h1 => match isBl x with
      | some b => .ok b h1
      | none => .bad) := by
      unfold bEx eOp at p
      cases q : ma ds h with
      | ok x h1 =>
        rw [q] at p
        simp only [R.bd_ok] at p ⊢
        cases q2 : mb ds h1 with
        | ok y h2 => rw [q2] at p; exact p
        | ex _ _ _ _ => rw [q2] at p; exact p
        | bad => rw [q2] at p; exact p
      | ex _ _ _ _ => rw [q] at p; exact p
      | bad => rw [q] at p; exact p
    refine ⟨ω, h, ds, rfl, r, s, p'.bd fun x h1 v ω1 e1 r1 d1 p1 => ⟨ω1, h1, ds, rfl, r1, monoS r e1 s, p1.bd fun y h2 u ω2 e2 r2 d2 p2 => hd W σ ω2 h2 x y v u _ r2 (mono r1 e2 _ _ d1) d2 ?_⟩⟩
    refine p2.bd fun z h3 w ω3 e3 r3 d3 p3 => ?_
    cases q : isBl z with
    | none => rw [q] at p3; exact False.elim p3
    | some b => rw [q] at p3; exact ⟨b, isBl_rel q d3, p3 b ω3 (Ext.refl _) r3 rfl⟩
def bAnd (t u : SB) : SB := fun ds h => (t ds h).bd fun b h1 => if b = true then u ds h1 else .ok false h1
def bOr (t u : SB) : SB := fun ds h => (t ds h).bd fun b h1 => if b = true then .ok true h1 else u ds h1
def bNot (t : SB) : SB := fun ds h => (t ds h).bd fun b h1 => .ok (!b) h1
theorem dw_and1 (ha : DT X W a t) : DW X W (.BoolOp .And [a] pos) t := pw_and1 ha
theorem dw_or1 (ha : DT X W a t) : DW X W (.BoolOp .Or [a] pos) t := pw_or1 ha
theorem dw_and (ha : DT X W a t) (hb : DW X W (.BoolOp .And (b :: es) pos) u) : DW X W (.BoolOp .And (a :: b :: es) pos) (bAnd t u) := dw_of (pw_and ha hb) fun σ H Q ⟨ω, h, ds, e1, r, s, p⟩ => by
  subst e1
  refine ⟨ω, h, ds, rfl, r, s, p.bd fun x h1 v ω1 e1 r1 d1 p1 => ?_⟩
  have d1' : x = v := d1
  subst d1'
  cases x with
  | true => exact ⟨ω1, h1, ds, rfl, r1, monoS r e1 s, p1⟩
  | false => exact p1 _ ω1 (Ext.refl _) r1 rfl
theorem dw_or (ha : DT X W a t) (hb : DW X W (.BoolOp .Or (b :: es) pos) u) : DW X W (.BoolOp .Or (a :: b :: es) pos) (bOr t u) := dw_of (pw_or ha hb) fun σ H Q ⟨ω, h, ds, e1, r, s, p⟩ => by
  subst e1
  refine ⟨ω, h, ds, rfl, r, s, p.bd fun x h1 v ω1 e1 r1 d1 p1 => ?_⟩
  have d1' : x = v := d1
  subst d1'
  cases x with
  | true => exact p1 _ ω1 (Ext.refl _) r1 rfl
  | false => exact ⟨ω1, h1, ds, rfl, r1, monoS r e1 s, p1⟩
theorem dt_not (ha : DT X W a t) : DT X W (.UnaryOp .Not a pos) (bNot t) := dt_of (pt_not ha) fun σ H Q ⟨ω, h, ds, e1, r, s, p⟩ => by
  subst e1
  refine ⟨ω, h, ds, rfl, r, s, p.bd fun x h1 v ω1 e1 r1 d1 p1 => ?_⟩
  have d1' : x = v := d1
  subst d1'
  exact p1 _ ω1 (Ext.refl _) r1 rfl
/-! ### arguments, displays -/
def aNil : SA := fun _ h => .ok [] h
def aCons (m : SE) (as : SA) : SA := fun ds h => (m ds h).bd fun x h1 => (as ds h1).bd fun xs h2 => .ok (x :: xs) h2
theorem da_nil : DA X W [] aNil := da_of pa_nil fun σ H Q ⟨ω, h, ds, e1, r, s, p⟩ => by
  subst e1
  exact p _ ω (Ext.refl _) r RelL.nil
theorem da_cons (ha : DE X W e m) (hr : DA X W es as) (hs : starEach (e :: es) X.env = (false, eval e X.env) :: starEach es X.env := by rfl) : DA X W (e :: es) (aCons m as) := da_of (pa_cons ha hr hs) fun σ H Q ⟨ω, h, ds, e1, r, s, p⟩ => by
  subst e1
  exact ⟨ω, h, ds, rfl, r, s, p.bd fun x h1 v ω1 e1 r1 d1 p1 => ⟨ω1, h1, ds, rfl, r1, monoS r e1 s, p1.bd fun xs h2 vs ω2 e2 r2 d2 p2 => p2 _ ω2 (Ext.refl _) r2 (RelL.cons (mono r1 e2 _ _ d1) d2)⟩⟩
def lim : Nat := 1000000
theorem lim_le {n : Nat} (h : n ≤ lim) : n ≤ sizeLine := Nat.le_trans h (by rw [sizeLine_eq]; decide)
theorem lim_lt {n : Nat} (h : n < lim) : n < sizeLine := Nat.lt_of_lt_of_le h (by rw [sizeLine_eq]; decide)
def eTup (as : SA) : SE := fun ds h => (as ds h).bd fun xs h1 => if xs.length ≤ lim then .ok (.tup xs) h1 else .bad
/-- a list display whose list is never changed -/
def eLst (as : SA) : SE := fun ds h => (as ds h).bd fun xs h1 => if xs.length ≤ lim then .ok (.lst xs) h1 else .bad
/-- a list display: a new cell -/
def eCell (as : SA) : SE := fun ds h => (as ds h).bd fun xs h1 => if xs.length ≤ lim then .ok (.ref h1.length) (h1 ++ [.lst xs]) else .bad
theorem de_tup {x1} (ha : DA X W es as) : DE X W (.Tuple es x1 pos) (eTup as) := de_of (pe_tup ha) fun σ H Q ⟨ω, h, ds, e1, r, s, p⟩ => by
  subst e1
  refine ⟨ω, h, ds, rfl, r, s, p.bd fun xs h1 vs ω1 e1 r1 d1 p1 => ?_⟩
  by_cases hl : xs.length ≤ lim
  · rw [if_pos hl] at p1
    refine ⟨by rw [← d1.len]; exact lim_le hl, fun q hq => p1 _ (ω1.up q (.tup vs)) (Ext.up hq) (r1.up hq) ?_⟩
    unfold RelD
    exact ⟨q, vs, rfl, .t upd_same, monoL r1 (Ext.up hq) _ _ d1⟩
  · rw [if_neg hl] at p1; exact False.elim p1
theorem fz_new {K : PySem.W.Frag} {ω : Wo} {h : Hc} {q : Addr} {xs : List D} {vs : List V} (r : Rel K ω h) (hq : ω.H q = none) (d : RelL K ω xs vs) : RelD K (ω.up q (.lst vs)) (.lst xs) (.ref q) := by
  unfold RelD
  exact ⟨q, vs, rfl, ⟨upd_same, r.free hq⟩, monoL r (Ext.up hq) _ _ d⟩
theorem cell_new {K : PySem.W.Frag} {ω : Wo} {h : Hc} {q : Addr} {xs : List D} {vs : List V} (r : Rel K ω h) (hq : ω.H q = none) (d : RelL K ω xs vs) :
    Rel K (ω.cell q (.lst vs)) (h ++ [.lst xs]) ∧ RelD K (ω.cell q (.lst vs)) (.ref h.length) (.ref q) := by
  refine ⟨r.cell hq ⟨vs, upd_same, monoL r (Ext.cell hq) _ _ d⟩, ?_⟩
  unfold RelD
  rw [← r.n]
  exact ⟨Nat.lt_succ_self _, by rw [Wo.cell_at]⟩
theorem de_lst (ha : DA X W es as) : DE X W (.List es pos) (eLst as) := de_of (pe_lst ha) fun σ H Q ⟨ω, h, ds, e1, r, s, p⟩ => by
  subst e1
  refine ⟨ω, h, ds, rfl, r, s, p.bd fun xs h1 vs ω1 e1 r1 d1 p1 => ?_⟩
  by_cases hl : xs.length ≤ lim
  · rw [if_pos hl] at p1
    exact ⟨by rw [← d1.len]; exact lim_le hl, fun q hq => p1 _ (ω1.up q (.lst vs)) (Ext.up hq) (r1.up hq) (fz_new r1 hq d1)⟩
  · rw [if_neg hl] at p1; exact False.elim p1
theorem de_cell (ha : DA X W es as) : DE X W (.List es pos) (eCell as) := de_of (pe_lst ha) fun σ H Q ⟨ω, h, ds, e1, r, s, p⟩ => by
  subst e1
  refine ⟨ω, h, ds, rfl, r, s, p.bd fun xs h1 vs ω1 e1 r1 d1 p1 => ?_⟩
  by_cases hl : xs.length ≤ lim
  · rw [if_pos hl] at p1
    exact ⟨by rw [← d1.len]; exact lim_le hl, fun q hq => p1 _ (ω1.cell q (.lst vs)) (Ext.cell hq) (cell_new r1 hq d1).1 (cell_new r1 hq d1).2⟩
  · rw [if_neg hl] at p1; exact False.elim p1
end
/-! ### statements -/
inductive O where
  | nx (ds : Sl) (h : Hc) | rt (d : D) (h : Hc) | bk (ds : Sl) (h : Hc) | ct (ds : Sl) (h : Hc) | ex (x : Str) (fs : List Str) (vs : List D) (ds : Sl) (h : Hc) | bad
abbrev SS := Sl → Hc → O
def PostO (K : PySem.W.Frag) (mg : Str → Option Value) (W : WX) (ω : Wo) (E : Ends) : O → Prop
  | .nx ds h => ∀ σ' ω', Ext ω ω' → Rel K ω' h → RelS K ω' ds σ' → E.nx σ' ω'.H
  | .rt d h => ∀ v ω', Ext ω ω' → Rel K ω' h → RelD K ω' d v → E.rt v ω'.H
  | .bk ds h => ∀ σ' ω', Ext ω ω' → Rel K ω' h → RelS K ω' ds σ' → E.bk σ' ω'.H
  | .ct ds h => ∀ σ' ω', Ext ω ω' → Rel K ω' h → RelS K ω' ds σ' → E.ct σ' ω'.H
  | .ex x fs vs ds h => ∀ cls dx σ' ω', Ext ω ω' → Rel K ω' h → RelS K ω' ds σ' → RelX K mg ω' x fs vs cls dx → W cls dx σ' ω'.H
  | .bad => False
def tS (X : Cx) (W : WX) (m : SS) : TS := fun E σ H => ∃ ω h ds, ω.H = H ∧ Rel X.K ω h ∧ RelS X.K ω ds σ ∧ PostO X.K X.mg W ω E (m ds h)
abbrev DS (X : Cx) (W : WX) (st : Stmt) (m : SS) : Prop := PS X st (tS X W m)
abbrev DSs (X : Cx) (W : WX) (st : List Stmt) (m : SS) : Prop := PSs X st (tS X W m)
/-- behind an expression -/
def sBd {α : Type} (r : R α) (ds : Sl) (f : α → Hc → O) : O := match r with
  | .ok a h => f a h
  | .ex x fs vs h => .ex x fs vs ds h
  | .bad => .bad
@[simp] theorem sBd_ok {α : Type} (a : α) (h : Hc) (ds : Sl) (f : α → Hc → O) : sBd (.ok a h) ds f = f a h := Eq.trans rfl rfl
section
variable {X : Cx} {W : WX} {K : PySem.W.Frag} {mg : Str → Option Value} {E : Ends} {ω ω' : Wo} {σ : L2.St} {ds : Sl} {h : Hc}
theorem PostO.mono {o : O} (p : PostO K mg W ω E o) (e : Ext ω ω') : PostO K mg W ω' E o := by
  cases o with
  | nx ds h => exact fun s w x => p s w (e.trans x)
  | rt d h => exact fun s w x => p s w (e.trans x)
  | bk ds h => exact fun s w x => p s w (e.trans x)
  | ct ds h => exact fun s w x => p s w (e.trans x)
  | ex x fs vs ds h => exact fun c d s w x => p c d s w (e.trans x)
  | bad => exact p
theorem PostO.bd {α β : Type} {r : R α} {f : α → Hc → O} {rel : Wo → α → β → Prop} {Q : β → Hp → Prop} (hr : Rel K ω h) (hs : RelS K ω ds σ) (hp : PostO K mg W ω E (sBd r ds f))
    (hq : ∀ a h b ω', Ext ω ω' → Rel K ω' h → rel ω' a b → RelS K ω' ds σ → PostO K mg W ω' E (f a h) → Q b ω'.H) : Post K mg W σ ω rel Q r := by
  cases r with
  | ok a h1 => exact fun b ω' e r1 ra => hq a h1 b ω' e r1 ra (monoS hr e hs) (PostO.mono (o := f a h1) hp e)
  | ex x fs vs h1 => exact fun c d ω' e r1 rx => hp c d σ ω' e r1 (monoS hr e hs) rx
  | bad => exact hp
end
def sSeq (a b : SS) : SS := fun ds h => match a ds h with
  | .nx ds' h' => b ds' h'
  | o => o
def sNext : SS := fun ds h => .nx ds h
def sRet (m : SE) : SS := fun ds h => sBd (m ds h) ds fun d h1 => .rt d h1
def sDrop (m : SE) : SS := fun ds h => sBd (m ds h) ds fun _ h1 => .nx ds h1
def sIf (t : SB) (a b : SS) : SS := fun ds h => sBd (t ds h) ds fun c h1 => if c = true then a ds h1 else b ds h1
def sBad : SS := fun _ _ => .bad
section
variable {X : Cx} {W : WX} {st : Stmt} {rest sts : List Stmt} {a b m : SS} {me : SE} {t : SB} {e c : Expr} {pos : Pos}
theorem ds_of {t1 : TS} (h : PS X st t1) (hw : ∀ E σ H, tS X W m E σ H → t1 E σ H) : DS X W st m := ⟨fun pins s σ H E I q => h.run pins s σ H E I (hw E σ H q)⟩
theorem dss_of {t1 : TS} (h : PSs X sts t1) (hw : ∀ E σ H, tS X W m E σ H → t1 E σ H) : DSs X W sts m := ⟨fun pins s σ H E I q => h.run pins s σ H E I (hw E σ H q)⟩
theorem dss_nil : DSs X W [] sNext := dss_of pss_nil fun E σ H ⟨ω, h, ds, e1, r, s, p⟩ => by
  subst e1
  exact p σ ω (Ext.refl _) r s
theorem dss_one (h : DS X W st m) : DSs X W [st] m := pss_one h
theorem dss_cons (ha : DS X W st a) (hb : DSs X W rest b) : DSs X W (st :: rest) (sSeq a b) := dss_of (pss_cons ha hb) fun E σ H ⟨ω, h, ds, e1, r, s, p⟩ => by
  subst e1
  refine ⟨ω, h, ds, rfl, r, s, ?_⟩
  unfold sSeq at p
  cases q : a ds h with
  | nx ds' h' =>
    rw [q] at p
    exact fun σ' ω' e r' s' => ⟨ω', h', ds', rfl, r', s', PostO.mono (o := b ds' h') p e⟩
  | rt d h' => rw [q] at p; exact p
  | bk ds' h' => rw [q] at p; exact p
  | ct ds' h' => rw [q] at p; exact p
  | ex x fs vs ds' h' => rw [q] at p; exact p
  | bad => rw [q] at p; exact p
theorem ds_break : DS X W (.Break pos) (fun ds h => .bk ds h) := ds_of ps_break fun E σ H ⟨ω, h, ds, e1, r, s, p⟩ => by
  subst e1
  exact p σ ω (Ext.refl _) r s
theorem ds_continue : DS X W (.Continue pos) (fun ds h => .ct ds h) := ds_of ps_continue fun E σ H ⟨ω, h, ds, e1, r, s, p⟩ => by
  subst e1
  exact p σ ω (Ext.refl _) r s
theorem ds_ret (he : DE X W e me) : DS X W (.Return (some e) pos) (sRet me) := ds_of (ps_ret he) fun E σ H ⟨ω, h, ds, e1, r, s, p⟩ => by
  subst e1
  exact ⟨ω, h, ds, rfl, r, s, PostO.bd r s p fun d h1 v ω' e r1 rd s1 p1 => p1 v ω' (Ext.refl _) r1 rd⟩
theorem ds_drop (he : DE X W e me) (hs : swapsWith e none pos.line X.env = pure false := by rfl) : DS X W (.Expr e pos) (sDrop me) := ds_of (ps_expr he hs) fun E σ H ⟨ω, h, ds, e1, r, s, p⟩ => by
  subst e1
  exact ⟨ω, h, ds, rfl, r, s, PostO.bd r s p fun d h1 v ω' e r1 rd s1 p1 => p1 σ ω' (Ext.refl _) r1 s1⟩
theorem ds_if (hc : DT X W c t) (ha : DSs X W sts a) (hb : DSs X W rest b) : DS X W (.If c sts rest pos) (sIf t a b) := ds_of (ps_if hc ha hb) fun E σ H ⟨ω, h, ds, e1, r, s, p⟩ => by
  subst e1
  refine ⟨ω, h, ds, rfl, r, s, PostO.bd r s p fun x h1 v ω' e r1 rd s1 p1 => ?_⟩
  have rd' : x = v := rd
  subst rd'
  cases x with
  | true => exact ⟨ω', h1, ds, rfl, r1, s1, p1⟩
  | false => exact ⟨ω', h1, ds, rfl, r1, s1, p1⟩
/-! ### stores -/
theorem RelS.set {K : PySem.W.Frag} {ω : Wo} {ds : Sl} {σ : L2.St} {d : D} {v : V} (s : RelS K ω ds σ) (i : Nat) (r : RelD K ω d v) : RelS K ω (ds.set i (some d)) (σ.set i (some v)) := by
  refine ⟨by rw [List.length_set, List.length_set]; exact s.1, fun j d' hj => ?_⟩
  by_cases hi : i = j
  · subst hi
    have hl : i < ds.length := by
      have := (List.getElem?_eq_some_iff.mp hj).1
      rw [List.length_set] at this; exact this
    rw [List.getElem?_set_self hl] at hj
    have : d = d' := by simpa using hj
    subst this
    exact ⟨v, by rw [List.getElem?_set_self (by rw [← s.1]; exact hl)], r⟩
  · rw [List.getElem?_set_ne hi] at hj
    obtain ⟨v', e1, e2⟩ := s.2 j d' hj
    exact ⟨v', by rw [List.getElem?_set_ne hi]; exact e1, e2⟩
def sSet (i : Nat) (m : SE) : SS := fun ds h => sBd (m ds h) ds fun d h1 => .nx (ds.set i (some d)) h1
theorem ds_set {i : Nat} {tg : Expr} (h : PS X (.Assign [tg] e pos) (tAsg (tE X W me) (gName i))) : DS X W (.Assign [tg] e pos) (sSet i me) := ds_of h fun E σ H ⟨ω, h, ds, e1, r, s, p⟩ => by
  subst e1
  exact ⟨ω, h, ds, rfl, r, s, PostO.bd r s p fun d h1 v ω' e r1 rd s1 p1 => p1 _ ω' (Ext.refl _) r1 (s1.set i rd)⟩
end
end Mp
/-! LayC: loops, targets, comprehensions, calls, defs. -/
namespace Mp
open PySem PySem.Spec PyProof.Rows L2
/-! ### while -/
def wl (t : SB) (b : SS) : Nat → SS
  | 0 => sBad
  | n + 1 => fun ds h => sBd (t ds h) ds fun c h1 => if c = true then (match b ds h1 with
      | .nx ds' h' => wl t b n ds' h'
      | .ct ds' h' => wl t b n ds' h'
      | .bk ds' h' => .nx ds' h'
      | o => o) else .nx ds h1
section
variable {X : Cx} {W : WX} {sts : List Stmt} {b : SS} {t : SB} {c : Expr} {pos : Pos}
theorem ds_while (n : Nat) (hp : PassesOwn (model X.prog X.w) X.A X.env X.xe) (hc : DT X W c t) (hb : DSs X W sts b) : DS X W (.While c sts [] pos) (wl t b n) := ds_of (ps_while hp hc hb) fun E σ H ⟨ω, h, ds, e1, r, s, p⟩ => by
  subst e1
  refine ⟨fun m σ' H' => ∃ ω1 h1 ds1, ω1.H = H' ∧ Rel X.K ω1 h1 ∧ RelS X.K ω1 ds1 σ' ∧ PostO X.K X.mg W ω1 E (wl t b m ds1 h1), ⟨n, ω, h, ds, rfl, r, s, p⟩, ?_⟩
  rintro m σ' H' ⟨ω1, h1, ds1, rfl, r1, s1, p1⟩
  cases m with
  | zero => exact False.elim p1
  | succ m =>
    refine ⟨ω1, h1, ds1, rfl, r1, s1, PostO.bd r1 s1 p1 fun x h2 v ω2 e2 r2 d2 s2 p2 => ?_⟩
    have d2' : x = v := d2
    subst d2'
    cases x with
    | false => exact p2 σ' ω2 (Ext.refl _) r2 s2
    | true =>
      rw [if_pos rfl] at p2 ⊢
      refine ⟨fun σ3 H3 => ∃ ω3 h3 ds3, ω3.H = H3 ∧ Rel X.K ω3 h3 ∧ RelS X.K ω3 ds3 σ3 ∧ PostO X.K X.mg W ω3 E (wl t b m ds3 h3), fun σ3 H3 z => ⟨m, Nat.lt_succ_self m, z⟩, ω2, h2, ds1, rfl, r2, s2, ?_⟩
      cases q : b ds1 h2 with
      | nx ds' h' => rw [q] at p2; exact fun σ3 ω3 e3 r3 s3 => ⟨ω3, h', ds', rfl, r3, s3, PostO.mono (o := wl t b m ds' h') p2 e3⟩
      | ct ds' h' => rw [q] at p2; exact fun σ3 ω3 e3 r3 s3 => ⟨ω3, h', ds', rfl, r3, s3, PostO.mono (o := wl t b m ds' h') p2 e3⟩
      | bk ds' h' => rw [q] at p2; exact p2
      | rt d h' => rw [q] at p2; exact p2
      | ex x fs vs ds' h' => rw [q] at p2; exact p2
      | bad => rw [q] at p2; exact p2
end
/-! ### targets -/
inductive Pt where
  | n (i : Nat) | t (ps : List Pt)
mutual
def Pt.slots : Pt → List Nat
  | .n i => [i]
  | .t ps => Pt.slotsL ps
def Pt.slotsL : List Pt → List Nat
  | [] => []
  | p :: ps => p.slots ++ Pt.slotsL ps
end
/-- the items of a sequence -/
def seqD (h : Hc) : D → Option (List D)
  | .tup xs => some xs
  | .lst xs => some xs
  | .scr xs => some xs
  | .ref i => match h[i]? with
    | some (.lst xs) => some xs
    | _ => none
  | _ => none
mutual
def bindP (h : Hc) : Pt → D → Sl → Option Sl
  | .n i, d, ds => some (ds.set i (some d))
  | .t ps, d, ds => match seqD h d with
    | some xs => bindPs h ps xs ds
    | none => none
def bindPs (h : Hc) : List Pt → List D → Sl → Option Sl
  | [], [], ds => some ds
  | p :: ps, x :: xs, ds => match bindP h p x ds with
    | some ds1 => bindPs h ps xs ds1
    | none => none
  | _, _, _ => none
end
section
variable {K : PySem.W.Frag} {ω ω' : Wo} {h h' : Hc} {d : D} {v : V}
theorem seqD_rel {xs : List D} (r : Rel K ω h) (e : seqD h d = some xs) (x : RelD K ω d v) : ∃ p vs, v = .ref p ∧ (SqT K ω.H p vs ∨ SqL K ω.H p vs) ∧ RelL K ω xs vs := by
  cases d with
  | tup ys =>
    simp [seqD] at e; subst e
    unfold RelD at x
    obtain ⟨p, vs, e1, e2, e3⟩ := x
    exact ⟨p, vs, e1, .inl e2.1, e3⟩
  | lst ys =>
    simp [seqD] at e; subst e
    unfold RelD at x
    obtain ⟨p, vs, e1, e2, e3⟩ := x
    exact ⟨p, vs, e1, .inr (.inl (.inl e2.1)), e3⟩
  | scr ys =>
    simp [seqD] at e; subst e
    unfold RelD at x
    obtain ⟨p, vs, e1, e2, e3⟩ := x
    exact ⟨p, vs, e1, .inr e2.sq, e3⟩
  | ref i =>
    unfold RelD at x
    obtain ⟨hi, e1⟩ := x
    unfold seqD at e
    cases q : h[i]? with
    | none => simp [q] at e
    | some c =>
      cases c with
      | lst ys =>
        simp [q] at e; subst e
        obtain ⟨vs, e2, e3⟩ := r.cel i _ q
        exact ⟨_, vs, e1, .inr (.inl (.inl e2)), e3⟩
      | _ => simp [q] at e
  | _ => simp [seqD] at e
theorem wipe_set_out {σ : L2.St} {i : Nat} {x : Option V} : ∀ {ws : List Nat}, i ∉ ws → wipe (σ.set i x) ws = (wipe σ ws).set i x
  | [], _ => rfl
  | w :: ws, hn => by
    have h1 : i ≠ w := fun e => hn (by simp [e])
    have h2 : i ∉ ws := fun e => hn (by simp [e])
    unfold wipe
    rw [wipe_set_out h2, List.set_comm _ _ h1]
theorem wipe_set_in {σ : L2.St} {i : Nat} {x : Option V} : ∀ {ws : List Nat}, i ∈ ws → wipe (σ.set i x) ws = wipe σ ws
  | [], hi => by simp at hi
  | w :: ws, hi => by
    unfold wipe
    by_cases h2 : i ∈ ws
    · rw [wipe_set_in h2]
    · have e : i = w := by simpa [h2] using hi
      subst e
      rw [wipe_set_out h2, List.set_set]
end
/-- a target's reading -/
def tP (K : PySem.W.Frag) (p : Pt) : TG := fun v σ H Q => ∃ ω h ds d ds', ω.H = H ∧ Rel K ω h ∧ RelS K ω ds σ ∧ RelD K ω d v ∧ bindP h p d ds = some ds' ∧ ∀ σ', RelS K ω ds' σ' → (∀ ws, (∀ i ∈ p.slots, i ∈ ws) → wipe σ' ws = wipe σ ws) → Q σ' H
def tPs (K : PySem.W.Frag) (ps : List Pt) : TGs := fun vs σ H Q => ∃ ω h ds xs ds', ω.H = H ∧ Rel K ω h ∧ RelS K ω ds σ ∧ RelL K ω xs vs ∧ bindPs h ps xs ds = some ds' ∧ ∀ σ', RelS K ω ds' σ' → (∀ ws, (∀ i ∈ Pt.slotsL ps, i ∈ ws) → wipe σ' ws = wipe σ ws) → Q σ' H
abbrev DG (X : Cx) (tg : Expr) (p : Pt) : Prop := PG X tg (tP X.K p)
abbrev DGs (X : Cx) (tgs : List Expr) (ps : List Pt) : Prop := PGs X tgs (tPs X.K ps)
section
variable {X : Cx} {tg : Expr} {tgs es : List Expr} {p : Pt} {ps : List Pt} {pos : Pos} {k : Nat}
theorem dg_of {t1 : TG} (h : PG X tg t1) (hw : ∀ v σ H Q, tP X.K p v σ H Q → t1 v σ H Q) : DG X tg p := ⟨fun pins s σ H v u Q I r q => h.run pins s σ H v u Q I r (hw v σ H Q q)⟩
theorem dgs_of {t1 : TGs} (h : PGs X tgs t1) (hw : ∀ v σ H Q, tPs X.K ps v σ H Q → t1 v σ H Q) : DGs X tgs ps := ⟨fun pins s σ H v u Q I r q => h.run pins s σ H v u Q I r (hw v σ H Q q)⟩
theorem dg_n {i : Nat} (h : PG X tg (gName i)) : DG X tg (.n i) := dg_of h fun v σ H Q ⟨ω, h, ds, d, ds', e1, r, s, rd, eb, q⟩ => by
  subst e1
  simp [bindP] at eb; subst eb
  exact q _ (s.set i rd) fun ws hw => wipe_set_in (hw i (by simp [Pt.slots]))
theorem dgs_nil : DGs X [] [] := dgs_of pgs_nil fun v σ H Q ⟨ω, h, ds, xs, ds', e1, r, s, rd, eb, q⟩ => by
  subst e1
  cases xs with
  | nil =>
    simp [bindPs] at eb; subst eb
    exact ⟨rd.inv0, q σ s fun _ _ => rfl⟩
  | cons x xs => simp [bindPs] at eb
theorem dgs_cons {e : Expr} (h1 : DG X e p) (h2 : DGs X es ps) (h : PGs X (e :: es) (gCons (tP X.K p) (tPs X.K ps))) : DGs X (e :: es) (p :: ps) := dgs_of h fun v σ H Q ⟨ω, h, ds, xs, ds', e1, r, s, rd, eb, q⟩ => by
  subst e1
  cases xs with
  | nil => simp [bindPs] at eb
  | cons x xs =>
    obtain ⟨v1, ws, rfl, ra, rb⟩ := rd.inv
    unfold bindPs at eb
    cases q1 : bindP h p x ds with
    | none => simp [q1] at eb
    | some ds1 =>
      simp [q1] at eb
      exact ⟨v1, ws, rfl, ω, h, ds, x, ds1, rfl, r, s, ra, q1, fun σ' s' w' => ⟨ω, h, ds1, xs, ds', rfl, r, s', rb, eb, fun σ'' s'' w'' => q σ'' s'' fun ws' hw => (w'' ws' fun i hi => hw i (by simp [Pt.slotsL, hi])).trans (w' ws' fun i hi => hw i (by simp [Pt.slotsL, hi]))⟩⟩
theorem bindPs_len : ∀ {h : Hc} {ps : List Pt} {xs : List D} {ds ds' : Sl}, bindPs h ps xs ds = some ds' → xs.length = ps.length
  | _, [], [], _, _, _ => rfl
  | _, [], x :: xs, _, _, e => by simp [bindPs] at e
  | _, p :: ps, [], _, _, e => by simp [bindPs] at e
  | h, p :: ps, x :: xs, ds, ds', e => by
    unfold bindPs at e
    cases q1 : bindP h p x ds with
    | none => simp [q1] at e
    | some ds1 => simp [q1] at e; rw [List.length_cons, List.length_cons, bindPs_len e]
theorem pg_or {t1 t2 : TG} (h1 : PG X tg t1) (h2 : PG X tg t2) : PG X tg (fun v σ H Q => t1 v σ H Q ∨ t2 v σ H Q) :=
  ⟨fun pins s σ H v u Q I r q => q.elim (fun q => h1.run pins s σ H v u Q I r q) fun q => h2.run pins s σ H v u Q I r q⟩
theorem dg_t (hc : X.calm = true) (h : DGs X es ps)
    (h1 : PG X (.Tuple es k pos) (gTup X.K ps.length (tPs X.K ps))) (h2 : PG X (.Tuple es k pos) (gLst X.K ps.length (tPs X.K ps))) : DG X (.Tuple es k pos) (.t ps) :=
  dg_of (pg_or h1 h2) fun v σ H Q ⟨ω, h, ds, d, ds', e1, r, s, rd, eb, q⟩ => by
    subst e1
    unfold bindP at eb
    cases q1 : seqD h d with
    | none => simp [q1] at eb
    | some xs =>
      simp [q1] at eb
      obtain ⟨a, vs, rfl, sq, rl⟩ := seqD_rel r q1 rd
      have hl : vs.length = ps.length := by rw [← rl.len]; exact bindPs_len eb
      have q' : tPs X.K ps vs σ ω.H Q := ⟨ω, h, ds, xs, ds', rfl, r, s, rl, eb, fun σ' s' w' => q σ' s' fun ws hw => w' ws fun i hi => hw i (by simp [Pt.slots, hi])⟩
      rcases sq with sq | sq
      · exact .inl ⟨a, vs, rfl, sq, hl, q'⟩
      · exact .inr ⟨a, vs, rfl, sq, hl, q'⟩
end
/-- target = expression -/
def sAsg (p : Pt) (m : SE) : SS := fun ds h => sBd (m ds h) ds fun d h1 => match bindP h1 p d ds with
  | some ds' => .nx ds' h1
  | none => .bad
theorem ds_asg {X : Cx} {W : WX} {tg e : Expr} {p : Pt} {me : SE} {pos : Pos} (h : PS X (.Assign [tg] e pos) (tAsg (tE X W me) (tP X.K p))) : DS X W (.Assign [tg] e pos) (sAsg p me) := ds_of h fun E σ H ⟨ω, h, ds, e1, r, s, q⟩ => by
  subst e1
  refine ⟨ω, h, ds, rfl, r, s, PostO.bd r s q fun d h1 v ω' e r1 rd s1 p1 => ?_⟩
  cases q1 : bindP h1 p d ds with
  | none => rw [q1] at p1; exact False.elim p1
  | some ds' => rw [q1] at p1; exact ⟨ω', h1, ds, d, ds', rfl, r1, s1, rd, q1, fun σ' s' _ => p1 σ' ω' (Ext.refl _) r1 s'⟩
/-! ### what is walked -/
structure ItD where
  items : List D
  chk : Hc → Bool
abbrev SI := Sl → Hc → R ItD
def ItOk (K : PySem.W.Frag) (ω : Wo) (it : ItD) (J : It) : Prop := ∀ (i : Nat) (ω' : Wo) (h' : Hc), Ext ω ω' → Rel K ω' h' → it.chk h' = true →
  (∀ d, it.items[i]? = some d → J.go i ω'.H ∧ ∀ x H', J.yld i ω'.H x H' → ∃ ω2, ω2.H = H' ∧ Ext ω' ω2 ∧ Rel K ω2 h' ∧ RelD K ω2 d x) ∧ (it.items[i]? = none → J.stop i ω'.H)
abbrev tI (X : Cx) (W : WX) (m : SI) : TI := tOf X.K X.mg W (ItOk X.K) m
abbrev DI (X : Cx) (W : WX) (tg iter : Expr) (m : SI) : Prop := PI X tg iter (tI X W m)
section
variable {X : Cx} {W : WX} {tg iter e : Expr} {m : SE} {mi : SI}
theorem di_of {t1 : TI} (h : PI X tg iter t1) (hw : ∀ σ H R, tI X W mi σ H R → t1 σ H R) : DI X W tg iter mi := ⟨fun pins s σ H R I q => h.run pins s σ H R I (hw σ H R q)⟩
theorem pi_or {t1 t2 : TI} (h1 : PI X tg iter t1) (h2 : PI X tg iter t2) : PI X tg iter (fun σ H R => t1 σ H R ∨ t2 σ H R) :=
  ⟨fun pins s σ H R I q => q.elim (fun q => h1.run pins s σ H R I q) fun q => h2.run pins s σ H R I q⟩
end
def fl (chk : Hc → Bool) (p : Pt) (b : SS) : List D → SS
  | [] => fun ds h => if chk h = true then .nx ds h else .bad
  | d :: r => fun ds h => if chk h = true then (match bindP h p d ds with
      | some ds1 => (match b ds1 h with
        | .nx ds' h' => fl chk p b r ds' h'
        | .ct ds' h' => fl chk p b r ds' h'
        | .bk ds' h' => .nx ds' h'
        | o => o)
      | none => .bad) else .bad
def sFor (mi : SI) (p : Pt) (b : SS) : SS := fun ds h => sBd (mi ds h) ds fun it h1 => fl it.chk p b it.items ds h1
theorem PostO.if_ {K : PySem.W.Frag} {mg : Str → Option Value} {W : WX} {ω : Wo} {E : Ends} {c : Prop} [Decidable c] {o : O} (p : PostO K mg W ω E (if c then o else .bad)) : c ∧ PostO K mg W ω E o := by
  by_cases h : c
  · rw [if_pos h] at p; exact ⟨h, p⟩
  · rw [if_neg h] at p; exact False.elim p
theorem ds_for {X : Cx} {W : WX} {tg iter : Expr} {sts : List Stmt} {mi : SI} {p : Pt} {b : SS} {pos : Pos}
    (h : PS X (.For tg iter sts [] pos) (tFor (tI X W mi) (tP X.K p) (tS X W b))) : DS X W (.For tg iter sts [] pos) (sFor mi p b) := ds_of h fun E σ H ⟨ω, h, ds, e1, r, s, q⟩ => by
  subst e1
  refine ⟨ω, h, ds, rfl, r, s, PostO.bd r s q fun it h1 J ω1 ex1 r1 ok s1 p1 => ?_⟩
  refine ⟨fun i m σ' H' => ∃ ω2 h2 ds2, ω2.H = H' ∧ Ext ω1 ω2 ∧ Rel X.K ω2 h2 ∧ RelS X.K ω2 ds2 σ' ∧ m = (it.items.drop i).length ∧ PostO X.K X.mg W ω2 E (fl it.chk p b (it.items.drop i) ds2 h2), ⟨_, ω1, h1, ds, rfl, Ext.refl _, r1, s1, rfl, p1⟩, ?_⟩
  rintro i m σ' H' ⟨ω2, h2, ds2, rfl, e2, r2, s2, hm, p2⟩
  cases q1 : it.items.drop i with
  | nil =>
    rw [q1] at p2
    unfold fl at p2
    obtain ⟨hk, p2⟩ := p2.if_
    refine .inl ⟨(ok i ω2 h2 e2 r2 hk).2 ?_, p2 σ' ω2 (Ext.refl _) r2 s2⟩
    have : it.items.length ≤ i := List.drop_eq_nil_iff.mp q1
    exact List.getElem?_eq_none this
  | cons d rest =>
    rw [q1] at p2
    unfold fl at p2
    obtain ⟨hk, p2⟩ := p2.if_
    have hd : it.items[i]? = some d := by
      have := congrArg (fun l => l[0]?) q1
      simpa using this
    have hrest : it.items.drop (i + 1) = rest := by
      have := congrArg List.tail q1
      simpa using this
    obtain ⟨go, yl⟩ := (ok i ω2 h2 e2 r2 hk).1 d hd
    refine .inr ⟨go, fun σ3 H3 => ∃ ω3 h3 ds3, ω3.H = H3 ∧ Ext ω1 ω3 ∧ Rel X.K ω3 h3 ∧ RelS X.K ω3 ds3 σ3 ∧ PostO X.K X.mg W ω3 E (fl it.chk p b rest ds3 h3), fun σ3 H3 ⟨ω3, h3, ds3, a1, a2, a3, a4, a5⟩ => ⟨rest.length, by rw [hm, q1]; exact Nat.lt_succ_self _, ω3, h3, ds3, a1, a2, a3, a4, by rw [hrest], by rw [hrest]; exact a5⟩, fun x H' hy => ?_⟩
    obtain ⟨ω3, rfl, e3, r3, d3⟩ := yl x H' hy
    cases q2 : bindP h2 p d ds2 with
    | none => rw [q2] at p2; exact False.elim p2
    | some ds3 =>
      rw [q2] at p2
      refine ⟨ω3, h2, ds2, d, ds3, rfl, r3, monoS r2 e3 s2, d3, q2, fun σ4 s4 _ => ⟨ω3, h2, ds3, rfl, r3, s4, ?_⟩⟩
      have p3 := PostO.mono p2 e3
      cases q3 : b ds3 h2 with
      | nx ds' h' => simp only [q3] at p3; exact fun σ5 ω5 e5 r5 s5 => ⟨ω5, h', ds', rfl, (e2.trans e3).trans e5, r5, s5, PostO.mono (o := fl it.chk p b rest ds' h') p3 e5⟩
      | ct ds' h' => simp only [q3] at p3; exact fun σ5 ω5 e5 r5 s5 => ⟨ω5, h', ds', rfl, (e2.trans e3).trans e5, r5, s5, PostO.mono (o := fl it.chk p b rest ds' h') p3 e5⟩
      | bk ds' h' => simp only [q3] at p3; exact p3
      | rt d h' => simp only [q3] at p3; exact p3
      | ex x fs vs ds' h' => simp only [q3] at p3; exact p3
      | bad => simp only [q3] at p3; exact p3
/-! ### comprehensions -/
def R.nox {α : Type} : R α → R α
  | .ok a h => .ok a h
  | _ => .bad
def wipeD (ds : Sl) : List Nat → Sl
  | [] => ds
  | v :: vs => (wipeD ds vs).set v none
abbrev W0 : WX := fun _ _ _ _ => False
def lcR (chk : Hc → Bool) (p : Pt) (own : List Nat) (c : SB) (m : SE) (ds : Sl) : List D → List D → Hc → R (List D)
  | [], acc, h => if chk h = true then .ok acc h else .bad
  | d :: r, acc, h => if chk h = true then (match bindP h p d (wipeD ds own) with
      | some ds1 => (c ds1 h).nox.bd fun b h1 => if b = true then (m ds1 h1).nox.bd fun y h2 => if acc.length < lim then lcR chk p own c m ds r (acc ++ [y]) h2 else .bad else lcR chk p own c m ds r acc h1
      | none => .bad) else .bad
def eLc (mi : SI) (p : Pt) (own : List Nat) (c : SB) (m : SE) : SE := fun ds h => (mi ds h).bd fun it h1 => (lcR it.chk p own c m ds it.items [] h1).bd fun xs h2 => .ok (.lst xs) h2
def eLcC (mi : SI) (p : Pt) (own : List Nat) (c : SB) (m : SE) : SE := fun ds h => (mi ds h).bd fun it h1 => (lcR it.chk p own c m ds it.items [] h1).bd fun xs h2 => .ok (.ref h2.length) (h2 ++ [.lst xs])
section
variable {K : PySem.W.Frag} {ω ω' : Wo} {h h' : Hc} {ds : Sl} {σ : L2.St}
theorem RelS.wipe (s : RelS K ω ds σ) : ∀ own : List Nat, RelS K ω (wipeD ds own) (wipe σ own)
  | [] => s
  | v :: vs => by
    have ih := RelS.wipe s vs
    unfold wipeD L2.wipe
    refine ⟨by rw [List.length_set, List.length_set]; exact ih.1, fun j d hj => ?_⟩
    by_cases hv : v = j
    · subst hv
      have hl : v < (wipeD ds vs).length := by
        have := (List.getElem?_eq_some_iff.mp hj).1
        rw [List.length_set] at this; exact this
      rw [List.getElem?_set_self hl] at hj; cases hj
    · rw [List.getElem?_set_ne hv] at hj ⊢
      exact ih.2 j d hj
/-- the list at q, which is not read as data, grows -/
theorem hid (r : Rel K ω h) {q : Addr} {vs ws : List V} (hA : ω.A q) (hb : ∀ i, i < ω.n → ω.β i ≠ q) (hq : ω.H q = some (.lst vs)) :
    Rel K (ω.up q (.lst ws)) h ∧ (∀ d v, RelD K ω d v → RelD K (ω.up q (.lst ws)) d v) ∧ ∀ ds vs, RelL K ω ds vs → RelL K (ω.up q (.lst ws)) ds vs := by
  have stT : ∀ p vs', SqQ K ω.H p vs' → SqQ K (upd ω.H q (.lst ws)) p vs' := fun p vs' y => by
    obtain ⟨x, y⟩ := y
    have ne : ∀ o, ω.H p = some o → (∀ l, o ≠ .lst l) → p ≠ q := fun o z1 z2 e => by rw [e, hq] at z1; cases z1; exact z2 _ rfl
    refine ⟨?_, fun z => by rw [upd_ne (ne _ (y z) (by intro l z; cases z))]; exact y z⟩
    rcases x with (x | ⟨o, x⟩) | x
    · exact .inl (.inl (by rw [upd_ne (ne _ x (by intro l z; cases z))]; exact x))
    · exact .inl (.inr ⟨o, by rw [upd_ne (ne _ x (by intro l z; cases z))]; exact x⟩)
    · exact .inr x
  have stR : ∀ p o, ω.H p = some o → ¬ ω.A p → (upd ω.H q (.lst ws)) p = some o := fun p o x n => by
    have ne : p ≠ q := fun e => n (e ▸ hA)
    rw [upd_ne ne]; exact x
  have stK : ∀ p vs', LkL K ω p vs' → LkL K (ω.up q (.lst ws)) p vs' := fun p vs' x => by
    rcases x with ⟨o, x⟩ | x
    · refine .inl ⟨o, ?_⟩
      show upd ω.H q (.lst ws) p = _
      rw [upd_ne (fun e => by rw [e, hq] at x; cases x)]; exact x
    · exact .inr x
  have key : (∀ d v, RelD K ω d v → RelD K (ω.up q (.lst ws)) d v) ∧ ∀ ds vs, RelL K ω ds vs → RelL K (ω.up q (.lst ws)) ds vs := by
    have aux := @D.rec (motive_1 := fun d => ∀ v, RelD K ω d v → RelD K (ω.up q (.lst ws)) d v) (motive_2 := fun ds => ∀ vs, RelL K ω ds vs → RelL K (ω.up q (.lst ws)) ds vs)
      (fun v x => by unfold RelD at x ⊢; exact x) (fun b v x => by unfold RelD at x ⊢; exact x) (fun i v x => by unfold RelD at x ⊢; exact x) (fun s v x => by unfold RelD at x ⊢; exact x)
      (fun ds ih v x => by unfold RelD at x ⊢; obtain ⟨p, vs', e1, e2, e3⟩ := x; exact ⟨p, vs', e1, stT p vs' e2, ih _ e3⟩)
      (fun ds ih v x => by unfold RelD at x ⊢; obtain ⟨p, vs', e1, ⟨e2, n⟩, e3⟩ := x; exact ⟨p, vs', e1, ⟨stR _ _ e2 n, n⟩, ih _ e3⟩)
      (fun ds ih v x => by unfold RelD at x ⊢; obtain ⟨p, vs', e1, e2, e3⟩ := x; exact ⟨p, vs', e1, stK _ _ e2, ih _ e3⟩)
      (fun ks ds ih v x => by unfold RelD at x ⊢; obtain ⟨p, vs', e1, ⟨e2, n⟩, e3, e4⟩ := x; exact ⟨p, vs', e1, ⟨stR _ _ e2 n, n⟩, e3, ih _ e4⟩)
      (fun i v x => by unfold RelD at x ⊢; exact x) (fun t v x => by unfold RelD at x ⊢; exact x)
      (fun vs x => by unfold RelL at x ⊢; exact x)
      (fun d ds ih1 ih2 vs x => by unfold RelL at x ⊢; obtain ⟨v, ws', e1, e2, e3⟩ := x; exact ⟨v, ws', e1, ih1 _ e2, ih2 _ e3⟩)
    refine ⟨aux, fun ds => ?_⟩
    induction ds with
    | nil => intro vs x; unfold RelL at x ⊢; exact x
    | cons d ds ih => intro vs x; obtain ⟨v, ws', rfl, e2, e3⟩ := x.inv; exact RelL.cons (aux d v e2) (ih _ e3)
  refine ⟨⟨r.n, r.inj, r.inA, fun p hp z => ?_, fun i c hi => ?_, tabs_keep r.tabs fun b u e nm => by
    show upd ω.H q (.lst ws) b = some u
    rw [upd_ne (fun z => nm (by rw [z, hq] at e; cases e; exact trivial))]; exact e⟩, key.1, key.2⟩
  · have z' : upd ω.H q (.lst ws) p = none := z
    by_cases e : p = q
    · rw [e, upd_same] at z'; cases z'
    · rw [upd_ne e] at z'; exact r.sub p hp z'
  · have hl : i < ω.n := by rw [r.n]; exact (List.getElem?_eq_some_iff.mp hi).1
    have x := r.cel i c hi
    show RelC K (ω.up q (.lst ws)) (ω.β i) c
    cases c with
    | lst xs => obtain ⟨vs', e1, e2⟩ := x; exact ⟨vs', (upd_ne (hb i hl)).trans e1, key.2 _ _ e2⟩
    | dct ks xs => obtain ⟨vs', e1, e3, e2⟩ := x; exact ⟨vs', (upd_ne (hb i hl)).trans e1, e3, key.2 _ _ e2⟩
    | dtt ks xs => obtain ⟨vs', e1, e3, e2⟩ := x; exact ⟨vs', (upd_ne (hb i hl)).trans e1, e3, key.2 _ _ e2⟩
    | obj cls fs xs => obtain ⟨vs', ⟨cx, dx, e0, e1⟩, e3, e2⟩ := x; exact ⟨vs', ⟨cx, dx, e0, (upd_ne (hb i hl)).trans e1⟩, e3, key.2 _ _ e2⟩
    | rng lo hi => exact (upd_ne (hb i hl)).trans x
    | lkd ks xs => obtain ⟨vs', ⟨o, e1⟩, e3, e2⟩ := x; exact ⟨vs', ⟨o, (upd_ne (hb i hl)).trans e1⟩, e3, key.2 _ _ e2⟩
    | lkt ks xs => obtain ⟨vs', ⟨o, e1⟩, e3, e2⟩ := x; exact ⟨vs', ⟨o, (upd_ne (hb i hl)).trans e1⟩, e3, key.2 _ _ e2⟩
/-- fewer addresses may change -/
theorem shrink {B : Addr → Prop} (r : Rel K ω h) (hB : ∀ q, B q → ω.A q) (hc : ∀ i, i < ω.n → B (ω.β i)) :
    Rel K { ω with A := B } h ∧ (∀ d v, RelD K ω d v → RelD K { ω with A := B } d v) ∧ ∀ ds vs, RelL K ω ds vs → RelL K { ω with A := B } ds vs := by
  have key : (∀ d v, RelD K ω d v → RelD K { ω with A := B } d v) ∧ ∀ ds vs, RelL K ω ds vs → RelL K { ω with A := B } ds vs := by
    have aux := @D.rec (motive_1 := fun d => ∀ v, RelD K ω d v → RelD K { ω with A := B } d v) (motive_2 := fun ds => ∀ vs, RelL K ω ds vs → RelL K { ω with A := B } ds vs)
      (fun v x => by unfold RelD at x ⊢; exact x) (fun b v x => by unfold RelD at x ⊢; exact x) (fun i v x => by unfold RelD at x ⊢; exact x) (fun s v x => by unfold RelD at x ⊢; exact x)
      (fun ds ih v x => by unfold RelD at x ⊢; obtain ⟨p, vs', e1, e2, e3⟩ := x; exact ⟨p, vs', e1, e2, ih _ e3⟩)
      (fun ds ih v x => by unfold RelD at x ⊢; obtain ⟨p, vs', e1, ⟨e2, n⟩, e3⟩ := x; exact ⟨p, vs', e1, ⟨e2, fun z => n (hB _ z)⟩, ih _ e3⟩)
      (fun ds ih v x => by unfold RelD at x ⊢; obtain ⟨p, vs', e1, e2, e3⟩ := x; exact ⟨p, vs', e1, e2, ih _ e3⟩)
      (fun ks ds ih v x => by unfold RelD at x ⊢; obtain ⟨p, vs', e1, ⟨e2, n⟩, e3, e4⟩ := x; exact ⟨p, vs', e1, ⟨e2, fun z => n (hB _ z)⟩, e3, ih _ e4⟩)
      (fun i v x => by unfold RelD at x ⊢; exact x) (fun t v x => by unfold RelD at x ⊢; exact x)
      (fun vs x => by unfold RelL at x ⊢; exact x)
      (fun d ds ih1 ih2 vs x => by unfold RelL at x ⊢; obtain ⟨v, ws', e1, e2, e3⟩ := x; exact ⟨v, ws', e1, ih1 _ e2, ih2 _ e3⟩)
    refine ⟨aux, fun ds => ?_⟩
    induction ds with
    | nil => intro vs x; unfold RelL at x ⊢; exact x
    | cons d ds ih => intro vs x; obtain ⟨v, ws', rfl, e2, e3⟩ := x.inv; exact RelL.cons (aux d v e2) (ih _ e3)
  refine ⟨⟨r.n, r.inj, hc, fun p hp => r.sub p (hB p hp), fun i c hi => ?_, r.tabs⟩, key.1, key.2⟩
  have x := r.cel i c hi
  cases c with
  | lst xs => obtain ⟨vs', e1, e2⟩ := x; exact ⟨vs', e1, key.2 _ _ e2⟩
  | dct ks xs => obtain ⟨vs', e1, e3, e2⟩ := x; exact ⟨vs', e1, e3, key.2 _ _ e2⟩
  | dtt ks xs => obtain ⟨vs', e1, e3, e2⟩ := x; exact ⟨vs', e1, e3, key.2 _ _ e2⟩
  | obj cls fs xs => obtain ⟨vs', ⟨cx, dx, e0, e1⟩, e3, e2⟩ := x; exact ⟨vs', ⟨cx, dx, e0, e1⟩, e3, key.2 _ _ e2⟩
  | rng lo hi => exact x
  | lkd ks xs => obtain ⟨vs', ⟨o, e1⟩, e3, e2⟩ := x; exact ⟨vs', ⟨o, e1⟩, e3, key.2 _ _ e2⟩
  | lkt ks xs => obtain ⟨vs', ⟨o, e1⟩, e3, e2⟩ := x; exact ⟨vs', ⟨o, e1⟩, e3, key.2 _ _ e2⟩
end
theorem Post.if_ {α β : Type} {K : PySem.W.Frag} {mg : Str → Option Value} {W : WX} {σ : L2.St} {ω : Wo} {rel : Wo → α → β → Prop} {Q : β → Hp → Prop} {c : Prop} [Decidable c] {o : R α} (p : Post K mg W σ ω rel Q (if c then o else .bad)) : c ∧ Post K mg W σ ω rel Q o := by
  by_cases h : c
  · rw [if_pos h] at p; exact ⟨h, p⟩
  · rw [if_neg h] at p; exact False.elim p
theorem wipe_wipe {σ : L2.St} : ∀ ws : List Nat, wipe (wipe σ ws) ws = wipe σ ws
  | [] => rfl
  | v :: vs => by
    have ih := wipe_wipe (σ := σ) vs
    show (wipe ((wipe σ vs).set v none) vs).set v none = (wipe σ vs).set v none
    by_cases h : v ∈ vs
    · rw [wipe_set_in h, ih]
    · rw [wipe_set_out h, ih, List.set_set]
/-- the world without q -/
def Wo.drop (ω : Wo) (q : Addr) : Wo := { ω with A := fun a => ω.A a ∧ a ≠ q, H := fun a => if a = q then none else ω.H a }
theorem Wo.drop_ne {ω : Wo} {q a : Addr} (h : a ≠ q) : (ω.drop q).H a = ω.H a := if_neg h
theorem Wo.drop_eq {ω : Wo} {q : Addr} : (ω.drop q).H q = none := if_pos rfl
theorem Wo.drop_up {ω : Wo} {q : Addr} {o : HO} : (ω.up q o).drop q = ω.drop q := by
  unfold Wo.drop Wo.up
  congr 1
  funext a
  by_cases h : a = q
  · rw [if_pos h, if_pos h]
  · rw [if_neg h, if_neg h]; exact upd_ne h
theorem Ext.drop {ω ω' : Wo} (e : Ext ω ω') (q : Addr) : Ext (ω.drop q) (ω'.drop q) where
  n := e.n
  b := e.b
  a := fun a h => ⟨e.a a h.1, h.2⟩
  aN := fun a h => by
    rcases e.aN a h.1 with z | z
    · exact .inl ⟨z, h.2⟩
    · exact .inr (by rw [Wo.drop_ne h.2]; exact z)
  nw := fun i h1 h2 => by
    have z := e.nw i h1 h2
    show (if _ then _ else _) = _
    split
    · rfl
    · exact z
  dom := fun a h => by
    by_cases ha : a = q
    · rw [ha]; exact Wo.drop_eq
    · rw [Wo.drop_ne ha] at h ⊢; exact e.dom a h
  keep := fun a o h nt hb => by
    by_cases ha : a = q
    · rw [ha, Wo.drop_eq] at h; cases h
    · rw [Wo.drop_ne ha] at h ⊢; exact e.keep a o h nt hb
/-- into a block, q being the list that is made: nothing is raised there -/
theorem Post.into {α β α' β' : Type} {K : PySem.W.Frag} {mg : Str → Option Value} {W : WX} {σ σ' : L2.St} {ω : Wo} {rel : Wo → α → β → Prop} {Q : β → Hp → Prop} {rel' : Wo → α' → β' → Prop} {Q' : β' → Hp → Prop} {r : R α} {f : α → Hc → R α'} {q : Addr}
    (hp : Post K mg W σ (ω.drop q) rel' Q' (r.nox.bd f)) (hq : ∀ a h b ω', Ext ω ω' → Rel K ω' h → rel ω' a b → Post K mg W σ (ω'.drop q) rel' Q' (f a h) → Q b ω'.H) : Post K mg W0 σ' ω rel Q r := by
  cases r with
  | ok a h => exact fun b ω' e r1 ra => hq a h b ω' e r1 ra (Post.mono (r := f a h) hp (e.drop q))
  | ex x fs ds h => exact False.elim hp
  | bad => exact False.elim hp
theorem bd_bd {α β γ : Type} (r : R α) (f : α → Hc → R β) (g : β → Hc → R γ) : (r.bd f).bd g = r.bd fun a h => (f a h).bd g := by cases r <;> rfl
section
variable {X : Cx} {W : WX} {tg iter elt : Expr} {ifs : List Expr} {mi : SI} {p : Pt} {own : List Nat} {c : SB} {m : SE} {scope : Scope} {pos : Pos}
/-- the comprehension's list is made; fin: what is done with it -/
theorem lcW {fin : List D → Hc → R D} (ho : ∀ i ∈ p.slots, i ∈ own)
    (hfin : ∀ (σ : L2.St) (ω : Wo) (h : Hc) (q : Addr) (xs : List D) (vs : List V) (Q : VK), Rel X.K ω h → ω.H q = some (.lst vs) → ω.A q → (∀ i, i < ω.n → ω.β i ≠ q) → RelL X.K ω xs vs →
      Post X.K X.mg W σ (ω.drop q) (RelD X.K) Q (fin xs h) → Q (.ref q) ω.H) :
    ∀ σ H Q, tE X W (fun ds h => (mi ds h).bd fun it h1 => (lcR it.chk p own c m ds it.items [] h1).bd fin) σ H Q → tLc (tI X W mi) (tP X.K p) (tT X W0 c) (tE X W0 m) own σ H Q := fun σ H Q ⟨ω, h, ds, e1, r, s, q⟩ => by
  subst e1
  refine ⟨ω, h, ds, rfl, r, s, q.bd fun it h1 J ω1 ex1 r1 ok p1 => ?_⟩
  intro Da hD
  have s1 := monoS r ex1 s
  have e0 : Ext ω1 { ω1 with A := fun q => ω1.A q ∨ q = Da, H := upd ω1.H Da (.lst []) } := by
    refine ⟨Nat.le_refl _, fun _ _ => rfl, fun _ z => .inl z, fun q z => ?_, fun i a b => absurd b (Nat.not_lt.mpr a), (Ext.up (o := .lst []) hD).dom, (Ext.up (o := .lst []) hD).keep⟩
    rcases z with z | z
    · exact .inl z
    · exact .inr (by rw [z]; exact hD)
  have nD : ∀ j, j < ω1.n → ω1.β j ≠ Da := fun j hj z => by
    obtain ⟨u, e, _⟩ := r1.mut hj
    rw [z, hD] at e; cases e
  refine ⟨fun i k H' => ∃ ω2 h2 acc vs, ω2.H = H' ∧ Ext ω1 ω2 ∧ Rel X.K ω2 h2 ∧ ω2.A Da ∧ (∀ j, j < ω2.n → ω2.β j ≠ Da) ∧ ω2.H Da = some (.lst vs) ∧ RelL X.K ω2 acc vs ∧ k = (it.items.drop i).length ∧
      Post X.K X.mg W σ (ω2.drop Da) (RelD X.K) Q ((lcR it.chk p own c m ds (it.items.drop i) acc h2).bd fin), ⟨_, { ω1 with A := fun q => ω1.A q ∨ q = Da, H := upd ω1.H Da (.lst []) }, h1, [], [], rfl, e0, ?_, .inr rfl, nD, upd_same, RelL.nil, rfl, ?_⟩, ?_⟩
  · refine r1.ext1 e0 rfl (fun q z w => ?_) (fun i hi => upd_ne (nD i hi)) (tabs_keep r1.tabs fun b u e _ => by
      show upd ω1.H Da (.lst []) b = some u
      rw [upd_ne (ne_of_none e hD)]; exact e)
    have w' : upd ω1.H Da (.lst []) q = none := w
    by_cases e : q = Da
    · rw [e, upd_same] at w'; cases w'
    · rw [upd_ne e] at w'
      rcases z with z | z
      · exact r1.sub q z w'
      · exact e z
  · refine Post.mono (r := (lcR it.chk p own c m ds it.items [] h1).bd fin) p1 ⟨Nat.le_refl _, fun _ _ => rfl, fun a ha => ⟨.inl ha, fun z => r1.free hD (z ▸ ha)⟩, fun a ha => ?_, fun i a b => absurd b (Nat.not_lt.mpr a), fun a ha => ?_, fun a o ha _ _ => ?_⟩
    · rcases ha.1 with z | z
      · exact .inl z
      · exact absurd z ha.2
    · by_cases z : a = Da
      · rw [z]; exact hD
      · rw [Wo.drop_ne z] at ha
        have ha' : upd ω1.H Da (.lst []) a = none := ha
        rw [upd_ne z] at ha'; exact ha'
    · have z := ne_of_none ha hD
      rw [Wo.drop_ne z]
      show upd ω1.H Da (.lst []) a = some o
      rw [upd_ne z]; exact ha
  · rintro i k H' ⟨ω2, h2, acc, vs, rfl, e2, r2, aD, bD, hDa, rl, hk, p2⟩
    cases q1 : it.items.drop i with
    | nil =>
      rw [q1] at p2
      unfold lcR at p2
      by_cases hck : it.chk h2 = true
      · rw [if_pos hck] at p2
        refine .inl ⟨(ok i ω2 h2 e2 r2 hck).2 (List.getElem?_eq_none (List.drop_eq_nil_iff.mp q1)), ?_⟩
        exact hfin σ ω2 h2 Da acc vs Q r2 hDa aD bD rl p2
      · rw [if_neg hck] at p2; exact False.elim p2
    | cons d rest =>
      rw [q1] at p2
      unfold lcR at p2
      by_cases hck : it.chk h2 = true
      · rw [if_pos hck] at p2
        have hd : it.items[i]? = some d := by
          have := congrArg (fun l => l[0]?) q1
          simpa using this
        have hrest : it.items.drop (i + 1) = rest := by
          have := congrArg List.tail q1
          simpa using this
        obtain ⟨go, yl⟩ := (ok i ω2 h2 e2 r2 hck).1 d hd
        refine .inr ⟨go, fun H3 => ∃ ω3 h3 acc vs, ω3.H = H3 ∧ Ext ω1 ω3 ∧ Rel X.K ω3 h3 ∧ ω3.A Da ∧ (∀ j, j < ω3.n → ω3.β j ≠ Da) ∧ ω3.H Da = some (.lst vs) ∧ RelL X.K ω3 acc vs ∧ Post X.K X.mg W σ (ω3.drop Da) (RelD X.K) Q ((lcR it.chk p own c m ds rest acc h3).bd fin),
          fun H3 ⟨ω3, h3, acc', vs', a1, a2, a3, a4, a5, a6, a7, a8⟩ => ⟨rest.length, by rw [hk, q1]; exact Nat.lt_succ_self _, ω3, h3, acc', vs', a1, a2, a3, a4, a5, a6, a7, by rw [hrest], by rw [hrest]; exact a8⟩, fun x H' hy => ?_⟩
        obtain ⟨ω3, rfl, e3, r3, d3⟩ := yl x H' hy
        cases q2 : bindP h2 p d (wipeD ds own) with
        | none => rw [q2] at p2; exact False.elim p2
        | some ds3 =>
          rw [q2] at p2
          have st : ∀ {ω4 : Wo}, Ext ω2 ω4 → ω4.A Da ∧ (∀ j, j < ω4.n → ω4.β j ≠ Da) ∧ ω4.H Da = some (.lst vs) := fun {ω4} e4 => by
            refine ⟨e4.a _ aD, fun j hj z => ?_, e4.keep _ _ hDa (by intro _ z; cases z) (.inl fun j hj => bD j hj)⟩
            by_cases hj2 : j < ω2.n
            · rw [e4.b j hj2] at z; exact bD j hj2 z
            · have := e4.nw j (Nat.not_lt.mp hj2) hj
              rw [z, hDa] at this; cases this
          refine ⟨ω3, h2, wipeD ds own, d, ds3, rfl, r3, monoS r2 e3 (monoS r1 e2 s1 |>.wipe own), d3, q2, fun σ4 s4 hw => ⟨(hw own ho).trans (wipe_wipe own), ω3, h2, ds3, rfl, r3, s4, ?_⟩⟩
          have p3 := Post.mono p2 (e3.drop Da)
          simp only at p3
          rw [bd_bd] at p3
          refine Post.into p3 fun b h4 b' ω4 e4 r4 hb p4 => ?_
          have hb' : b = b' := hb
          subst hb'
          obtain ⟨aD4, bD4, hD4⟩ := st (e3.trans e4)
          cases b with
          | false => exact ⟨ω4, h4, acc, vs, rfl, (e2.trans e3).trans e4, r4, aD4, bD4, hD4, monoL r2 (e3.trans e4) _ _ rl, p4⟩
          | true =>
            rw [if_pos rfl] at p4 ⊢
            rw [bd_bd] at p4
            refine ⟨ω4, h4, ds3, rfl, r4, monoS r3 e4 s4, Post.into p4 fun y h5 v ω5 e5 r5 hy p5 => ?_⟩
            obtain ⟨aD5, bD5, hD5⟩ := st ((e3.trans e4).trans e5)
            have rl5 := monoL r2 ((e3.trans e4).trans e5) _ _ rl
            by_cases hl : acc.length < lim
            · rw [if_pos hl] at p5
              obtain ⟨k1, k2, k3⟩ := hid (ws := vs ++ [v]) r5 aD5 bD5 hD5
              refine ⟨vs, hD5, by rw [← rl5.len]; exact lim_lt hl, ω5.up Da (.lst (vs ++ [v])), h5, acc ++ [y], vs ++ [v], rfl, ?_, k1, aD5, bD5, upd_same, k3 _ _ (rl5.append (RelL.cons hy RelL.nil)), by rw [Wo.drop_up]; exact p5⟩
              have e15 := ((e2.trans e3).trans e4).trans e5
              refine ⟨e15.n, e15.b, e15.a, e15.aN, e15.nw, fun a ha => ?_, fun a o ha nt hb => ?_⟩
              · have ha' : upd ω5.H Da (.lst (vs ++ [v])) a = none := ha
                by_cases z : a = Da
                · rw [z, upd_same] at ha'; cases ha'
                · rw [upd_ne z] at ha'; exact e15.dom a ha'
              · have z := ne_of_none ha hD
                show upd ω5.H Da (.lst (vs ++ [v])) a = some o
                rw [upd_ne z]; exact e15.keep a o ha nt hb
            · rw [if_neg hl] at p5; exact False.elim p5
      · rw [if_neg hck] at p2; exact False.elim p2
theorem lc_fz (σ : L2.St) (ω : Wo) (h : Hc) (q : Addr) (xs : List D) (vs : List V) (Q : VK) (r : Rel X.K ω h) (hq : ω.H q = some (.lst vs)) (aq : ω.A q) (bq : ∀ i, i < ω.n → ω.β i ≠ q) (rl : RelL X.K ω xs vs)
    (p : Post X.K X.mg W σ (ω.drop q) (RelD X.K) Q (.ok (.lst xs) h)) : Q (.ref q) ω.H := by
  obtain ⟨k1, k2, k3⟩ := shrink (B := fun a => ω.A a ∧ a ≠ q) r (fun _ z => z.1) fun i hi => ⟨r.inA i hi, bq i hi⟩
  refine p (.ref q) { ω with A := fun a => ω.A a ∧ a ≠ q } ⟨Nat.le_refl _, fun _ _ => rfl, fun _ z => z, fun _ z => .inl z, fun i a b => absurd b (Nat.not_lt.mpr a), fun a ha => ?_, fun a o ha _ _ => ?_⟩ k1 ?_
  · by_cases z : a = q
    · rw [z]; exact Wo.drop_eq
    · rw [Wo.drop_ne z]; exact ha
  · by_cases z : a = q
    · rw [z, Wo.drop_eq] at ha; cases ha
    · rw [Wo.drop_ne z] at ha; exact ha
  · unfold RelD
    exact ⟨q, vs, rfl, ⟨hq, fun z => z.2 rfl⟩, k3 _ _ rl⟩
theorem de_lc (ho : ∀ i ∈ p.slots, i ∈ own) (h : PE X (.ListComp elt [⟨tg, iter, ifs, 0⟩] scope pos) (tLc (tI X W mi) (tP X.K p) (tT X W0 c) (tE X W0 m) own)) : DE X W (.ListComp elt [⟨tg, iter, ifs, 0⟩] scope pos) (eLc mi p own c m) :=
  de_of h (lcW (fin := fun xs h => .ok (.lst xs) h) ho lc_fz)
end
end Mp
/-! LayD: calls and defs. -/
namespace Mp
open PySem PySem.Spec PyProof.Rows L2
mutual
/-- no cell within -/
def flat : D → Bool
  | .ref _ => false
  | .tup ds => flatL ds
  | .lst ds => flatL ds
  | .scr ds => flatL ds
  | .dct _ ds => flatL ds
  | _ => true
def flatL : List D → Bool
  | [] => true
  | d :: ds => flat d && flatL ds
end
def flatC : C → Bool
  | .lst ds => flatL ds
  | .dct _ ds => flatL ds
  | .dtt _ ds => flatL ds
  | .obj _ _ ds => flatL ds
  | .rng _ _ => true
  | .lkd _ ds => flatL ds
  | .lkt _ ds => flatL ds
abbrev Fn := List D → Hc → R D
/-- a def's promise -/
def spD (K : PySem.W.Frag) (mg : Str → Option Value) (np : Nat) (m : Fn) : Sp := fun vs H Q E =>
  vs.length = np ∧ ∃ ω h ds, ω.H = H ∧ Rel K ω h ∧ RelL K ω ds vs ∧ Post K mg (fun c d _ H' => E c d H') ([] : L2.St) ω (RelD K) Q (m ds h)
/-! ### a def's body -/
def runB (n : Nat) (m : SS) : Fn := fun as h => match m (as.map some ++ List.replicate (n - as.length) none) h with
  | .nx _ h' => .ok .non h'
  | .rt d h' => .ok d h'
  | .ex x fs vs _ h' => .ex x fs vs h'
  | _ => .bad
abbrev WF (E : XK) : WX := fun c d _ H => E c d H
theorem RelL.slots {K : PySem.W.Frag} {ω : Wo} : ∀ {ds : List D} {vs : List V} {n : Nat}, RelL K ω ds vs → RelS K ω (ds.map some ++ List.replicate n none) (vs.map some ++ List.replicate n none)
  | [], vs, n, x => by
    rw [x.inv0]
    refine ⟨by simp, fun i d hi => ?_⟩
    simp [List.getElem?_replicate] at hi
  | d :: ds, vs, n, x => by
    obtain ⟨v, ws, rfl, e2, e3⟩ := x.inv
    have ih := RelL.slots (n := n) e3
    refine ⟨by simpa using ih.1, fun i d' hi => ?_⟩
    cases i with
    | zero =>
      have : d = d' := by simpa using hi
      subst this
      exact ⟨v, rfl, e2⟩
    | succ i => exact ih.2 i d' (by simpa using hi)
section
variable {P : Program} {w : World} {K : PySem.W.Frag} {mg : Str → Option Value} {base : Heap}
theorem fn_ok {x qual : Str} {st : Stmt} {f : Addr} {fd : FuncData} {N ps : List Str} {k : Nat} {m : SS} (F : Fun K x qual st f fd) (S : FnScope N ps (defScope st))
    (hb : ∀ (cdv : Value) (A : Around) (outer : List Env) (s : Shared) (H : Hp) (E : XK), Room k (A.deeper (envOfC qual (defScope st) s.heap.objs.size f cdv)) →
      DSs (cxOf (L2.CX P w) P w K mg base N qual (defScope st) f cdv A outer s H E) (WF E) (defBody st) m) :
    FnOk P w K mg base (L2.CX P w) (k + 1) f fd ps (spD K mg ps.length (runB N.length m)) :=
  F.okX S (fun vs H Q E h => h.1) fun cdv A outer s H vs Q E hr h => by
    refine ⟨_, hb cdv A outer s H E hr, ?_⟩
    obtain ⟨hl, ω, h, ds, e1, r, rl, p⟩ := h
    subst e1
    have e2 : N.length - ds.length = N.length - vs.length := by rw [rl.len]
    refine ⟨ω, h, ds.map some ++ List.replicate (N.length - ds.length) none, rfl, r, by rw [e2]; exact rl.slots, ?_⟩
    unfold runB at p
    cases q : m (ds.map some ++ List.replicate (N.length - ds.length) none) h with
    | nx ds' h' => rw [q] at p; exact fun σ' ω' e r' s' => p _ ω' e r' (by unfold RelD; rfl)
    | rt d h' => rw [q] at p; exact fun v ω' e r' s' => p _ ω' e r' s'
    | bk ds' h' => rw [q] at p; exact False.elim p
    | ct ds' h' => rw [q] at p; exact False.elim p
    | ex x fs vs' ds' h' => rw [q] at p; exact fun c d σ' ω' e r' s' rx => p c d ω' e r' rx
    | bad => rw [q] at p; exact False.elim p
end
/-! ### a call over the caller's cells -/
def eCallG (m : Fn) (as : SA) : SE := fun ds h => (as ds h).bd fun xs h1 => m xs h1
/-! ### a call: the callee sees the cells that are passed, no others -/
def refsOf : List D → List Nat
  | [] => []
  | .ref i :: r => let l := refsOf r; if i ∈ l then l else i :: l
  | _ :: r => refsOf r
def renD (rs : List Nat) : D → Option D
  | .ref i => (rs.findIdx? (· == i)).map .ref
  | d => if flat d = true then some d else none
def renL (rs : List Nat) : List D → Option (List D)
  | [] => some []
  | d :: ds => match renD rs d, renL rs ds with
    | some e, some es => some (e :: es)
    | _, _ => none
def cellsAt (h : Hc) : List Nat → Option (List C)
  | [] => some []
  | i :: r => match h[i]?, cellsAt h r with
    | some c, some cs => some (c :: cs)
    | _, _ => none
/-- what is handed back: a cell of the callee's own is never changed any more -/
def frzD (rs : List Nat) (h : Hc) : Nat → D → Option D
  | 0, d => if flat d = true then some d else none
  | n + 1, d => if flat d = true then some d else match d with
    | .ref i => if i < rs.length then (rs[i]?).map .ref else match h[i]? with
      | some (.lst ds) => (frzL (frzD rs h n) ds).map .lst
      | some (.dct ks ds) => (frzL (frzD rs h n) ds).map (.dct ks)
      | _ => none
    | .tup ds => (frzL (frzD rs h n) ds).map .tup
    | _ => none
where
  frzL (f : D → Option D) : List D → Option (List D)
    | [] => some []
    | d :: ds => match f d, frzL f ds with
      | some e, some es => some (e :: es)
      | _, _ => none
def wb : Hc → List Nat → Hc → Hc
  | h, r :: rs, c :: cs => wb (h.set r c) rs cs
  | h, _, _ => h
def callL (m : Fn) (as : List D) (h : Hc) : R D :=
  match renL (refsOf as) as, cellsAt h (refsOf as) with
  | some as', some hc => if hc.all flatC = true then (match m as' hc with
    | .ok d h' => match frzD (refsOf as) h' 8 d with
      | some d' => if (h'.take (refsOf as).length).all flatC = true then .ok d' (wb h (refsOf as) h') else .bad
      | none => .bad
    | .ex x fs vs h' => if (h'.take (refsOf as).length).all flatC = true ∧ flatL vs = true then .ex x fs vs (wb h (refsOf as) h') else .bad
    | .bad => .bad) else .bad
  | _, _ => .bad
def eCall (m : Fn) (as : SA) : SE := fun ds h => (as ds h).bd fun xs h1 => callL m xs h1
section
variable {K : PySem.W.Frag} {ω ω' ω1 ω2 : Wo} {h h' : Hc}
theorem flat_rel (hH : ω2.H = ω1.H) (hA : ∀ p, ω2.A p → ω1.A p) : (∀ d v, flat d = true → RelD K ω1 d v → RelD K ω2 d v) ∧ ∀ ds vs, flatL ds = true → RelL K ω1 ds vs → RelL K ω2 ds vs := by
  have aux := @D.rec (motive_1 := fun d => ∀ v, flat d = true → RelD K ω1 d v → RelD K ω2 d v) (motive_2 := fun ds => ∀ vs, flatL ds = true → RelL K ω1 ds vs → RelL K ω2 ds vs)
    (fun v _ x => by unfold RelD at x ⊢; exact x) (fun b v _ x => by unfold RelD at x ⊢; exact x) (fun i v _ x => by unfold RelD at x ⊢; exact x) (fun s v _ x => by unfold RelD at x ⊢; exact x)
    (fun ds ih v hf x => by unfold RelD at x ⊢; obtain ⟨p, vs', e1, e2, e3⟩ := x; exact ⟨p, vs', e1, by rw [hH]; exact e2, ih _ (by simpa [flat] using hf) e3⟩)
    (fun ds ih v hf x => by unfold RelD at x ⊢; obtain ⟨p, vs', e1, ⟨e2, n⟩, e3⟩ := x; exact ⟨p, vs', e1, ⟨by rw [hH]; exact e2, fun z => n (hA _ z)⟩, ih _ (by simpa [flat] using hf) e3⟩)
    (fun ds ih v hf x => by
      unfold RelD at x ⊢
      obtain ⟨p, vs', e1, e2, e3⟩ := x
      refine ⟨p, vs', e1, ?_, ih _ (by simpa [flat] using hf) e3⟩
      rcases e2 with ⟨o, e2⟩ | e2
      · exact .inl ⟨o, by rw [hH]; exact e2⟩
      · exact .inr e2)
    (fun ks ds ih v hf x => by unfold RelD at x ⊢; obtain ⟨p, vs', e1, ⟨e2, n⟩, e3, e4⟩ := x; exact ⟨p, vs', e1, ⟨by rw [hH]; exact e2, fun z => n (hA _ z)⟩, e3, ih _ (by simpa [flat] using hf) e4⟩)
    (fun i v hf x => by simp [flat] at hf) (fun t v _ x => by unfold RelD at x ⊢; exact x)
    (fun vs _ x => by unfold RelL at x ⊢; exact x)
    (fun d ds ih1 ih2 vs hf x => by
      unfold RelL at x ⊢
      obtain ⟨v, ws', e1, e2, e3⟩ := x
      simp [flatL] at hf
      exact ⟨v, ws', e1, ih1 _ hf.1 e2, ih2 _ hf.2 e3⟩)
  refine ⟨aux, fun ds => ?_⟩
  induction ds with
  | nil => intro vs _ x; unfold RelL at x ⊢; exact x
  | cons d ds ih =>
    intro vs hf x
    obtain ⟨v, ws', rfl, e2, e3⟩ := x.inv
    simp [flatL] at hf
    exact RelL.cons (aux d v hf.1 e2) (ih _ hf.2 e3)
theorem flat_relC {p : Addr} {c : C} (hH : ω2.H = ω1.H) (hA : ∀ p, ω2.A p → ω1.A p) (hf : flatC c = true) (x : RelC K ω1 p c) : RelC K ω2 p c := by
  cases c with
  | lst ds => obtain ⟨vs, e1, e2⟩ := x; exact ⟨vs, by rw [hH]; exact e1, (flat_rel hH hA).2 _ _ hf e2⟩
  | dct ks ds => obtain ⟨vs, e1, e3, e2⟩ := x; exact ⟨vs, by rw [hH]; exact e1, e3, (flat_rel hH hA).2 _ _ hf e2⟩
  | dtt ks ds => obtain ⟨vs, e1, e3, e2⟩ := x; exact ⟨vs, by rw [hH]; exact e1, e3, (flat_rel hH hA).2 _ _ hf e2⟩
  | obj cls fs ds => obtain ⟨vs, ⟨cx, dx, e0, e1⟩, e3, e2⟩ := x; exact ⟨vs, ⟨cx, dx, e0, by rw [hH]; exact e1⟩, e3, (flat_rel hH hA).2 _ _ hf e2⟩
  | rng lo hi => show ω2.H p = _; rw [hH]; exact x
  | lkd ks ds => obtain ⟨vs, ⟨o, e1⟩, e3, e2⟩ := x; exact ⟨vs, ⟨o, by rw [hH]; exact e1⟩, e3, (flat_rel hH hA).2 _ _ hf e2⟩
  | lkt ks ds => obtain ⟨vs, ⟨o, e1⟩, e3, e2⟩ := x; exact ⟨vs, ⟨o, by rw [hH]; exact e1⟩, e3, (flat_rel hH hA).2 _ _ hf e2⟩
theorem refsOf_nodup : ∀ as : List D, (refsOf as).Nodup
  | [] => List.nodup_nil
  | d :: r => by
    have ih := refsOf_nodup r
    cases d <;> try exact ih
    rename_i i
    show (let l := refsOf r; if i ∈ l then l else i :: l).Nodup
    by_cases hi : i ∈ refsOf r
    · simp only [hi, if_true]; exact ih
    · simp only [hi, if_false]; exact List.nodup_cons.mpr ⟨hi, ih⟩
theorem cellsAt_get : ∀ {rs : List Nat} {cs : List C} {j : Nat} {i : Nat}, cellsAt h rs = some cs → rs[j]? = some i → ∃ c, cs[j]? = some c ∧ h[i]? = some c
  | [], _, j, i, _, e => by simp at e
  | r :: rs, cs, j, i, q, e => by
    unfold cellsAt at q
    cases q1 : h[r]? with
    | none => simp [q1] at q
    | some c =>
      cases q2 : cellsAt h rs with
      | none => simp [q1, q2] at q
      | some cs' =>
        simp [q1, q2] at q; subst q
        cases j with
        | zero => have : r = i := by simpa using e
                  subst this
                  exact ⟨c, rfl, q1⟩
        | succ j =>
          obtain ⟨c', z1, z2⟩ := cellsAt_get (j := j) q2 (by simpa using e)
          exact ⟨c', by simpa using z1, z2⟩
theorem cellsAt_len : ∀ {rs : List Nat} {cs : List C}, cellsAt h rs = some cs → cs.length = rs.length
  | [], cs, q => by simp [cellsAt] at q; subst q; rfl
  | r :: rs, cs, q => by
    unfold cellsAt at q
    cases q1 : h[r]? with
    | none => simp [q1] at q
    | some c =>
      cases q2 : cellsAt h rs with
      | none => simp [q1, q2] at q
      | some cs' => simp [q1, q2] at q; subst q; simp [cellsAt_len q2]
/-- the callee's world -/
def Wo.sub (ω : Wo) (rs : List Nat) : Wo := { ω with β := fun j => ω.β (rs.getD j 0), n := rs.length }
theorem sub_at {rs : List Nat} {j i : Nat} (e : rs[j]? = some i) : (ω.sub rs).β j = ω.β i := by
  show ω.β (rs.getD j 0) = ω.β i
  rw [List.getD_eq_getElem?_getD, e]; rfl
theorem rs_lt {rs : List Nat} {hc : List C} (r : Rel K ω h) (q : cellsAt h rs = some hc) {j i : Nat} (e : rs[j]? = some i) : i < ω.n := by
  obtain ⟨c, _, z⟩ := cellsAt_get q e
  rw [r.n]; exact (List.getElem?_eq_some_iff.mp z).1
theorem Rel.sub_ {rs : List Nat} {hc : List C} (r : Rel K ω h) (nd : rs.Nodup) (q : cellsAt h rs = some hc) (hf : hc.all flatC = true) : Rel K (ω.sub rs) hc where
  tabs := r.tabs
  n := (cellsAt_len q).symm
  inj := fun i j hi hj z => by
    have hi' : i < rs.length := hi
    have hj' : j < rs.length := hj
    have e1 := List.getElem?_eq_getElem hi'
    have e2 := List.getElem?_eq_getElem hj'
    rw [sub_at e1, sub_at e2] at z
    have := r.inj _ _ (rs_lt r q e1) (rs_lt r q e2) z
    exact (List.getElem_inj nd).mp this
  inA := fun i hi => by
    have hi' : i < rs.length := hi
    have e1 := List.getElem?_eq_getElem hi'
    rw [sub_at e1]
    exact r.inA _ (rs_lt r q e1)
  sub := r.sub
  cel := fun j c hj => by
    have hl : j < rs.length := by rw [← cellsAt_len q]; exact (List.getElem?_eq_some_iff.mp hj).1
    have e1 := List.getElem?_eq_getElem hl
    obtain ⟨c', z1, z2⟩ := cellsAt_get q e1
    rw [hj] at z1; cases z1
    rw [sub_at e1]
    exact flat_relC (ω1 := ω) rfl (fun _ z => z) (List.all_eq_true.mp hf c (List.mem_of_getElem? hj)) (r.cel _ _ z2)
theorem findIdx_some {rs : List Nat} {i j : Nat} (e : rs.findIdx? (· == i) = some j) : rs[j]? = some i := by
  obtain ⟨h1, h2, _⟩ := List.findIdx?_eq_some_iff_getElem.mp e
  rw [List.getElem?_eq_getElem h1]
  simpa using h2
theorem renD_rel {rs : List Nat} {d e : D} {v : V} (q : renD rs d = some e) (x : RelD K ω d v) : RelD K (ω.sub rs) e v := by
  by_cases hr : ∃ i, d = .ref i
  · obtain ⟨i, rfl⟩ := hr
    unfold renD at q
    cases q1 : rs.findIdx? (· == i) with
    | none => simp [q1] at q
    | some j =>
      simp [q1] at q; subst q
      have z := findIdx_some q1
      unfold RelD at x ⊢
      refine ⟨(List.getElem?_eq_some_iff.mp z).1, ?_⟩
      rw [sub_at z]; exact x.2
  · have q' : (if flat d = true then some d else none) = some e := by
      cases d <;> first | exact q | exact absurd ⟨_, rfl⟩ hr
    by_cases hf : flat d = true
    · rw [if_pos hf] at q'
      cases q'
      exact (flat_rel (ω1 := ω) (ω2 := ω.sub rs) rfl fun _ z => z).1 _ _ hf x
    · rw [if_neg hf] at q'; cases q'
theorem renL_rel {rs : List Nat} : ∀ {ds es : List D} {vs : List V}, renL rs ds = some es → RelL K ω ds vs → RelL K (ω.sub rs) es vs
  | [], es, vs, q, x => by simp [renL] at q; subst q; rw [x.inv0]; exact RelL.nil
  | d :: ds, es, vs, q, x => by
    obtain ⟨v, ws, rfl, e2, e3⟩ := x.inv
    unfold renL at q
    cases q1 : renD rs d with
    | none => simp [q1] at q
    | some e =>
      cases q2 : renL rs ds with
      | none => simp [q1, q2] at q
      | some es' => simp [q1, q2] at q; subst q; exact RelL.cons (renD_rel q1 e2) (renL_rel q2 e3)
/-- behind the call: the caller's world -/
def Wo.back (ω ω' : Wo) : Wo := { ω with H := ω'.H }
theorem Ext.back {rs : List Nat} (hl : ∀ (j i : Nat), rs[j]? = some i → i < ω.n) (e : Ext (ω.sub rs) ω') : Ext ω (ω.back ω') where
  n := Nat.le_refl _
  b := fun _ _ => rfl
  a := fun _ z => z
  aN := fun _ z => .inl z
  nw := fun i a b => absurd b (Nat.not_lt.mpr a)
  dom := e.dom
  keep := fun q o hq nt hb => e.keep q o hq nt <| hb.elim (fun hb => .inl fun j hj z => by
    have hj' : j < rs.length := hj
    have e1 := List.getElem?_eq_getElem hj'
    rw [sub_at e1] at z
    exact hb _ (hl j _ e1) z) .inr
theorem frz_rel {rs : List Nat} (r : Rel K ω h) (hl : ∀ (j i : Nat), rs[j]? = some i → i < ω.n) (e : Ext (ω.sub rs) ω') (r' : Rel K ω' h') : ∀ (n : Nat) (d d' : D) (v : V), frzD rs h' n d = some d' → RelD K ω' d v → RelD K (ω.back ω') d' v := by
  have hA : ∀ p, (ω.back ω').A p → ω'.A p := fun p z => e.a p z
  have one : ∀ d v, flat d = true → RelD K ω' d v → RelD K (ω.back ω') d v := (flat_rel (ω1 := ω') (ω2 := ω.back ω') rfl hA).1
  have lst : ∀ (f : D → Option D), (∀ d d' v, f d = some d' → RelD K ω' d v → RelD K (ω.back ω') d' v) → ∀ ds ds' vs, frzD.frzL f ds = some ds' → RelL K ω' ds vs → RelL K (ω.back ω') ds' vs := fun f hf ds => by
    induction ds with
    | nil => intro ds' vs q x; simp [frzD.frzL] at q; subst q; rw [x.inv0]; exact RelL.nil
    | cons d ds ih =>
      intro ds' vs q x
      obtain ⟨v, ws, rfl, e2, e3⟩ := x.inv
      unfold frzD.frzL at q
      cases q1 : f d with
      | none => simp [q1] at q
      | some e =>
        cases q2 : frzD.frzL f ds with
        | none => simp [q1, q2] at q
        | some es' => simp [q1, q2] at q; subst q; exact RelL.cons (hf _ _ _ q1 e2) (ih _ _ q2 e3)
  intro n
  induction n with
  | zero =>
    intro d d' v q x
    unfold frzD at q
    by_cases hf : flat d = true
    · rw [if_pos hf] at q; cases q; exact one _ _ hf x
    · rw [if_neg hf] at q; cases q
  | succ n ih =>
    intro d d' v q x
    unfold frzD at q
    by_cases hf : flat d = true
    · rw [if_pos hf] at q; cases q; exact one _ _ hf x
    · rw [if_neg hf] at q
      cases d with
      | ref i =>
        simp only at q
        unfold RelD at x
        obtain ⟨hi, rfl⟩ := x
        by_cases hr : i < rs.length
        · rw [if_pos hr] at q
          have e1 := List.getElem?_eq_getElem hr
          rw [e1] at q
          simp at q; subst q
          unfold RelD
          refine ⟨hl _ _ e1, ?_⟩
          have z := e.b i hr
          rw [z, sub_at e1]; rfl
        · rw [if_neg hr] at q
          have nA : ¬ (ω.back ω').A (ω'.β i) := fun z => r.sub _ z (e.nw i (Nat.not_lt.mp hr) hi)
          cases q1 : h'[i]? with
          | none => simp [q1] at q
          | some c =>
            have rc := r'.cel i c q1
            cases c with
            | lst ds =>
              simp only [q1] at q
              cases q2 : frzD.frzL (frzD rs h' n) ds with
              | none => simp [q2] at q
              | some ds' =>
                simp [q2] at q; subst q
                obtain ⟨vs, e1, e2⟩ := rc
                unfold RelD
                exact ⟨_, vs, rfl, ⟨e1, nA⟩, lst _ ih _ _ _ q2 e2⟩
            | dct ks ds =>
              simp only [q1] at q
              cases q2 : frzD.frzL (frzD rs h' n) ds with
              | none => simp [q2] at q
              | some ds' =>
                simp [q2] at q; subst q
                obtain ⟨vs, e1, e3, e2⟩ := rc
                unfold RelD
                exact ⟨_, vs, rfl, ⟨e1, nA⟩, e3, lst _ ih _ _ _ q2 e2⟩
            | dtt ks ds => simp [q1] at q
            | obj cls fs ds => simp [q1] at q
            | rng lo hi => simp [q1] at q
            | lkd ks ds => simp [q1] at q
            | lkt ks ds => simp [q1] at q
      | tup ds =>
        simp only at q
        cases q2 : frzD.frzL (frzD rs h' n) ds with
        | none => simp [q2] at q
        | some ds' =>
          simp [q2] at q; subst q
          unfold RelD at x ⊢
          obtain ⟨p, vs, e1, e2, e3⟩ := x
          exact ⟨p, vs, e1, e2, lst _ ih _ _ _ q2 e3⟩
      | _ => simp at q
theorem wb_get : ∀ {rs : List Nat} {cs : Hc} {h : Hc} {i : Nat} {c : C}, rs.Nodup → rs.length ≤ cs.length → (wb h rs cs)[i]? = some c → (∃ j : Nat, rs[j]? = some i ∧ cs[j]? = some c) ∨ (h[i]? = some c ∧ i ∉ rs)
  | [], cs, h, i, c, _, _, e => by
    have : wb h [] cs = h := by cases cs <;> rfl
    rw [this] at e
    exact .inr ⟨e, by simp⟩
  | r :: rs, [], h, i, c, _, hl, _ => by simp at hl
  | r :: rs, c0 :: cs, h, i, c, nd, hl, e => by
    have nd' := List.nodup_cons.mp nd
    rcases wb_get (h := h.set r c0) nd'.2 (by simpa using hl) e with ⟨j, a, b⟩ | ⟨a, b⟩
    · exact .inl ⟨j + 1, by simpa using a, by simpa using b⟩
    · by_cases hi : r = i
      · subst hi
        have hr : r < h.length := by
          have := (List.getElem?_eq_some_iff.mp a).1
          rw [List.length_set] at this; exact this
        rw [List.getElem?_set_self hr] at a
        exact .inl ⟨0, rfl, by simpa using a⟩
      · rw [List.getElem?_set_ne hi] at a
        refine .inr ⟨a, ?_⟩
        simp only [List.mem_cons, not_or]
        exact ⟨fun z => hi z.symm, b⟩
theorem wb_len : ∀ {rs : List Nat} {cs h : Hc}, (wb h rs cs).length = h.length
  | [], cs, h => by cases cs <;> rfl
  | r :: rs, [], h => rfl
  | r :: rs, c :: cs, h => by
    show (wb (h.set r c) rs cs).length = h.length
    rw [wb_len, List.length_set]
theorem Rel.back {rs : List Nat} {hc : List C} (r : Rel K ω h) (nd : rs.Nodup) (q : cellsAt h rs = some hc) (e : Ext (ω.sub rs) ω') (r' : Rel K ω' h') (hf : (h'.take rs.length).all flatC = true) : Rel K (ω.back ω') (wb h rs h') := by
  have hl : ∀ (j i : Nat), rs[j]? = some i → i < ω.n := fun j i z => rs_lt r q z
  have eb := Ext.back hl e
  have ln : rs.length ≤ h'.length := by
    have := e.n
    rw [r'.n] at this; exact this
  refine ⟨by rw [wb_len]; exact r.n, r.inj, r.inA, fun p hp z => r.sub p hp (e.dom p z), fun i c hi => ?_, r'.tabs⟩
  show RelC K (ω.back ω') (ω.β i) c
  rcases wb_get nd ln hi with ⟨j, a, b⟩ | ⟨a, b⟩
  · have hj : j < rs.length := (List.getElem?_eq_some_iff.mp a).1
    have x := r'.cel j c b
    rw [e.b j hj, sub_at a] at x
    have fc : flatC c = true := List.all_eq_true.mp hf c (List.mem_of_getElem? (i := j) (by rw [List.getElem?_take_of_lt hj]; exact b))
    exact flat_relC (ω1 := ω') rfl (fun p z => e.a p z) fc x
  · have hi' : i < ω.n := by rw [r.n]; exact (List.getElem?_eq_some_iff.mp a).1
    have x := r.cel i c a
    obtain ⟨o, ho, hm⟩ := r.mut hi'
    have st : ω'.H (ω.β i) = ω.H (ω.β i) := by
      rw [ho]
      refine e.keep _ _ ho (fun ps z => by rw [z] at hm; exact hm) <| .inl fun j hj z => ?_
      have hj' : j < rs.length := hj
      have e1 := List.getElem?_eq_getElem hj'
      rw [sub_at e1] at z
      have := r.inj _ _ (hl _ _ e1) hi' z
      exact b (List.mem_of_getElem? (this ▸ e1))
    cases c with
    | lst ys => obtain ⟨vs', e1, e2⟩ := x; exact ⟨vs', st.trans e1, monoL r eb _ _ e2⟩
    | dct ks ys => obtain ⟨vs', e1, e3, e2⟩ := x; exact ⟨vs', st.trans e1, e3, monoL r eb _ _ e2⟩
    | dtt ks ys => obtain ⟨vs', e1, e3, e2⟩ := x; exact ⟨vs', st.trans e1, e3, monoL r eb _ _ e2⟩
    | obj cls fs ys => obtain ⟨vs', ⟨cx, dx, e0, e1⟩, e3, e2⟩ := x; exact ⟨vs', ⟨cx, dx, e0, st.trans e1⟩, e3, monoL r eb _ _ e2⟩
    | rng lo hi => exact st.trans x
    | lkd ks ys => obtain ⟨vs', ⟨o, e1⟩, e3, e2⟩ := x; exact ⟨vs', ⟨o, st.trans e1⟩, e3, monoL r eb _ _ e2⟩
    | lkt ks ys => obtain ⟨vs', ⟨o, e1⟩, e3, e2⟩ := x; exact ⟨vs', ⟨o, st.trans e1⟩, e3, monoL r eb _ _ e2⟩
end
section
variable {X : Cx} {W : WX} {es : List Expr} {as : SA} {m : Fn} {σ : L2.St} {np : Nat}
theorem callL_sp {K : PySem.W.Frag} {mg : Str → Option Value} {ω : Wo} {h : Hc} {xs : List D} {vs : List V} {Q : VK} (hn : vs.length = np) (r : Rel K ω h) (d : RelL K ω xs vs) (p : Post K mg W σ ω (RelD K) Q (callL m xs h)) : spD K mg np m vs ω.H Q (WE W σ) := by
  unfold callL at p
  cases q1 : renL (refsOf xs) xs with
  | none => rw [q1] at p; exact False.elim p
  | some xs' =>
    cases q2 : cellsAt h (refsOf xs) with
    | none => rw [q1, q2] at p; exact False.elim p
    | some hc =>
      rw [q1, q2] at p
      simp only at p
      obtain ⟨hf, p⟩ := p.if_
      have nd := refsOf_nodup xs
      have hl : ∀ (j i : Nat), (refsOf xs)[j]? = some i → i < ω.n := fun j i z => rs_lt r q2 z
      refine ⟨hn, ω.sub (refsOf xs), hc, xs', rfl, r.sub_ nd q2 hf, renL_rel q1 d, ?_⟩
      cases q3 : m xs' hc with
      | bad => rw [q3] at p; exact False.elim p
      | ex x fs ds h' =>
        rw [q3] at p
        simp only at p
        by_cases hh : (h'.take (refsOf xs).length).all flatC = true ∧ flatL ds = true
        · rw [if_pos hh] at p
          intro c dx ω' e r' rx
          refine p c dx (ω.back ω') (Ext.back hl e) (r.back nd q2 e r' hh.1) ?_
          obtain ⟨C, dd, vs', a1, a2, a3, a4, a5, a6⟩ := rx
          exact ⟨C, dd, vs', a1, a2, a3, a4, a5, (flat_rel (ω1 := ω') (ω2 := ω.back ω') rfl fun p z => e.a p z).2 _ _ hh.2 a6⟩
        · rw [if_neg hh] at p; exact False.elim p
      | ok dd h' =>
        rw [q3] at p
        simp only at p
        cases q4 : frzD (refsOf xs) h' 8 dd with
        | none => rw [q4] at p; exact False.elim p
        | some d' =>
          rw [q4] at p
          simp only at p
          obtain ⟨hh, p⟩ := p.if_
          intro v ω' e r' rv
          exact p v (ω.back ω') (Ext.back hl e) (r.back nd q2 e r' hh) (frz_rel r hl e r' 8 dd d' v q4 rv)
variable {k : Nat} {f : Addr} {fd : FuncData} {ps : List Str} {x : Str} {p pos : Pos} {e : Expr}
/-- f(..) -/
theorem de_call (tk : Takes X W) (F : FnOk X.prog X.w X.K X.mg X.base (L2.CX X.prog X.w) k f fd ps (spD X.K X.mg np m)) (hr : Room k X.A) (hg : Gl X x) (hm : X.mg x = some (.ref f)) (hk : PySem.W.keepIn X.K (.ref f) = true) (hb : Binds X.K fd ps [])
    (hn : (e :: es).length = np) (hl : ∀ ds h xs h', as ds h = .ok xs h' → xs.length = (e :: es).length) (ha : DA X W (e :: es) as) (hdb : (x == ("__debug__" : Str)) = false := by decide) (he : starEach (e :: es) X.env = (false, eval e X.env) :: starEach es X.env := by rfl) (hpl : (backTo pos (starEach es X.env)).any (·.1) = false := by rfl) :
    DE X W (.Call (.Name x p) (e :: es) [] pos) (eCall m as) := de_of (pe_callS F hr hg hm hk hb (fun σ => passAt tk σ) ha hdb he hpl) fun σ H Q ⟨ω, h, ds, e1, r, s, p⟩ => by
  subst e1
  refine ⟨ω, h, ds, rfl, r, s, ?_⟩
  cases q : as ds h with
  | ok xs h1 =>
    unfold eCall at p
    rw [q] at p
    have p' : Post X.K X.mg W σ ω (RelD X.K) Q (callL m xs h1) := p
    intro vs ω' e' r' rl
    exact callL_sp (by rw [← rl.len, hl _ _ _ _ q]; exact hn) r' rl (Post.mono p' e')
  | ex x' fs ds' h1 =>
    unfold eCall at p
    rw [q] at p; exact p
  | bad =>
    unfold eCall at p
    rw [q] at p; exact p
/-- .. over the caller's cells -/
theorem de_callG (tk : Takes X W) (F : FnOk X.prog X.w X.K X.mg X.base (L2.CX X.prog X.w) k f fd ps (spD X.K X.mg np m)) (hr : Room k X.A) (hg : Gl X x) (hm : X.mg x = some (.ref f)) (hk : PySem.W.keepIn X.K (.ref f) = true) (hb : Binds X.K fd ps [])
    (hn : (e :: es).length = np) (hl : ∀ ds h xs h', as ds h = .ok xs h' → xs.length = (e :: es).length) (ha : DA X W (e :: es) as) (hdb : (x == ("__debug__" : Str)) = false := by decide) (he : starEach (e :: es) X.env = (false, eval e X.env) :: starEach es X.env := by rfl) (hpl : (backTo pos (starEach es X.env)).any (·.1) = false := by rfl) :
    DE X W (.Call (.Name x p) (e :: es) [] pos) (eCallG m as) := de_of (pe_callS F hr hg hm hk hb (fun σ => passAt tk σ) ha hdb he hpl) fun σ H Q ⟨ω, h, ds, e1, r, s, p⟩ => by
  subst e1
  refine ⟨ω, h, ds, rfl, r, s, ?_⟩
  cases q : as ds h with
  | ok xs h1 =>
    unfold eCallG at p
    rw [q] at p
    have p' : Post X.K X.mg W σ ω (RelD X.K) Q (m xs h1) := p
    intro vs ω' e' r' rl
    refine ⟨by rw [← rl.len, hl _ _ _ _ q]; exact hn, ω', h1, xs, rfl, r', rl, ?_⟩
    have p2 := Post.mono p' e'
    cases q2 : m xs h1 with
    | ok a h2 => rw [q2] at p2; exact p2
    | ex x fs ds h2 => rw [q2] at p2; exact p2
    | bad => rw [q2] at p2; exact p2
  | ex x' fs ds' h1 =>
    unfold eCallG at p
    rw [q] at p; exact p
  | bad =>
    unfold eCallG at p
    rw [q] at p; exact p
end
/-- how many arguments come -/
theorem aNil_len (ds : Sl) (h : Hc) (xs : List D) (h' : Hc) (e : aNil ds h = .ok xs h') : xs.length = 0 := by
  unfold aNil at e; cases e; rfl
theorem aCons_len {m : SE} {as : SA} {n : Nat} (ih : ∀ ds h xs h', as ds h = .ok xs h' → xs.length = n) (ds : Sl) (h : Hc) (xs : List D) (h' : Hc) (e : aCons m as ds h = .ok xs h') : xs.length = n + 1 := by
  unfold aCons at e
  cases q : m ds h with
  | ok x h1 =>
    rw [q] at e
    simp only [R.bd_ok] at e
    cases q2 : as ds h1 with
    | ok ys h2 =>
      rw [q2] at e
      simp only [R.bd_ok] at e
      cases e
      rw [List.length_cons, ih _ _ _ _ q2]
    | ex _ _ _ _ => rw [q2] at e; cases e
    | bad => rw [q2] at e; cases e
  | ex _ _ _ _ => rw [q] at e; cases e
  | bad => rw [q] at e; cases e
end Mp
/-! LayE: operators, subscripts, built-ins, what is walked: by data. -/
namespace Mp
open PySem PySem.Spec PyProof.Rows L2
section
variable {X : Cx} {K : PySem.W.Frag} {mg : Str → Option Value} {ω ω' : Wo} {h h' : Hc} {d : D} {v : V}
/-! ### what data stands for what -/
theorem rd_int {i : Int} (r : RelD K ω (.int i) v) : v = .int i := by unfold RelD at r; exact r
theorem rd_bl {i : Bool} (r : RelD K ω (.bl i) v) : v = .bl i := by unfold RelD at r; exact r
theorem rd_str {i : Str} (r : RelD K ω (.str i) v) : v = .str i := by unfold RelD at r; exact r
theorem rd_non (r : RelD K ω .non v) : v = .non := by unfold RelD at r; exact r
theorem rd_ty {n : String} (r : RelD K ω (.ty n) v) : v = .ty n := by unfold RelD at r; exact r
theorem int_rd {i : Int} : RelD K ω (.int i) (.int i) := by unfold RelD; rfl
theorem bl_rd {i : Bool} : RelD K ω (.bl i) (.bl i) := by unfold RelD; rfl
theorem str_rd {i : Str} : RelD K ω (.str i) (.str i) := by unfold RelD; rfl
theorem non_rd : RelD K ω .non .non := by unfold RelD; rfl
theorem ty_rd {n : String} : RelD K ω (.ty n) (.ty n) := by unfold RelD; rfl
theorem Post.here {W : WX} {σ : L2.St} {Q : VK} {d : D} (p : Post K mg W σ ω (RelD K) Q (.ok d h)) (r : Rel K ω h) (x : RelD K ω d v) : Q v ω.H := p v ω (Ext.refl _) r x
theorem rd_lst {xs : List D} (r : RelD K ω (.lst xs) v) : ∃ p vs, v = .ref p ∧ ω.H p = some (.lst vs) ∧ RelL K ω xs vs := by
  unfold RelD at r
  obtain ⟨p, vs, e1, e2, e3⟩ := r
  exact ⟨p, vs, e1, e2.1, e3⟩
theorem rd_tup {xs : List D} (r : RelD K ω (.tup xs) v) : ∃ p vs, v = .ref p ∧ SqT K ω.H p vs ∧ RelL K ω xs vs := by
  unfold RelD at r
  obtain ⟨p, vs, e1, e2, e3⟩ := r
  exact ⟨p, vs, e1, e2.1, e3⟩
theorem rd_scr {xs : List D} (r : RelD K ω (.scr xs) v) : ∃ p vs, v = .ref p ∧ SqL K ω.H p vs ∧ RelL K ω xs vs := by
  unfold RelD at r
  obtain ⟨p, vs, e1, e2, e3⟩ := r
  exact ⟨p, vs, e1, e2.sq, e3⟩
theorem rd_cel {xs : List D} {i : Nat} (rr : Rel K ω h) (r : RelD K ω (.ref i) v) (e : h[i]? = some (.lst xs)) : ∃ vs, i < ω.n ∧ v = .ref (ω.β i) ∧ ω.H (ω.β i) = some (.lst vs) ∧ RelL K ω xs vs := by
  unfold RelD at r
  obtain ⟨vs, e2, e3⟩ := rr.cel i _ e
  exact ⟨vs, r.1, r.2, e2, e3⟩
/-- the items of a list that is tracked as such -/
def lstD (h : Hc) : D → Option (List D)
  | .lst xs => some xs
  | .ref i => match h[i]? with
    | some (.lst xs) => some xs
    | _ => none
  | _ => none
theorem lstD_rel {xs : List D} (r : Rel K ω h) (e : lstD h d = some xs) (x : RelD K ω d v) : ∃ p vs, v = .ref p ∧ ω.H p = some (.lst vs) ∧ RelL K ω xs vs := by
  cases d <;> simp [lstD] at e
  · subst e; exact rd_lst x
  · rename_i i
    cases q : h[i]? with
    | none => simp [q] at e
    | some c =>
      cases c with
      | lst ys => simp [q] at e; subst e; obtain ⟨vs, _, e1, e2, e3⟩ := rd_cel r x q; exact ⟨_, vs, e1, e2, e3⟩
      | _ => simp [q] at e
/-- the items of a list that is read -/
def rdlD (h : Hc) : D → Option (List D)
  | .scr xs => some xs
  | d => lstD h d
theorem rdlD_rel {xs : List D} (r : Rel K ω h) (e : rdlD h d = some xs) (x : RelD K ω d v) : ∃ p vs, v = .ref p ∧ SqL K ω.H p vs ∧ RelL K ω xs vs := by
  by_cases hs : ∃ ys, d = .scr ys
  · obtain ⟨ys, rfl⟩ := hs
    simp [rdlD] at e; subst e
    exact rd_scr x
  · have e' : lstD h d = some xs := by
      cases d <;> first | exact e | exact absurd ⟨_, rfl⟩ hs
    obtain ⟨p, vs, e1, e2, e3⟩ := lstD_rel r e' x
    exact ⟨p, vs, e1, .inl (.inl e2), e3⟩
/-! ### ints -/
def iF (c : Int → Int → Bool) (g : Int → Int → D) : D → D → Hc → R D
  | .int i, .int j, h => if c i j = true then .ok (g i j) h else .bad
  | _, _, _ => .bad
theorem opd_i {C : Int → Int → Prop} {c : Int → Int → Bool} {g : Int → Int → D} {gV : Int → Int → V} (hc : ∀ i j, c i j = true → C i j) (hg : ∀ i j (ω : Wo), RelD X.K ω (g i j) (gV i j)) : OpD X (rI C gV) (iF c g) := fun W σ ω h x y v u Q r rx ry p => by
  cases x <;> cases y <;> try exact False.elim p
  rename_i i j
  obtain ⟨hcc, p⟩ := p.if_
  exact ⟨i, j, rd_int rx, rd_int ry, hc i j hcc, p.here r (hg i j ω)⟩
def i0F (g : Int → Int → D) : D → D → Hc → R D
  | .int i, .int j, h => .ok (g i j) h
  | _, _, _ => .bad
@[simp] theorem i0F_int (g : Int → Int → D) (i j : Int) (h : Hc) : i0F g (.int i) (.int j) h = .ok (g i j) h := Eq.trans rfl rfl
@[simp] theorem iF_int (c : Int → Int → Bool) (g : Int → Int → D) (i j : Int) (h : Hc) : iF c g (.int i) (.int j) h = if c i j = true then .ok (g i j) h else .bad := Eq.trans rfl rfl
theorem opd_i0 {g : Int → Int → D} {gV : Int → Int → V} (hg : ∀ i j (ω : Wo), RelD X.K ω (g i j) (gV i j)) : OpD X (rI0 gV) (i0F g) := fun W σ ω h x y v u Q r rx ry p => by
  cases x <;> cases y <;> try exact False.elim p
  exact ⟨_, _, rd_int rx, rd_int ry, p.here r (hg _ _ ω)⟩
/-! ### sums: ints, texts, lists, tuples -/
def addF (x y : D) (h : Hc) : R D := match x, y with
  | .int i, .int j => .ok (.int (i + j)) h
  | .str a, .str b => if a.length + b.length ≤ lim then .ok (.str (a ++ b)) h else .bad
  | .tup xs, .tup ys => if xs.length + ys.length ≤ lim then .ok (.tup (xs ++ ys)) h else .bad
  | x, y => match lstD h x, lstD h y with
    | some xs, some ys => if xs.length + ys.length ≤ lim then .ok (.lst (xs ++ ys)) h else .bad
    | _, _ => .bad
@[simp] theorem addF_int (i j : Int) (h : Hc) : addF (.int i) (.int j) h = .ok (.int (i + j)) h := Eq.trans rfl rfl
def rAddA (K : PySem.W.Frag) : R2 := fun x y H Q => (rI0 fun i j => .int (i + j)) x y H Q ∨ (∃ i j, x = .str i ∧ y = .str j ∧ i.length + j.length ≤ sizeLine ∧ Q (.str (i ++ j)) H) ∨ rCat x y H Q ∨ rCatA K x y H Q
theorem op_addA : OpR X (binaryOp .Add) (rAddA X.K) := op_add.or (op_add_str.or (op_cat.or op_catA))
theorem opd_add : OpD X (rAddA X.K) addF := fun W σ ω h x y v u Q r rx ry p => by
  unfold addF at p
  split at p
  · exact .inl ⟨_, _, rd_int rx, rd_int ry, p.here r int_rd⟩
  · obtain ⟨hl, p⟩ := p.if_
    exact .inr (.inl ⟨_, _, rd_str rx, rd_str ry, lim_le hl, p.here r str_rd⟩)
  · rename_i xs ys
    obtain ⟨hl, p⟩ := p.if_
    obtain ⟨a, vs, e1, e2, e3⟩ := rd_tup rx
    obtain ⟨b, ws, e4, e5, e6⟩ := rd_tup ry
    subst e1; subst e4
    refine .inr (.inr (.inr ⟨a, b, vs, ws, rfl, rfl, e2, e5, by rw [← e3.len, ← e6.len]; exact lim_le hl, fun z => ?_, fun z1 z2 => ?_, fun _ _ q hq => ?_⟩))
    · subst z
      have : xs = [] := List.eq_nil_of_length_eq_zero e3.len
      subst this
      exact p.here r ry
    · subst z2
      have : ys = [] := List.eq_nil_of_length_eq_zero e6.len
      subst this
      rw [List.append_nil] at p
      exact p.here r rx
    · refine p (.ref q) (ω.up q _) (Ext.up hq) (r.up hq) ?_
      unfold RelD
      exact ⟨q, _, rfl, .t upd_same, monoL r (Ext.up hq) _ _ (e3.append e6)⟩
  · split at p
    · rename_i xs ys q1 q2
      obtain ⟨hl, p⟩ := p.if_
      obtain ⟨a, vs, e1, e2, e3⟩ := lstD_rel r q1 rx
      obtain ⟨b, ws, e4, e5, e6⟩ := lstD_rel r q2 ry
      exact .inr (.inr (.inl ⟨a, b, vs, ws, e1, e4, e2, e5, by rw [← e3.len, ← e6.len]; exact lim_le hl, fun q hq => p (.ref q) (ω.up q _) (Ext.up hq) (r.up hq) (fz_new r hq (e3.append e6))⟩))
    · exact False.elim p
abbrev subF := i0F fun i j => .int (i - j)
theorem opd_sub : OpD X (rI0 fun i j => .int (i - j)) subF := opd_i0 fun _ _ _ => int_rd
def mulOk (i j : Int) : Bool := decide (-(2 ^ 64) < i ∧ i < 2 ^ 64) || decide (-(2 ^ 64) < j ∧ j < 2 ^ 64) || decide (i.natAbs.log2 + j.natAbs.log2 < 1000000)
/-- n copies of a list's items -/
def repD (n : Nat) (xs : List D) : List D := (List.replicate n xs).flatten
def mulF (x y : D) (h : Hc) : R D := match x, y with
  | .int i, .int j => if mulOk i j = true then .ok (.int (i * j)) h else .bad
  | x, .int k => match lstD h x with
    | some xs => if k ≤ lim ∧ -lim ≤ k ∧ xs.length * k.toNat ≤ lim then .ok (.lst (repD k.toNat xs)) h else .bad
    | none => .bad
  | _, _ => .bad
@[simp] theorem mulF_int (i j : Int) (h : Hc) : mulF (.int i) (.int j) h = if mulOk i j = true then .ok (.int (i * j)) h else .bad := Eq.trans rfl rfl
def rMulA : R2 := fun x y H Q => (rI CMul fun i j => .int (i * j)) x y H Q ∨ (rI CMulW fun i j => .int (i * j)) x y H Q ∨ rRep x y H Q
theorem op_mulA : OpR X (binaryOp .Mult) rMulA := op_mul.or (op_mulW.or op_rep)
theorem RelL.rep {xs : List D} {vs : List V} (x : RelL K ω xs vs) : ∀ n : Nat, RelL K ω (repD n xs) (List.replicate n vs).flatten
  | 0 => by simpa [repD] using RelL.nil
  | n + 1 => by
    have ih := RelL.rep x n
    unfold repD at ih ⊢
    rw [List.replicate_succ, List.replicate_succ, List.flatten_cons, List.flatten_cons]
    exact x.append ih
theorem opd_mul : OpD X rMulA mulF := fun W σ ω h x y v u Q r rx ry p => by
  unfold mulF at p
  split at p
  · rename_i i j
    obtain ⟨hl, p⟩ := p.if_
    unfold mulOk at hl
    simp only [Bool.or_eq_true, decide_eq_true_eq] at hl
    rcases hl with (hl | hl) | hl
    · exact .inl ⟨_, _, rd_int rx, rd_int ry, .inl hl, p.here r int_rd⟩
    · exact .inl ⟨_, _, rd_int rx, rd_int ry, .inr hl, p.here r int_rd⟩
    · exact .inr (.inl ⟨_, _, rd_int rx, rd_int ry, hl, p.here r int_rd⟩)
  · split at p
    · rename_i k _ _ xs q1
      obtain ⟨⟨h1, h2, h3⟩, p⟩ := p.if_
      obtain ⟨a, vs, e1, e2, e3⟩ := lstD_rel r q1 rx
      have l1 : (lim : Int) = 1000000 := rfl
      exact .inr (.inr ⟨a, k, vs, e1, rd_int ry, e2, by omega, by omega, by rw [← e3.len]; exact lim_le h3, fun q hq => p (.ref q) (ω.up q _) (Ext.up hq) (r.up hq) (fz_new r hq (e3.rep _))⟩)
    · exact False.elim p
  · exact False.elim p
def divOk (j : Int) : Bool := decide (j ≠ 0) && decide (j.natAbs.log2 < 9000)
abbrev fdivF := iF (fun _ j => divOk j) fun i j => .int (i.fdiv j)
theorem op_fdivA : OpR X (binaryOp .FloorDiv) (rI (fun _ j => divOk j = true) fun i j => .int (i.fdiv j)) := opI fun i j _ _ _ _ _ hc q => by
  unfold divOk at hc
  simp only [Bool.and_eq_true, decide_eq_true_eq] at hc
  exact floordiv_int hc.1 q (.inl (PyProof.noPylong_of_log2 hc.2))
theorem opd_fdiv : OpD X (rI (fun _ j => divOk j = true) fun i j => .int (i.fdiv j)) fdivF := opd_i (fun _ _ h => h) fun _ _ _ => int_rd
abbrev modF := iF (fun _ j => decide (0 < j)) fun i j => .int (i % j)
theorem opd_mod : OpD X (rI (fun _ j => 0 < j) fun i j => .int (i % j)) modF := opd_i (fun _ _ h => of_decide_eq_true h) fun _ _ _ => int_rd
abbrev powF := iF (fun i j => decide (0 ≤ j) && decide (j ≤ 1000000) && decide (i.natAbs < 2 ^ 64)) fun i j => .int (i ^ j.toNat)
theorem opd_pow : OpD X (rI CPow fun i j => .int (i ^ j.toNat)) powF := opd_i (fun _ _ h => by simp only [Bool.and_eq_true, decide_eq_true_eq] at h; exact ⟨h.1.1, h.1.2, h.2⟩) fun _ _ _ => int_rd
abbrev shlF := iF (fun i j => decide (0 ≤ j) && decide (j ≤ 1000000) && decide (i.natAbs.log2 < 4096)) fun i j => .int (i * 2 ^ j.toNat)
abbrev shrF := iF (fun _ j => decide (0 ≤ j)) fun i j => .int (i / 2 ^ j.toNat)
abbrev bandF := i0F fun i j => .int (Builtin.bitAnd i j)
abbrev borF := i0F fun i j => .int (Builtin.bitOr i j)
abbrev bxorF := i0F fun i j => .int (Builtin.bitXor i j)
def negF : D → Hc → R D
  | .int i, h => .ok (.int (-i)) h
  | _, _ => .bad
theorem und_neg : UnD X (rU fun i => .int (-i)) negF := fun W σ ω h x v Q r rx p => by
  cases x <;> try exact False.elim p
  exact ⟨_, rd_int rx, p.here r int_rd⟩
/-! ### order -/
def ordF (g : Int → Int → Bool) (gs : List Nat → List Nat → Bool) : D → D → Hc → R D
  | .int i, .int j, h => .ok (.bl (g i j)) h
  | .str a, .str b, h => .ok (.bl (gs a.cps.toList b.cps.toList)) h
  | _, _, _ => .bad
@[simp] theorem ordF_int (g : Int → Int → Bool) (gs : List Nat → List Nat → Bool) (i j : Int) (h : Hc) : ordF g gs (.int i) (.int j) h = .ok (.bl (g i j)) h := Eq.trans rfl rfl
def rOrd (g : Int → Int → Bool) (gs : List Nat → List Nat → Bool) : R2 := fun x y H Q => (rI0 fun i j => .bl (g i j)) x y H Q ∨ ∃ i j, x = .str i ∧ y = .str j ∧ Q (.bl (gs i.cps.toList j.cps.toList)) H
theorem opd_ord {g : Int → Int → Bool} {gs : List Nat → List Nat → Bool} : OpD X (rOrd g gs) (ordF g gs) := fun W σ ω h x y v u Q r rx ry p => by
  cases x <;> cases y <;> try exact False.elim p
  · exact .inl ⟨_, _, rd_int rx, rd_int ry, p.here r bl_rd⟩
  · exact .inr ⟨_, _, rd_str rx, rd_str ry, p.here r bl_rd⟩
abbrev ltF := ordF (fun i j => decide (i < j)) (fun a b => decide (a < b))
abbrev leF := ordF (fun i j => decide (i ≤ j)) (fun a b => !decide (b < a))
abbrev gtF := ordF (fun i j => decide (j < i)) (fun a b => decide (b < a))
abbrev geF := ordF (fun i j => decide (j ≤ i)) (fun a b => !decide (a < b))
theorem op_ltA : OpR X (compareOp .Lt) (rOrd (fun i j => decide (i < j)) (fun a b => decide (a < b))) := op_lt.or op_lt_str
theorem op_leA : OpR X (compareOp .LtE) (rOrd (fun i j => decide (i ≤ j)) (fun a b => !decide (b < a))) := op_le.or op_le_str
theorem op_gtA : OpR X (compareOp .Gt) (rOrd (fun i j => decide (j < i)) (fun a b => decide (b < a))) := op_gt.or op_gt_str
theorem op_geA : OpR X (compareOp .GtE) (rOrd (fun i j => decide (j ≤ i)) (fun a b => !decide (a < b))) := op_ge.or op_ge_str
/-! ### is None -/
def isN : D → Bool
  | .non => true
  | _ => false
theorem isN_rel (r : RelD K ω d v) : decide (v = .non) = isN d := by
  cases d with
  | non => rw [rd_non r]; rfl
  | bl b => rw [rd_bl r]; rfl
  | int b => rw [rd_int r]; rfl
  | str b => rw [rd_str r]; rfl
  | ty b => rw [rd_ty r]; rfl
  | tup b => obtain ⟨p, vs, rfl, _⟩ := rd_tup r; rfl
  | lst b => obtain ⟨p, vs, rfl, _⟩ := rd_lst r; rfl
  | scr b => obtain ⟨p, vs, rfl, _⟩ := rd_scr r; rfl
  | dct ks b => unfold RelD at r; obtain ⟨p, vs, rfl, _⟩ := r; rfl
  | ref i => unfold RelD at r; rw [r.2]; rfl
def isnF (x y : D) (h : Hc) : R D := match y with
  | .non => .ok (.bl (isN x)) h
  | _ => .bad
def notnF (x y : D) (h : Hc) : R D := match y with
  | .non => .ok (.bl (!isN x)) h
  | _ => .bad
theorem opd_isn : OpD X (fun x y H Q => y = .non ∧ Q (.bl (decide (x = .non))) H) isnF := fun W σ ω h x y v u Q r rx ry p => by
  cases y <;> try exact False.elim p
  exact ⟨rd_non ry, by rw [isN_rel rx]; exact p.here r bl_rd⟩
theorem opd_notn : OpD X (fun x y H Q => y = .non ∧ Q (.bl (!decide (x = .non))) H) notnF := fun W σ ω h x y v u Q r rx ry p => by
  cases y <;> try exact False.elim p
  exact ⟨rd_non ry, by rw [isN_rel rx]; exact p.here r bl_rd⟩
/-! ### == -/
mutual
def toPy : D → Option PyData
  | .non => some .none
  | .bl b => some (.bool b)
  | .int i => some (.int i)
  | .str x => some (.str x)
  | .tup xs => (toPyL xs).map .tuple
  | .lst xs => (toPyL xs).map .list
  | .scr xs => (toPyL xs).map .list
  | _ => none
def toPyL : List D → Option (List PyData)
  | [] => some []
  | d :: ds => match toPy d, toPyL ds with
    | some e, some es => some (e :: es)
    | _, _ => none
end
def toPyR (h : Hc) : D → Option PyData
  | .ref i => match h[i]? with
    | some (.lst xs) => (toPyL xs).map .list
    | _ => none
  | d => toPy d
theorem toPy_rel : (∀ d v e, toPy d = some e → RelD K ω d v → Dp K ω.H v e) ∧ ∀ ds vs es, toPyL ds = some es → RelL K ω ds vs → DpAll K ω.H vs es := by
  have cons : ∀ d ds, (∀ v e, toPy d = some e → RelD K ω d v → Dp K ω.H v e) → (∀ vs es, toPyL ds = some es → RelL K ω ds vs → DpAll K ω.H vs es) → ∀ vs es, toPyL (d :: ds) = some es → RelL K ω (d :: ds) vs → DpAll K ω.H vs es := by
    intro d ds ih1 ih2 vs es q x
    obtain ⟨v, ws, rfl, e2, e3⟩ := x.inv
    unfold toPyL at q
    cases q1 : toPy d with
    | none => simp [q1] at q
    | some e =>
      cases q2 : toPyL ds with
      | none => simp [q1, q2] at q
      | some es' => simp [q1, q2] at q; subst q; exact .cons (ih1 _ _ q1 e2) (ih2 _ _ q2 e3)
  have nil : ∀ vs es, toPyL [] = some es → RelL K ω [] vs → DpAll K ω.H vs es := by
    intro vs es q x
    simp [toPyL] at q; subst q
    rw [x.inv0]; exact .nil
  have aux := @D.rec (motive_1 := fun d => ∀ v e, toPy d = some e → RelD K ω d v → Dp K ω.H v e) (motive_2 := fun ds => ∀ vs es, toPyL ds = some es → RelL K ω ds vs → DpAll K ω.H vs es)
    (fun v e q x => by simp [toPy] at q; subst q; rw [rd_non x]; exact .non) (fun b v e q x => by simp [toPy] at q; subst q; rw [rd_bl x]; exact .bl b) (fun b v e q x => by simp [toPy] at q; subst q; rw [rd_int x]; exact .int b) (fun b v e q x => by simp [toPy] at q; subst q; rw [rd_str x]; exact .str b)
    (fun ds ih v e q x => by
      simp only [toPy, Option.map_eq_some_iff] at q
      obtain ⟨es, q1, rfl⟩ := q
      obtain ⟨p, vs, rfl, e2, e3⟩ := rd_tup x
      exact .tup e2 (ih _ _ q1 e3))
    (fun ds ih v e q x => by
      simp only [toPy, Option.map_eq_some_iff] at q
      obtain ⟨es, q1, rfl⟩ := q
      obtain ⟨p, vs, rfl, e2, e3⟩ := rd_lst x
      exact .lst (.inl (.inl e2)) (ih _ _ q1 e3))
    (fun ds ih v e q x => by
      simp only [toPy, Option.map_eq_some_iff] at q
      obtain ⟨es, q1, rfl⟩ := q
      obtain ⟨p, vs, rfl, e2, e3⟩ := rd_scr x
      exact .lst e2 (ih _ _ q1 e3))
    (fun ks ds ih v e q x => by simp [toPy] at q) (fun i v e q x => by simp [toPy] at q) (fun t v e q x => by simp [toPy] at q) nil (fun d ds ih1 ih2 => cons d ds ih1 ih2)
  refine ⟨aux, fun ds => ?_⟩
  induction ds with
  | nil => exact nil
  | cons d ds ih => exact cons d ds (aux d) ih
theorem toPyR_rel {e : PyData} (r : Rel K ω h) (q : toPyR h d = some e) (x : RelD K ω d v) : Dp K ω.H v e := by
  by_cases hs : ∃ i, d = .ref i
  · obtain ⟨i, rfl⟩ := hs
    unfold toPyR at q
    cases q1 : h[i]? with
    | none => simp [q1] at q
    | some c =>
      cases c with
      | lst xs =>
        simp only [q1, Option.map_eq_some_iff] at q
        obtain ⟨es, q2, rfl⟩ := q
        obtain ⟨vs, _, rfl, e2, e3⟩ := rd_cel r x q1
        exact .lst (.inl (.inl e2)) (toPy_rel.2 _ _ _ q2 e3)
      | _ => simp [q1] at q
  · have q' : toPy d = some e := by cases d <;> first | exact q | exact absurd ⟨_, rfl⟩ hs
    exact toPy_rel.1 _ _ _ q' x
def eqG (neg : Bool) (x y : D) (h : Hc) : R D := match x, y with
  | .int i, .int j => .ok (.bl (if neg then !decide (i = j) else decide (i = j))) h
  | .str i, .str j => .ok (.bl (if neg then !decide (i = j) else decide (i = j))) h
  | .bl i, .bl j => .ok (.bl (if neg then !decide (i = j) else decide (i = j))) h
  | .non, .non => .ok (.bl (!neg)) h
  | .non, .int _ => .ok (.bl neg) h
  | .int _, .non => .ok (.bl neg) h
  | .non, .str _ => .ok (.bl neg) h
  | .str _, .non => .ok (.bl neg) h
  | .int _, .str _ => .ok (.bl neg) h
  | .str _, .int _ => .ok (.bl neg) h
  | x, y => match toPyR h x, toPyR h y with
    | some a, some b => if SeqAt.shaped a = true ∧ SeqAt.shaped b = true then .ok (.bl (if neg then !PyData.eqv a b else PyData.eqv a b)) h else .bad
    | _, _ => .bad
abbrev eqF := eqG false
abbrev neF := eqG true
def rEqA (K : PySem.W.Frag) (neg : Bool) : R2 := fun x y H Q => (scal x y = true ∧ Q (.bl (if neg then !decide (x = y) else decide (x = y))) H) ∨ ∃ d e, Dp K H x d ∧ Dp K H y e ∧ SeqAt.shaped d = true ∧ SeqAt.shaped e = true ∧ Q (.bl (if neg then !PyData.eqv d e else PyData.eqv d e)) H
theorem op_eqA (hu : X.A.units + 64 < cLine) : OpR X (compareOp .Eq) (rEqA X.K false) := op_eq.or (op_eqD hu)
theorem op_neA (hu : X.A.units + 64 < cLine) : OpR X (compareOp .NotEq) (rEqA X.K true) := op_ne.or (op_neD hu)
theorem dec_inj {α : Type} [DecidableEq α] {f : α → V} (hf : ∀ a b, f a = f b → a = b) (a b : α) : decide (f a = f b) = decide (a = b) := by
  by_cases e : a = b
  · subst e; simp
  · rw [decide_eq_false e, decide_eq_false fun z => e (hf _ _ z)]
theorem opd_eqA {neg : Bool} : OpD X (rEqA X.K neg) (eqG neg) := fun W σ ω h x y v u Q r rx ry p => by
  unfold eqG at p
  split at p
  · rw [rd_int rx, rd_int ry]
    exact .inl ⟨rfl, by rw [dec_inj (f := V.int) (fun a b e => by cases e; rfl)]; exact p.here r bl_rd⟩
  · rw [rd_str rx, rd_str ry]
    exact .inl ⟨rfl, by rw [dec_inj (f := V.str) (fun a b e => by cases e; rfl)]; exact p.here r bl_rd⟩
  · rw [rd_bl rx, rd_bl ry]
    exact .inl ⟨rfl, by rw [dec_inj (f := V.bl) (fun a b e => by cases e; rfl)]; exact p.here r bl_rd⟩
  · rw [rd_non rx, rd_non ry]
    exact .inl ⟨rfl, by have := p.here r bl_rd; cases neg <;> exact this⟩
  · rw [rd_non rx, rd_int ry]
    exact .inl ⟨rfl, by have := p.here r bl_rd; cases neg <;> exact this⟩
  · rw [rd_int rx, rd_non ry]
    exact .inl ⟨rfl, by have := p.here r bl_rd; cases neg <;> exact this⟩
  · rw [rd_non rx, rd_str ry]
    exact .inl ⟨rfl, by have := p.here r bl_rd; cases neg <;> exact this⟩
  · rw [rd_str rx, rd_non ry]
    exact .inl ⟨rfl, by have := p.here r bl_rd; cases neg <;> exact this⟩
  · rw [rd_int rx, rd_str ry]
    exact .inl ⟨rfl, by have := p.here r bl_rd; cases neg <;> exact this⟩
  · rw [rd_str rx, rd_int ry]
    exact .inl ⟨rfl, by have := p.here r bl_rd; cases neg <;> exact this⟩
  · split at p
    · rename_i a b q1 q2
      obtain ⟨hs, p⟩ := p.if_
      exact .inr ⟨a, b, toPyR_rel r q1 rx, toPyR_rel r q2 ry, hs.1, hs.2, p.here r bl_rd⟩
    · exact False.elim p
/-! ### in: a flat item in a row of flat items; a sign in a text -/
def scalD : D → Bool
  | .non => true
  | .bl _ => true
  | .int _ => true
  | .str _ => true
  | _ => false
def eqS : D → D → Bool
  | .non, .non => true
  | .bl a, .bl b => a == b
  | .bl a, .int b => (if a then 1 else 0) == b
  | .int a, .bl b => a == (if b then 1 else 0)
  | .int a, .int b => a == b
  | .str a, .str b => a == b
  | _, _ => false
theorem scal_rel (hs : scalD d = true) (r : RelD K ω d v) : flatV v = true := by
  cases d <;> simp [scalD] at hs
  · rw [rd_non r]; rfl
  · rw [rd_bl r]; rfl
  · rw [rd_int r]; rfl
  · rw [rd_str r]; rfl
theorem scalL_rel : ∀ {ds : List D} {vs : List V}, ds.all scalD = true → RelL K ω ds vs → vs.all flatV = true
  | [], vs, _, x => by rw [x.inv0]; rfl
  | d :: ds, vs, hs, x => by
    obtain ⟨v, ws, rfl, e2, e3⟩ := x.inv
    simp only [List.all_cons, Bool.and_eq_true] at hs ⊢
    exact ⟨scal_rel hs.1 e2, scalL_rel hs.2 e3⟩
theorem eqS_rel {e : D} {u : V} (hd : scalD d = true) (he : scalD e = true) (r : RelD K ω d v) (r2 : RelD K ω e u) : eqV v u = eqS d e := by
  cases d <;> simp [scalD] at hd <;> cases e <;> simp [scalD] at he
  all_goals first
    | (rw [rd_non r, rd_non r2]; rfl) | (rw [rd_non r, rd_bl r2]; rfl) | (rw [rd_non r, rd_int r2]; rfl) | (rw [rd_non r, rd_str r2]; rfl)
    | (rw [rd_bl r, rd_non r2]; rfl) | (rw [rd_bl r, rd_bl r2]; rfl) | (rw [rd_bl r, rd_int r2]; rfl) | (rw [rd_bl r, rd_str r2]; rfl)
    | (rw [rd_int r, rd_non r2]; rfl) | (rw [rd_int r, rd_bl r2]; rfl) | (rw [rd_int r, rd_int r2]; rfl) | (rw [rd_int r, rd_str r2]; rfl)
    | (rw [rd_str r, rd_non r2]; rfl) | (rw [rd_str r, rd_bl r2]; rfl) | (rw [rd_str r, rd_int r2]; rfl) | (rw [rd_str r, rd_str r2]; rfl)
theorem any_rel {e : D} {u : V} (he : scalD e = true) (r2 : RelD K ω e u) : ∀ {ds : List D} {vs : List V}, ds.all scalD = true → RelL K ω ds vs → inV u vs = ds.any fun y => eqS y e
  | [], vs, _, x => by rw [x.inv0]; rfl
  | d :: ds, vs, hs, x => by
    obtain ⟨v, ws, rfl, e2, e3⟩ := x.inv
    simp only [List.all_cons, Bool.and_eq_true] at hs
    unfold inV
    rw [List.any_cons, List.any_cons, eqS_rel hs.1 he e2 r2]
    have := any_rel he r2 hs.2 e3
    unfold inV at this
    rw [this]
def inG (neg : Bool) (x y : D) (h : Hc) : R D := match x, y with
  | .str a, .str b => match a.cps.toList with
    | [c] => .ok (.bl (if neg then !decide (c ∈ b.cps.toList) else decide (c ∈ b.cps.toList))) h
    | _ => .bad
  | x, y => match seqD h y with
    | some xs => if scalD x = true ∧ xs.all scalD = true then .ok (.bl (if neg then !(xs.any fun y => eqS y x) else xs.any fun y => eqS y x)) h else .bad
    | none => .bad
def rInA (K : PySem.W.Frag) (neg : Bool) : R2 := fun x y H Q => rIn K neg x y H Q ∨ ∃ (c : Nat) (z : Str), x = .str ⟨#[c]⟩ ∧ y = .str z ∧ Q (.bl (if neg then !decide (c ∈ z.cps.toList) else decide (c ∈ z.cps.toList))) H
theorem op_inA : OpR X (compareOp .In) (rInA X.K false) := op_in_seq.or op_in_sign
theorem op_notInA : OpR X (compareOp .NotIn) (rInA X.K true) := op_notIn_seq.or op_notIn_sign
theorem opd_in {neg : Bool} : OpD X (rInA X.K neg) (inG neg) := fun W σ ω h x y v u Q r rx ry p => by
  unfold inG at p
  split at p
  · rename_i a b
    split at p
    · rename_i c q
      refine .inr ⟨c, b, ?_, rd_str ry, p.here r bl_rd⟩
      rw [rd_str rx]
      obtain ⟨⟨l⟩⟩ := a
      have q' : l = [c] := q
      rw [q']
    · exact False.elim p
  · split at p
    · rename_i xs q
      obtain ⟨⟨h1, h2⟩, p⟩ := p.if_
      obtain ⟨a, vs, e1, e2, e3⟩ := seqD_rel r q ry
      refine .inl ⟨a, vs, e1, e2.symm, scal_rel h1 rx, scalL_rel h2 e3, ?_⟩
      rw [any_rel h1 rx h2 e3]
      exact p.here r bl_rd
    · exact False.elim p
/-! ### subscripts -/
def ixF (x y : D) (h : Hc) : R D := match y with
  | .int i => match x with
    | .str z => if z.length ≤ lim then (match atI z.cps.toList i with
      | some c => .ok (.str ⟨#[c]⟩) h
      | none => .bad) else .bad
    | x => match seqD h x with
      | some xs => match atI xs i with
        | some d => .ok d h
        | none => .bad
      | none => .bad
  | _ => .bad
theorem atI_rel {ds : List D} {vs : List V} {i : Int} (x : RelL K ω ds vs) (e : atI ds i = some d) : ∃ v, atI vs i = some v ∧ RelD K ω d v := by
  unfold atI at e ⊢
  rw [← x.len]
  cases q : ixN ds.length i with
  | none => rw [q] at e; cases e
  | some j =>
    rw [q] at e
    exact x.get e
theorem opd_ix : OpD X (rIx X.K) ixF := fun W σ ω h x y v u Q r rx ry p => by
  unfold ixF at p
  split at p
  · rename_i i
    split at p
    · rename_i z
      obtain ⟨hl, p⟩ := p.if_
      split at p
      · rename_i c q
        exact .inr (.inr ⟨z, i, c, rd_str rx, rd_int ry, lim_le hl, q, p.here r str_rd⟩)
      · exact False.elim p
    · split at p
      · rename_i xs q
        split at p
        · rename_i d q2
          obtain ⟨a, vs, e1, e2, e3⟩ := seqD_rel r q rx
          obtain ⟨w, e4, e5⟩ := atI_rel e3 q2
          rcases e2 with e2 | e2
          · exact .inr (.inl ⟨a, vs, i, w, e1, rd_int ry, e2, e4, p.here r e5⟩)
          · exact .inl ⟨a, vs, i, w, e1, rd_int ry, e2, e4, p.here r e5⟩
        · exact False.elim p
      · exact False.elim p
  · exact False.elim p
/-! ### slices -/
def cutD {α : Type} (xs : List α) (lo hi : Option Int) : List α := (xs.drop (HT.sIx xs.length 0 lo)).take (HT.sIx xs.length xs.length hi - HT.sIx xs.length 0 lo)
def slF (x : D) (lo hi : Option Int) (h : Hc) : R D := match x with
  | .tup xs => .ok (.tup (cutD xs lo hi)) h
  | .str z => if z.length ≤ lim then .ok (.str ⟨(cutD z.cps.toList lo hi).toArray⟩) h else .bad
  | x => match rdlD h x with
    | some xs => .ok (.lst (cutD xs lo hi)) h
    | none => .bad
def slC (x : D) (lo hi : Option Int) (h : Hc) : R D := match rdlD h x with
    | some xs => .ok (.ref h.length) (h ++ [.lst (cutD xs lo hi)])
    | none => .bad
def rSlAll (K : PySem.W.Frag) : V → Option Int → Option Int → Hp → VK → Prop := fun x lo hi H Q => rSlA K x lo hi H Q ∨ (∃ z, x = .str z ∧ z.length ≤ sizeLine ∧ Q (.str (cutS z lo hi)) H) ∨ rSlL K x lo hi H Q
theorem sl_all : SlR X (rSlAll X.K) := sl_tupA.or (sl_str.or sl_list)
def optI (m : Option SE) : Sl → Hc → R (Option Int) := fun ds h => match m with
  | none => .ok none h
  | some m => (m ds h).bd fun d h1 => match d with
    | .int i => .ok (some i) h1
    | _ => .bad
def eSl (f : D → Option Int → Option Int → Hc → R D) (m : SE) (lo hi : Option SE) : SE := fun ds h => (m ds h).bd fun x h1 => (optI lo ds h1).bd fun l h2 => (optI hi ds h2).bd fun u h3 => f x l u h3
end
end Mp
/-! LayF: built-in functions, methods, stores, what is walked. -/
namespace Mp
open PySem PySem.Spec PyProof.Rows L2
section
variable {X : Cx} {W : WX} {K : PySem.W.Frag} {mg : Str → Option Value} {ω ω' : Wo} {h h' : Hc} {d : D} {v : V} {e a b : Expr} {es : List Expr} {m ma mb : SE} {as : SA} {pos p : Pos} {x : Str}
/-! ### slices -/
theorem cut_rel {xs : List D} {vs : List V} (x : RelL K ω xs vs) (lo hi : Option Int) : RelL K ω (cutD xs lo hi) (cutV vs lo hi) := by
  unfold cutD cutV
  rw [x.len]
  exact (x.drop _).take _
theorem cut_all {α : Type} (xs : List α) (lo hi : Option Int) (h1 : HT.sIx xs.length 0 lo = 0) (h2 : HT.sIx xs.length xs.length hi = xs.length) : cutD xs lo hi = xs := by
  unfold cutD
  rw [h1, h2]
  simp
def SlD (X : Cx) (r : V → Option Int → Option Int → Hp → VK → Prop) (f : D → Option Int → Option Int → Hc → R D) : Prop :=
  ∀ (W : WX) (σ : L2.St) (ω : Wo) (h : Hc) (x : D) (lo hi : Option Int) (v : V) (Q : VK), Rel X.K ω h → RelD X.K ω x v → Post X.K X.mg W σ ω (RelD X.K) Q (f x lo hi h) → r v lo hi ω.H Q
theorem sld_f : SlD X (rSlAll X.K) slF := fun W σ ω h x lo hi v Q r rx p => by
  unfold slF at p
  split at p
  · rename_i xs
    obtain ⟨a, vs, e1, e2, e3⟩ := rd_tup rx
    subst e1
    refine .inl ⟨a, vs, rfl, e2, fun z => ?_, fun _ q hq => ?_⟩
    · rw [← e3.len] at z
      rw [cut_all xs lo hi z.1 z.2] at p
      exact p.here r rx
    · refine p (.ref q) (ω.up q _) (Ext.up hq) (r.up hq) ?_
      unfold RelD
      exact ⟨q, _, rfl, .t upd_same, monoL r (Ext.up hq) _ _ (cut_rel e3 lo hi)⟩
  · rename_i z
    obtain ⟨hl, p⟩ := p.if_
    exact .inr (.inl ⟨z, rd_str rx, lim_le hl, p.here r str_rd⟩)
  · split at p
    · rename_i xs q
      obtain ⟨a, vs, e1, e2, e3⟩ := rdlD_rel r q rx
      exact .inr (.inr ⟨a, vs, e1, e2, fun q hq => p (.ref q) (ω.up q _) (Ext.up hq) (r.up hq) (fz_new r hq (cut_rel e3 lo hi))⟩)
    · exact False.elim p
abbrev tOI (X : Cx) (W : WX) (m : Option SE) : TO := tOf X.K X.mg W (fun _ a b => a = b) (optI m)
abbrev DO (X : Cx) (W : WX) (e : Option Expr) (m : Option SE) : Prop := PO X e (tOI X W m)
theorem do_none : DO X W none none := ⟨fun pins s σ H Q I q => po_none.run pins s σ H Q I (by
  obtain ⟨ω, h, ds, e1, r, s, p⟩ := q
  subst e1
  exact p _ ω (Ext.refl _) r rfl)⟩
theorem do_some (he : DE X W e m) : DO X W (some e) (some m) := ⟨fun pins s σ H Q I q => (po_some he).run pins s σ H Q I (by
  obtain ⟨ω, h, ds, e1, r, s, p⟩ := q
  subst e1
  refine ⟨ω, h, ds, rfl, r, s, Post.bd (show Post X.K X.mg W σ ω _ Q ((m ds h).bd _) from p) fun d h1 v ω1 e1 r1 d1 p1 => ?_⟩
  split at p1
  · exact ⟨_, rd_int d1, p1 _ ω1 (Ext.refl _) r1 rfl⟩
  · exact False.elim p1)⟩
theorem de_sl {r : V → Option Int → Option Int → Hp → VK → Prop} {f : D → Option Int → Option Int → Hc → R D} {lo hi : Option SE} (h : PE X e (tSl r (tE X W m) (tOI X W lo) (tOI X W hi))) (hd : SlD X r f) : DE X W e (eSl f m lo hi) :=
  de_of h fun σ H Q ⟨ω, h, ds, e1, r, s, p⟩ => by
    subst e1
    exact ⟨ω, h, ds, rfl, r, s, p.bd fun x h1 v ω1 e1 r1 d1 p1 => ⟨ω1, h1, ds, rfl, r1, monoS r e1 s, p1.bd fun l h2 l' ω2 e2 r2 d2 p2 => ⟨ω2, h2, ds, rfl, r2, monoS r (e1.trans e2) s, p2.bd fun u h3 u' ω3 e3 r3 d3 p3 => by
      have d2' : l = l' := d2
      have d3' : u = u' := d3
      subst d2'; subst d3'
      exact hd W σ ω3 h3 x l u v Q r3 (mono r1 (e2.trans e3) _ _ d1) p3⟩⟩⟩
/-! ### built-in functions -/
def CallD (X : Cx) (r : List V → Hp → VK → Prop) (f : List D → Hc → R D) : Prop :=
  ∀ (W : WX) (σ : L2.St) (ω : Wo) (h : Hc) (xs : List D) (vs : List V) (Q : VK), Rel X.K ω h → RelL X.K ω xs vs → Post X.K X.mg W σ ω (RelD X.K) Q (f xs h) → r vs ω.H Q
def eCB (f : List D → Hc → R D) (as : SA) : SE := fun ds h => (as ds h).bd fun xs h1 => f xs h1
theorem de_cb {r : List V → Hp → VK → Prop} {f : List D → Hc → R D} (h : PE X e (tCB r (tA X W as))) (hd : CallD X r f) : DE X W e (eCB f as) := de_of h fun σ H Q ⟨ω, h, ds, e1, r, s, p⟩ => by
  subst e1
  exact ⟨ω, h, ds, rfl, r, s, p.bd fun xs h1 vs ω1 e1 r1 d1 p1 => hd W σ ω1 h1 xs vs Q r1 d1 p1⟩
/-- a dict's keys and values -/
def dctD (h : Hc) : D → Option (List Key × List D)
  | .dct ks ds => some (ks, ds)
  | .ref i => match h[i]? with
    | some (.dct ks ds) => some (ks, ds)
    | _ => none
  | _ => none
theorem dctD_rel {ks : List Key} {ds : List D} (r : Rel K ω h) (e : dctD h d = some (ks, ds)) (x : RelD K ω d v) : ∃ p vs, v = .ref p ∧ ω.H p = some (.dK (ks.zip vs)) ∧ ks.length = vs.length ∧ RelL K ω ds vs := by
  cases d <;> simp [dctD] at e
  · obtain ⟨rfl, rfl⟩ := e
    unfold RelD at x
    obtain ⟨p, vs, e1, e2, e3, e4⟩ := x
    exact ⟨p, vs, e1, e2.1, e3, e4⟩
  · rename_i i
    cases q : h[i]? with
    | none => simp [q] at e
    | some c =>
      cases c with
      | dct ks' ds' =>
        simp [q] at e
        obtain ⟨rfl, rfl⟩ := e
        unfold RelD at x
        obtain ⟨vs, e1, e2, e3⟩ := r.cel i _ q
        exact ⟨_, vs, x.2, e1, e2, e3⟩
      | _ => simp [q] at e
/-- len -/
def lenF (xs : List D) (h : Hc) : R D := match xs with
  | [.str z] => if z.length ≤ lim then .ok (.int z.length) h else .bad
  | [d] => match seqD h d with
    | some ys => .ok (.int ys.length) h
    | none => match dctD h d with
      | some (ks, _) => .ok (.int ks.length) h
      | none => .bad
  | _ => .bad
def rLenA (K : PySem.W.Frag) : List V → Hp → VK → Prop := fun xs H Q => (∃ x n, xs = [x] ∧ LenV K x H n ∧ Q (.int n) H) ∨ ∃ a kvs, xs = [V.ref a] ∧ H a = some (.dK kvs) ∧ Q (.int kvs.length) H
theorem call_lenA : CallR X (.builtin "len") (rLenA X.K) := call_len.or call_lenD
theorem zip_len {ks : List Key} {vs : List V} (e : ks.length = vs.length) : (ks.zip vs).length = ks.length := by rw [List.length_zip, e, Nat.min_self]
theorem cd_len : CallD X (rLenA X.K) lenF := fun W σ ω h xs vs Q r rx p => by
  unfold lenF at p
  split at p
  · rename_i z
    obtain ⟨hl, p⟩ := p.if_
    obtain ⟨v, ws, rfl, e2, e3⟩ := rx.inv
    rw [e3.inv0, rd_str e2]
    exact .inl ⟨_, z.length, rfl, ⟨lim_le hl, rfl⟩, p.here r int_rd⟩
  · obtain ⟨v, ws, rfl, e2, e3⟩ := rx.inv
    rw [e3.inv0]
    split at p
    · rename_i ys q
      obtain ⟨a, us, e1, e4, e5⟩ := seqD_rel r q e2
      refine .inl ⟨v, us.length, rfl, ?_, by rw [← e5.len]; exact p.here r int_rd⟩
      rw [e1]
      exact e4.elim (fun z => .inr ⟨us, z, rfl⟩) fun z => .inl ⟨us, z, rfl⟩
    · split at p
      · rename_i ks ds q
        obtain ⟨a, us, e4, e5, e6, e7⟩ := dctD_rel r q e2
        refine .inr ⟨a, _, by rw [e4], e5, ?_⟩
        rw [zip_len e6]; exact p.here r int_rd
      · exact False.elim p
  · exact False.elim p
/-- isinstance -/
def tyD (h : Hc) : D → Option String
  | .non => some "NoneType"
  | .bl _ => some "bool"
  | .int _ => some "int"
  | .str _ => some "str"
  | .tup _ => some "tuple"
  | .lst _ => some "list"
  | .scr _ => some "list"
  | .dct _ _ => some "dict"
  | .ref i => match h[i]? with
    | some (.lst _) => some "list"
    | some (.dct _ _) => some "dict"
    | _ => none
  | .ty _ => none
theorem tyD_rel {t : String} (r : Rel K ω h) (e : tyD h d = some t) (x : RelD K ω d v) : TyX K ω.H v (.type t) := by
  have tl : ∀ {p : Addr} {vs : List V}, SqL K ω.H p vs → TyX K ω.H (.ref p) (.type "list") := fun z => by
    rcases z with (z | ⟨o, z⟩) | ⟨o, its, n, z1, z2, _⟩
    · exact .base (.lst z)
    · exact .base (.frz z)
    · exact .kList z1 z2
  cases d <;> simp [tyD] at e
  · subst e; rw [rd_non x]; exact .base .non
  · subst e; rw [rd_bl x]; exact .base (.bl _)
  · subst e; rw [rd_int x]; exact .base (.int _)
  · subst e; rw [rd_str x]; exact .base (.str _)
  · subst e
    obtain ⟨p, vs, rfl, z, _⟩ := rd_tup x
    rcases z with (z | ⟨o, z⟩) | ⟨o, its, n, z1, z2, _⟩
    · exact .base (.tup z)
    · exact .fTuple z
    · exact .kTuple z1 z2
  · subst e
    obtain ⟨p, vs, rfl, z, _⟩ := rd_lst x
    exact tl (.inl (.inl z))
  · subst e
    obtain ⟨p, vs, rfl, z, _⟩ := rd_scr x
    exact tl z
  · rename_i ks ds
    subst e
    obtain ⟨p, vs, rfl, z, _⟩ := dctD_rel (d := .dct ks ds) r rfl x
    exact .base (.dK z)
  · rename_i i
    cases q : h[i]? with
    | none => simp [q] at e
    | some c =>
      cases c with
      | lst ys =>
        simp [q] at e; subst e
        obtain ⟨vs, _, rfl, z, _⟩ := rd_cel r x q
        exact tl (.inl (.inl z))
      | dct ks ds =>
        simp [q] at e; subst e
        obtain ⟨p, vs, rfl, z, _⟩ := dctD_rel (d := .ref i) (ks := ks) (ds := ds) r (by simp only [dctD, q]) x
        exact .base (.dK z)
      | _ => simp [q] at e
def tyNames : List String := ["NoneType", "bool", "int", "str", "tuple", "list", "dict"]
def isB (a b : String) : Bool := a == b || (a == "bool" && b == "int")
theorem isB_ok : ∀ a ∈ tyNames, ∀ b ∈ (["bool", "int", "str", "tuple", "list", "dict"] : List String), kitB a b = some (isB a b) := by decide +kernel
theorem tyD_in {t : String} (e : tyD h d = some t) : t ∈ tyNames := by
  cases d <;> simp [tyD] at e <;> try (subst e; decide)
  rename_i i
  cases q : h[i]? with
  | none => simp [q] at e
  | some c => cases c <;> simp [q] at e <;> subst e <;> decide
def tyAsked : List String := ["bool", "int", "str", "tuple", "list", "dict"]
def isF (xs : List D) (h : Hc) : R D := match xs with
  | [x, .ty b] => match tyD h x with
    | some t => if tyAsked.contains b = true then .ok (.bl (isB t b)) h else .bad
    | none => .bad
  | _ => .bad
theorem cd_is : CallD X (rIsi X.K) isF := fun W σ ω h xs vs Q r rx p => by
  unfold isF at p
  split at p
  · rename_i x b
    split at p
    · rename_i t q1
      obtain ⟨hc, p⟩ := p.if_
      obtain ⟨v, ws, rfl, e2, e3⟩ := rx.inv
      obtain ⟨u, ws', rfl, e4, e5⟩ := e3.inv
      rw [e5.inv0]
      exact ⟨v, u, .type t, .type b, isB t b, rfl, by rw [rd_ty e4]; exact .ty b, tyD_rel r q1 e2, kit_ty (isB_ok t (tyD_in q1) b (by simpa [tyAsked] using hc)), p.here r bl_rd⟩
    · exact False.elim p
  · exact False.elim p
/-- isinstance(x, (A, B)) -/
def eIs2 (m : SE) (a b : String) : SE := fun ds h => (m ds h).bd fun x h1 => match tyD h1 x with
  | some t => if tyAsked.contains a = true ∧ tyAsked.contains b = true then .ok (.bl (isB t a || isB t b)) h1 else .bad
  | none => .bad
theorem TyX.up {t : Value} {q : Addr} {o : HO} (hq : ω.H q = none) (x : TyX K ω.H v t) : TyX K (upd ω.H q o) v t := by
  have ne : ∀ {a : Addr} {u : HO}, ω.H a = some u → (upd ω.H q o) a = some u := fun z => by rw [upd_ne (ne_of_none z hq)]; exact z
  cases x with
  | base z =>
    cases z with
    | non => exact .base .non
    | bl b => exact .base (.bl b)
    | int i => exact .base (.int i)
    | str i => exact .base (.str i)
    | flt i => exact .base (.flt i)
    | lst e => exact .base (.lst (ne e))
    | frz e => exact .base (.frz (ne e))
    | tup e => exact .base (.tup (ne e))
    | dK e => exact .base (.dK (ne e))
    | dT e => exact .base (.dT (ne e))
    | ins e a b c d f => exact .base (.ins (ne e) a b c d f)
  | byt b => exact .byt b
  | set e => exact .set (ne e)
  | kList e c => exact .kList e c
  | kTuple e c => exact .kTuple e c
  | kDict e c => exact .kDict e c
  | fTuple e => exact .fTuple (ne e)
  | fDict e => exact .fDict (ne e)
theorem de_is2 {a b : String} {e : Expr} (h : PE X e (tCB (rIsiT X.K) (tCons (tE X W m) (tCons (tTup (tCons (tC (.ty a)) (tCons (tC (.ty b)) tNil))) tNil)))) : DE X W e (eIs2 m a b) := de_of h fun σ H Q ⟨ω, h, ds, e1, r, s, p⟩ => by
  subst e1
  refine ⟨ω, h, ds, rfl, r, s, Post.bd (show Post X.K X.mg W σ ω _ Q ((m ds h).bd _) from p) fun x h1 v ω1 e1 r1 d1 p1 => ?_⟩
  split at p1
  · rename_i t q1
    obtain ⟨⟨ha, hb⟩, p1⟩ := p1.if_
    refine ⟨by show 2 ≤ sizeLine; decide, fun q hq => ⟨v, q, [.ty a, .ty b], .type t, [.type a, .type b], isB t a || isB t b, rfl, upd_same, .cons (.ty a) (.cons (.ty b) .nil), TyX.up hq (tyD_rel r1 q1 d1), ?_, p1 _ (ω1.up q _) (Ext.up hq) (r1.up hq) bl_rd⟩⟩
    have za := kit_ty (K := X.K) (isB_ok t (tyD_in q1) a (by simpa [tyAsked] using ha))
    have zb := kit_ty (K := X.K) (isB_ok t (tyD_in q1) b (by simpa [tyAsked] using hb))
    refine kitAny_cons za (fun z => ?_) fun z => by rw [z]; rfl
    refine kitAny_cons zb (fun z2 => ?_) fun z2 => by rw [z, z2]; rfl
    rw [z, z2]; exact kitAny_nil
  · exact False.elim p1
/-- int -/
def intF (xs : List D) (h : Hc) : R D := match xs with
  | [.int i] => .ok (.int i) h
  | [.bl b] => .ok (.int (if b then 1 else 0)) h
  | _ => .bad
@[simp] theorem intF_int (i : Int) (h : Hc) : intF [.int i] h = .ok (.int i) h := Eq.trans rfl rfl
theorem cd_int : CallD X (fun xs H Q => (∃ i, xs = [.int i] ∧ Q (.int i) H) ∨ ∃ k, xs = [.bl k] ∧ Q (.int (if k then 1 else 0)) H) intF := fun W σ ω h xs vs Q r rx p => by
  unfold intF at p
  split at p
  · obtain ⟨v, ws, rfl, e2, e3⟩ := rx.inv
    rw [e3.inv0, rd_int e2]
    exact .inl ⟨_, rfl, p.here r int_rd⟩
  · obtain ⟨v, ws, rfl, e2, e3⟩ := rx.inv
    rw [e3.inv0, rd_bl e2]
    exact .inr ⟨_, rfl, p.here r int_rd⟩
  · exact False.elim p
/-- math.gcd -/
def gcdF (xs : List D) (h : Hc) : R D := match xs with
  | [.int i, .int j] => .ok (.int ((Nat.gcd i.natAbs j.natAbs : Nat) : Int)) h
  | _ => .bad
/-- tuple(xs), list(xs) -/
def tupleF (xs : List D) (h : Hc) : R D := match xs with
  | [.tup ys] => .ok (.tup ys) h
  | [d] => match rdlD h d with
    | some ys => .ok (.tup ys) h
    | none => .bad
  | _ => .bad
theorem cd_tuple : CallD X (fun xs H Q => ∃ p ys, xs = [.ref p] ∧ ((SqL X.K H p ys ∧ ∀ l, H l = none → Q (.ref l) (upd H l (.tup ys))) ∨ (SqT X.K H p ys ∧ Q (.ref p) H))) tupleF := fun W σ ω h xs vs Q r rx p => by
  unfold tupleF at p
  split at p
  · obtain ⟨v, ws, rfl, e2, e3⟩ := rx.inv
    rw [e3.inv0]
    obtain ⟨a, us, e4, e5, e6⟩ := rd_tup e2
    subst e4
    exact ⟨a, us, rfl, .inr ⟨e5, p.here r e2⟩⟩
  · obtain ⟨v, ws, rfl, e2, e3⟩ := rx.inv
    rw [e3.inv0]
    split at p
    · rename_i ys q
      obtain ⟨a, us, e4, e5, e6⟩ := rdlD_rel r q e2
      subst e4
      refine ⟨a, us, rfl, .inl ⟨e5, fun l hl => p (.ref l) (ω.up l _) (Ext.up hl) (r.up hl) ?_⟩⟩
      unfold RelD
      exact ⟨l, _, rfl, .t upd_same, monoL r (Ext.up hl) _ _ e6⟩
    · exact False.elim p
  · exact False.elim p
def listF (xs : List D) (h : Hc) : R D := match xs with
  | [d] => match seqD h d with
    | some ys => .ok (.lst ys) h
    | none => .bad
  | _ => .bad
def listC (xs : List D) (h : Hc) : R D := match xs with
  | [d] => match seqD h d with
    | some ys => .ok (.ref h.length) (h ++ [.lst ys])
    | none => .bad
  | _ => .bad
/-- sum, all, any of a list -/
def intsD : List D → Option (List Int)
  | [] => some []
  | .int i :: r => (intsD r).map (i :: ·)
  | _ :: _ => none
def blsD : List D → Option (List Bool)
  | [] => some []
  | .bl i :: r => (blsD r).map (i :: ·)
  | _ :: _ => none
def strsD : List D → Option (List Str)
  | [] => some []
  | .str i :: r => (strsD r).map (i :: ·)
  | _ :: _ => none
theorem intsD_eq : ∀ {ds : List D} {ns : List Int}, intsD ds = some ns → ds = ns.map D.int
  | [], ns, e => by simp [intsD] at e; subst e; rfl
  | d :: ds, ns, e => by
    cases d <;> simp [intsD] at e
    obtain ⟨a, e1, rfl⟩ := e
    rw [intsD_eq e1]; rfl
theorem blsD_eq : ∀ {ds : List D} {ns : List Bool}, blsD ds = some ns → ds = ns.map D.bl
  | [], ns, e => by simp [blsD] at e; subst e; rfl
  | d :: ds, ns, e => by
    cases d <;> simp [blsD] at e
    obtain ⟨a, e1, rfl⟩ := e
    rw [blsD_eq e1]; rfl
theorem strsD_eq : ∀ {ds : List D} {ns : List Str}, strsD ds = some ns → ds = ns.map D.str
  | [], ns, e => by simp [strsD] at e; subst e; rfl
  | d :: ds, ns, e => by
    cases d <;> simp [strsD] at e
    obtain ⟨a, e1, rfl⟩ := e
    rw [strsD_eq e1]; rfl
/-- one list of ints (bools), and what is made of it -/
def lF {α : Type} (get : List D → Option (List α)) (g : List α → D) (xs : List D) (h : Hc) : R D := match xs with
  | [d] => match rdlD h d with
    | some ys => match get ys with
      | some ns => .ok (g ns) h
      | none => .bad
    | none => .bad
  | _ => .bad
abbrev sumF := lF intsD fun ns => .int ns.sum
abbrev allF := lF blsD fun bs => .bl (bs.all id)
abbrev anyF := lF blsD fun bs => .bl (bs.any id)
theorem lF_get {α : Type} {get : List D → Option (List α)} {g : List α → D} {xs : List D} {vs : List V} {Q : VK} {σ : L2.St} (r : Rel X.K ω h) (rx : RelL X.K ω xs vs) (p : Post X.K X.mg W σ ω (RelD X.K) Q (lF get g xs h)) :
    ∃ a us ys ns, vs = [.ref a] ∧ SqL X.K ω.H a us ∧ get ys = some ns ∧ RelL X.K ω ys us ∧ Post X.K X.mg W σ ω (RelD X.K) Q (.ok (g ns) h) := by
  unfold lF at p
  split at p
  · obtain ⟨v, ws, rfl, e2, e3⟩ := rx.inv
    rw [e3.inv0]
    split at p
    · rename_i ys q
      split at p
      · rename_i ns q2
        obtain ⟨a, us, e4, e5, e6⟩ := rdlD_rel r q e2
        subst e4
        exact ⟨a, us, ys, ns, rfl, e5, q2, e6, p⟩
      · exact False.elim p
    · exact False.elim p
  · exact False.elim p
theorem cd_all : CallD X (rAll X.K) allF := fun W σ ω h xs vs Q r rx p => by
  obtain ⟨a, us, ys, ns, rfl, e1, e2, e3, p⟩ := lF_get r rx p
  rw [blsD_eq e2] at e3
  rw [e3.bls] at e1
  exact ⟨a, ns, rfl, e1, p.here r bl_rd⟩
/-! ### methods of lists -/
def MtD (X : Cx) (T : String) (r : V → List V → Hp → VK → Prop) (f : D → List D → Hc → R D) : Prop :=
  ∀ (W : WX) (σ : L2.St) (ω : Wo) (h : Hc) (x : D) (xs : List D) (v : V) (vs : List V) (Q : VK), Rel X.K ω h → RelD X.K ω x v → RelL X.K ω xs vs → Post X.K X.mg W σ ω (RelD X.K) Q (f x xs h) → r v vs ω.H Q
/-- of which type the receiver is, as it is read ahead of the arguments -/
def kindOk (h : Hc) (T : String) (x : D) : Bool := if T == "str" then (match x with | .str _ => true | _ => false) else if T == "list" then (rdlD h x).isSome else if T == "dict" then (dctD h x).isSome else false
theorem kindOk_rel {T : String} (r : Rel K ω h) (e : kindOk h T d = true) (x : RelD K ω d v) : tyV K T v ω.H := by
  unfold kindOk at e
  split at e
  · rename_i ht
    have ht' : T = "str" := by simpa using ht
    subst ht'
    cases d <;> simp at e
    rw [rd_str x]; rfl
  · split at e
    · rename_i ht
      have ht' : T = "list" := by simpa using ht
      subst ht'
      obtain ⟨ys, q⟩ := Option.isSome_iff_exists.mp e
      obtain ⟨a, us, rfl, e5, e6⟩ := rdlD_rel r q x
      exact .inl ⟨rfl, us, e5⟩
    · split at e
      · rename_i ht
        have ht' : T = "dict" := by simpa using ht
        subst ht'
        obtain ⟨⟨ks, ds⟩, q⟩ := Option.isSome_iff_exists.mp e
        obtain ⟨a, us, rfl, e5, e6⟩ := dctD_rel r q x
        exact .inr (.inr (.inl ⟨rfl, .inl ⟨_, e5⟩⟩))
      · cases e
def eBM (T : String) (f : D → List D → Hc → R D) (m : SE) (as : SA) : SE := fun ds h => (m ds h).bd fun x h1 => if kindOk h1 T x = true then (as ds h1).bd fun xs h2 => f x xs h2 else .bad
def eBM0 (T : String) (f : D → List D → Hc → R D) (m : SE) : SE := fun ds h => (m ds h).bd fun x h1 => if kindOk h1 T x = true then f x [] h1 else .bad
theorem de_bm {T : String} {r : V → List V → Hp → VK → Prop} {f : D → List D → Hc → R D} (h : PE X e (tBM X.K T r (tE X W m) (tA X W as))) (hd : MtD X T r f) : DE X W e (eBM T f m as) := de_of h fun σ H Q ⟨ω, h, ds, e1, r, s, p⟩ => by
  subst e1
  refine ⟨ω, h, ds, rfl, r, s, Post.bd (show Post X.K X.mg W σ ω _ Q ((m ds h).bd _) from p) fun x h1 v ω1 e1 r1 d1 p1 => ?_⟩
  obtain ⟨hk, p1⟩ := p1.if_
  exact ⟨kindOk_rel r1 hk d1, ω1, h1, ds, rfl, r1, monoS r e1 s, p1.bd fun xs h2 vs ω2 e2 r2 d2 p2 => hd W σ ω2 h2 x xs v vs Q r2 (mono r1 e2 _ _ d1) d2 p2⟩
/-- xs.append(d) -/
def appF (x : D) (as : List D) (h : Hc) : R D := match x, as with
  | .ref i, [d] => match h[i]? with
    | some (.lst xs) => if xs.length < lim then .ok .non (h.set i (.lst (xs ++ [d]))) else .bad
    | _ => .bad
  | _, _ => .bad
theorem put_lst {i : Nat} {xs ys : List D} {vs : List V} (r : Rel K ω h) (q : h[i]? = some (.lst xs)) (y : RelL K ω ys vs) :
    Ext ω (ω.up (ω.β i) (.lst vs)) ∧ Rel K (ω.up (ω.β i) (.lst vs)) (h.set i (.lst ys)) := by
  have hi : i < ω.n := by rw [r.n]; exact (List.getElem?_eq_some_iff.mp q).1
  obtain ⟨_, ho, _⟩ := r.cel i _ q
  have e := Ext.put (o := .lst vs) hi ho
  exact ⟨e, r.put hi ho ⟨vs, upd_same, monoL r e _ _ y⟩⟩
theorem md_app : MtD X "list" rAppend appF := fun W σ ω h x xs v vs Q r rx ry p => by
  unfold appF at p
  split at p
  · rename_i i d
    split at p
    · rename_i ys q
      obtain ⟨hl, p⟩ := p.if_
      obtain ⟨us, hi, rfl, e2, e3⟩ := rd_cel r rx q
      obtain ⟨u, ws, rfl, e4, e5⟩ := ry.inv
      rw [e5.inv0]
      obtain ⟨e, r'⟩ := put_lst r q (e3.append (RelL.cons e4 RelL.nil))
      exact ⟨_, us, u, rfl, rfl, e2, by rw [← e3.len]; exact lim_lt hl, p _ _ e r' non_rd⟩
    · exact False.elim p
  · exact False.elim p
/-- xs.pop() -/
def popF (x : D) (as : List D) (h : Hc) : R D := match x, as with
  | .ref i, [] => match h[i]? with
    | some (.lst xs) => match xs[xs.length - 1]? with
      | some d => .ok d (h.set i (.lst xs.dropLast))
      | none => .bad
    | _ => .bad
  | _, _ => .bad
/-! ### stores -/
def SetD (X : Cx) (r : TSet) (f : D → D → D → Hc → Option Hc) : Prop :=
  ∀ (ω : Wo) (h h' : Hc) (o i x : D) (ov iv v : V) (Q : Hp → Prop), Rel X.K ω h → RelD X.K ω o ov → RelD X.K ω i iv → RelD X.K ω x v → f o i x h = some h' → (∀ ω', Ext ω ω' → Rel X.K ω' h' → Q ω'.H) → r ov iv v ω.H Q
def setF (o i x : D) (h : Hc) : Option Hc := match o, i with
  | .ref j, .int k => match h[j]? with
    | some (.lst xs) => (ixN xs.length k).map fun n => h.set j (.lst (xs.set n x))
    | _ => none
  | _, _ => none
theorem sd_set : SetD X rSetL setF := fun ω h h' o i x ov iv v Q r ro ri rx e q => by
  unfold setF at e
  split at e
  · rename_i j k
    split at e
    · rename_i xs q1
      rw [Option.map_eq_some_iff] at e
      obtain ⟨n, e1, rfl⟩ := e
      obtain ⟨us, hj, rfl, e2, e3⟩ := rd_cel r ro q1
      obtain ⟨ex, r'⟩ := put_lst r q1 (RelL.set rx n e3)
      exact ⟨_, us, k, n, rfl, rd_int ri, e2, by rw [← e3.len]; exact e1, q _ ex r'⟩
    · cases e
  · cases e
def sPut (f : D → D → D → Hc → Option Hc) (me mo mi : SE) : SS := fun ds h => sBd (me ds h) ds fun x h1 => sBd (mo ds h1) ds fun o h2 => sBd (mi ds h2) ds fun i h3 => match f o i x h3 with
  | some h4 => .nx ds h4
  | none => .bad
theorem ds_put {o i e : Expr} {me mo mi : SE} {r : TSet} {f : D → D → D → Hc → Option Hc} {p' : Pos} (h : PS X (.Assign [.Subscript o i p'] e pos) (tAsg (tE X W me) (gSub (tE X W mo) (tE X W mi) r))) (hd : SetD X r f) : DS X W (.Assign [.Subscript o i p'] e pos) (sPut f me mo mi) :=
  ds_of h fun E σ H ⟨ω, h, ds, e1, r, s, p⟩ => by
    subst e1
    refine ⟨ω, h, ds, rfl, r, s, PostO.bd r s p fun x h1 v ω1 e1 r1 d1 s1 p1 => ⟨ω1, h1, ds, rfl, r1, s1, PostO.bd r1 s1 p1 fun o h2 u ω2 e2 r2 d2 s2 p2 => ⟨ω2, h2, ds, rfl, r2, s2, PostO.bd r2 s2 p2 fun i h3 w ω3 e3 r3 d3 s3 p3 => ?_⟩⟩⟩
    cases q : f o i x h3 with
    | none => rw [q] at p3; exact False.elim p3
    | some h4 =>
      rw [q] at p3
      exact hd ω3 h3 h4 o i x u w v _ r3 (mono r2 e3 _ _ d2) d3 (mono r1 (e2.trans e3) _ _ d1) q fun ω4 e4 r4 => p3 σ ω4 e4 r4 (monoS r3 e4 s3)
/-- x op= e -/
def sAug (i : Nat) (f : D → D → Hc → R D) (me : SE) : SS := fun ds h => match ds[i]? with
  | some (some x) => sBd ((me ds h).bd fun y h1 => f x y h1) ds fun z h2 => .nx (ds.set i (some z)) h2
  | _ => .bad
theorem ds_aug {st : Stmt} {i : Nat} {me : SE} {r : R2} {f : D → D → Hc → R D} (h : PS X st (tAug i (tE X W me) r)) (hd : OpD X r f) : DS X W st (sAug i f me) := ds_of h fun E σ H ⟨ω, h, ds, e1, r, s, p⟩ => by
  subst e1
  unfold sAug at p
  split at p
  · rename_i x q
    obtain ⟨v, e2, rx⟩ := s.2 i x q
    refine ⟨v, e2, ω, h, ds, rfl, r, s, ?_⟩
    have p' : Post X.K X.mg W σ ω (RelD X.K) (fun z H2 => E.nx (σ.set i (some z)) H2) ((me ds h).bd fun y h1 => f x y h1) := PostO.bd r s p fun z h2 w ω2 e2 r2 d2 s2 p2 => p2 _ ω2 (Ext.refl _) r2 (s2.set i d2)
    exact p'.bd fun y h1 u ω1 e1 r1 d1 p1 => hd W σ ω1 h1 x y v u _ r1 (mono r e1 _ _ rx) d1 p1
  · exact False.elim p
/-! ### what is walked -/
mutual
/-- equality of data, to be reckoned -/
def eqDD : D → D → Bool
  | .non, .non => true
  | .bl a, .bl b => a == b
  | .int a, .int b => decide (a = b)
  | .str a, .str b => decide (a = b)
  | .ty a, .ty b => decide (a = b)
  | .tup a, .tup b => eqDL a b
  | .lst a, .lst b => eqDL a b
  | .scr a, .scr b => eqDL a b
  | .dct k a, .dct l b => decide (k = l) && eqDL a b
  | .ref a, .ref b => decide (a = b)
  | _, _ => false
def eqDL : List D → List D → Bool
  | [], [] => true
  | a :: r, b :: s => eqDD a b && eqDL r s
  | _, _ => false
end
mutual
theorem eqDD_eq : ∀ (a b : D), eqDD a b = true → a = b
  | .non, b, h => by cases b <;> simp [eqDD] at h ⊢
  | .bl x, b, h => by cases b <;> simp [eqDD] at h ⊢; exact h
  | .int x, b, h => by cases b <;> simp [eqDD] at h ⊢; exact h
  | .str x, b, h => by cases b <;> simp [eqDD] at h ⊢; exact h
  | .ty x, b, h => by cases b <;> simp [eqDD] at h ⊢; exact h
  | .tup x, b, h => by cases b <;> simp [eqDD] at h ⊢; exact eqDL_eq _ _ h
  | .lst x, b, h => by cases b <;> simp [eqDD] at h ⊢; exact eqDL_eq _ _ h
  | .scr x, b, h => by cases b <;> simp [eqDD] at h ⊢; exact eqDL_eq _ _ h
  | .dct k x, b, h => by cases b <;> simp [eqDD] at h ⊢; exact ⟨h.1, eqDL_eq _ _ h.2⟩
  | .ref x, b, h => by cases b <;> simp [eqDD] at h ⊢; exact h
theorem eqDL_eq : ∀ (a b : List D), eqDL a b = true → a = b
  | [], b, h => by cases b <;> simp [eqDL] at h ⊢
  | x :: r, b, h => by
    cases b with
    | nil => simp [eqDL] at h
    | cons y s =>
      simp [eqDL] at h
      rw [eqDD_eq _ _ h.1, eqDL_eq _ _ h.2]
end
mutual
theorem eqDD_self : ∀ (a : D), eqDD a a = true
  | .non => by unfold eqDD; rfl
  | .bl x => by unfold eqDD; simp
  | .int x => by unfold eqDD; simp
  | .str x => by unfold eqDD; simp
  | .ty x => by unfold eqDD; simp
  | .tup x => by unfold eqDD; exact eqDL_self x
  | .lst x => by unfold eqDD; exact eqDL_self x
  | .scr x => by unfold eqDD; exact eqDL_self x
  | .dct k x => by unfold eqDD; simp [eqDL_self x]
  | .ref x => by unfold eqDD; simp
theorem eqDL_self : ∀ (a : List D), eqDL a a = true
  | [] => by unfold eqDL; rfl
  | x :: r => by unfold eqDL; simp [eqDD_self x, eqDL_self r]
end
/-- the sequence is as it was -/
def chkQ (d : D) (xs : List D) : Hc → Bool := fun h' => match seqD h' d with
  | some ys => eqDL ys xs
  | none => false
theorem chkQ_spec {d : D} {xs : List D} {h' : Hc} (e : chkQ d xs h' = true) : seqD h' d = some xs := by
  unfold chkQ at e
  split at e
  · rename_i ys q
    rw [q, eqDL_eq _ _ e]
  · cases e
theorem chkQ_of {d : D} {xs : List D} {h' : Hc} (e : seqD h' d = some xs) : chkQ d xs h' = true := by
  unfold chkQ
  rw [e]
  exact eqDL_self xs
/-- a sequence -/
def iSeq (m : SE) : SI := fun ds h => (m ds h).bd fun d h1 => match seqD h1 d with
  | some xs => .ok ⟨xs, chkQ d xs⟩ h1
  | none => .bad
theorem itOk_list {xs : List D} {a : Addr} (r : Rel K ω h) (x : RelD K ω d (.ref a)) (hs : ∀ h', seqD h' d = some xs → rdlD h' d = some xs) : ItOk K ω ⟨xs, chkQ d xs⟩ (Itl K a) := fun i ω' h' e r' hk => by
  replace hk : seqD h' d = some xs := chkQ_spec (show chkQ d xs h' = true from hk)
  obtain ⟨p, vs, e1, e2, e3⟩ := rdlD_rel r' (hs h' hk) (mono r e _ _ x)
  cases e1
  refine ⟨fun d hd => ?_, fun hn => ⟨vs, e2, ?_⟩⟩
  · obtain ⟨v, e4, e5⟩ := e3.get hd
    refine ⟨⟨vs, v, e2, e4⟩, fun y H' ⟨e6, e7⟩ => ⟨ω', e6.symm, Ext.refl _, r', ?_⟩⟩
    have := e7 vs e2
    rw [e4] at this
    cases this
    exact e5
  · rw [← e3.len]; exact List.getElem?_eq_none_iff.mp hn
theorem itOk_tup {xs : List D} {a : Addr} (r : Rel K ω h) (x : RelD K ω (.tup xs) (.ref a)) : ItOk K ω ⟨xs, chkQ (.tup xs) xs⟩ (Itt K a) := fun i ω' h' e r' hk => by
  replace hk : seqD h' (.tup xs) = some xs := chkQ_spec (show chkQ (.tup xs) xs h' = true from hk)
  obtain ⟨p, vs, e1, e2, e3⟩ := rd_tup (mono r e _ _ x)
  cases e1
  refine ⟨fun d hd => ?_, fun hn => ⟨vs, e2, ?_⟩⟩
  · obtain ⟨v, e4, e5⟩ := e3.get hd
    refine ⟨⟨vs, v, e2, e4⟩, fun y H' ⟨e6, e7⟩ => ⟨ω', e6.symm, Ext.refl _, r', ?_⟩⟩
    have := e7 vs e2
    rw [e4] at this
    cases this
    exact e5
  · rw [← e3.len]; exact List.getElem?_eq_none_iff.mp hn
def isTup : D → Bool
  | .tup _ => true
  | _ => false
theorem rdl_of_seq {xs : List D} (hn : isTup d = false) (e : seqD h d = some xs) : rdlD h d = some xs := by
  cases d <;> simp [isTup] at hn <;> first | exact e | (simp [seqD] at e)
theorem di_seq {tg : Expr} (he : DE X W e m) : DI X W tg e (iSeq m) := di_of (pi_or (pi_list he) (pi_tup he)) fun σ H R ⟨ω, h, ds, e1, r, s, p⟩ => by
  subst e1
  have p' : Post X.K X.mg W σ ω (ItOk X.K) R ((m ds h).bd fun d h1 => match seqD h1 d with
    | some xs => .ok ⟨xs, chkQ d xs⟩ h1
    | none => .bad) := p
  cases q : m ds h with
  | ok d h1 =>
    by_cases ht : isTup d = true
    · refine .inr ⟨ω, h, ds, rfl, r, s, ?_⟩
      rw [q]
      intro v ω1 e1 r1 d1
      rw [q] at p'
      cases d <;> simp [isTup] at ht
      rename_i xs
      obtain ⟨a, vs, rfl, e4, e5⟩ := rd_tup d1
      exact ⟨a, rfl, ⟨vs, e4⟩, (show Post X.K X.mg W σ ω (ItOk X.K) R (.ok ⟨xs, chkQ (.tup xs) xs⟩ h1) from p') _ ω1 e1 r1 (itOk_tup r1 d1)⟩
    · have ht' : isTup d = false := by simpa using ht
      refine .inl ⟨ω, h, ds, rfl, r, s, ?_⟩
      rw [q]
      intro v ω1 e1 r1 d1
      rw [q] at p'
      simp only [Mp.R.bd_ok] at p'
      split at p'
      · rename_i xs q2
        obtain ⟨a, vs, rfl, e4, e5⟩ := rdlD_rel r1 (rdl_of_seq ht' q2) d1
        exact ⟨a, rfl, ⟨vs, e4⟩, p' _ ω1 e1 r1 (itOk_list r1 d1 fun h' z => rdl_of_seq ht' z)⟩
      · exact False.elim p'
  | ex x fs vs h1 =>
    refine .inl ⟨ω, h, ds, rfl, r, s, ?_⟩
    rw [q] at p' ⊢; exact p'
  | bad => rw [q] at p'; exact False.elim p'
/-- range -/
def upFrom (lo : Int) (n : Nat) : List D := (List.range n).map fun (i : Nat) => D.int (lo + (i : Int))
def iRg1 (as : SA) : SI := fun ds h => (as ds h).bd fun xs h1 => match xs with
  | [.int j] => if -(2 ^ 62) ≤ j ∧ j < 2 ^ 62 then .ok ⟨upFrom 0 j.toNat, fun _ => true⟩ h1 else .bad
  | _ => .bad
def iRg2 (as : SA) : SI := fun ds h => (as ds h).bd fun xs h1 => match xs with
  | [.int i, .int j] => if -(2 ^ 62) ≤ i ∧ i < 2 ^ 62 ∧ -(2 ^ 62) ≤ j ∧ j < 2 ^ 62 then .ok ⟨upFrom i (j - i).toNat, fun _ => true⟩ h1 else .bad
  | _ => .bad
theorem itOk_rng {lo : Int} {n : Nat} : ItOk K ω ⟨upFrom lo n, fun _ => true⟩ (Itr lo n) := fun i ω' h' e r' hk => by
  unfold upFrom
  refine ⟨fun d hd => ?_, fun hn => ?_⟩
  · by_cases hi : i < n
    · have : d = .int (lo + (i : Int)) := by
        simp [List.getElem?_map, List.getElem?_range hi] at hd
        exact hd.symm
      subst this
      refine ⟨hi, fun y H' ⟨e6, e7⟩ => ⟨ω', e6.symm, Ext.refl _, r', ?_⟩⟩
      rw [e7]; exact int_rd
    · rw [List.getElem?_map, List.getElem?_eq_none (by simpa using Nat.not_lt.mp hi)] at hd; cases hd
  · simp only [List.getElem?_map, Option.map_eq_none_iff, List.getElem?_eq_none_iff, List.length_range] at hn
    exact hn
theorem di_rg1 {tg : Expr} (h : PI X tg e (iRng1 (tA X W as))) : DI X W tg e (iRg1 as) := di_of h fun σ H R ⟨ω, h, ds, e1, r, s, p⟩ => by
  subst e1
  refine ⟨ω, h, ds, rfl, r, s, Post.bd (show Post X.K X.mg W σ ω _ R ((as ds h).bd _) from p) fun xs h1 vs ω1 e1 r1 d1 p1 => ?_⟩
  split at p1
  · rename_i j
    obtain ⟨hc, p1⟩ := p1.if_
    obtain ⟨v, ws, rfl, e2, e3⟩ := d1.inv
    rw [e3.inv0, rd_int e2]
    exact ⟨j, rfl, hc.1, hc.2, p1 _ ω1 (Ext.refl _) r1 itOk_rng⟩
  · exact False.elim p1
theorem di_rg2 {tg : Expr} (h : PI X tg e (iRng2 (tA X W as))) : DI X W tg e (iRg2 as) := di_of h fun σ H R ⟨ω, h, ds, e1, r, s, p⟩ => by
  subst e1
  refine ⟨ω, h, ds, rfl, r, s, Post.bd (show Post X.K X.mg W σ ω _ R ((as ds h).bd _) from p) fun xs h1 vs ω1 e1 r1 d1 p1 => ?_⟩
  split at p1
  · rename_i i j
    obtain ⟨hc, p1⟩ := p1.if_
    obtain ⟨v, ws, rfl, e2, e3⟩ := d1.inv
    obtain ⟨v', ws', rfl, e4, e5⟩ := e3.inv
    rw [e5.inv0, rd_int e2, rd_int e4]
    exact ⟨i, j, rfl, hc, p1 _ ω1 (Ext.refl _) r1 itOk_rng⟩
  · exact False.elim p1
end
end Mp
/-! LayG: truth, defs as they stand behind the top, the end. -/
namespace Mp
open PySem PySem.Spec PyProof.Rows L2
section
variable {X : Cx} {W : WX} {K : PySem.W.Frag} {mg : Str → Option Value} {ω ω' : Wo} {h h' : Hc} {d : D} {v : V} {e a b : Expr} {es : List Expr} {m ma mb : SE} {as : SA} {pos p : Pos} {x : Str}
/-! ### truth -/
def truD (h : Hc) : D → Option Bool
  | .non => some false
  | .bl b => some b
  | .int i => some (i != 0)
  | .str z => if z.length ≤ lim then some ((z.length : Int) != 0) else none
  | d => match seqD h d with
    | some xs => some (!xs.isEmpty)
    | none => match dctD h d with
      | some (ks, _) => some (!ks.isEmpty)
      | none => none
theorem emp_len {α β : Type} : ∀ {xs : List α} {ys : List β}, xs.length = ys.length → xs.isEmpty = ys.isEmpty
  | [], [], _ => rfl
  | [], _ :: _, e => by simp at e
  | _ :: _, [], e => by simp at e
  | _ :: _, _ :: _, _ => rfl
theorem truD_rel {k : Bool} (r : Rel K ω h) (e : truD h d = some k) (x : RelD K ω d v) : TruV K v ω.H k := by
  have go : ∀ d, RelD K ω d v → (match seqD h d with
    | some xs => some (!xs.isEmpty)
    | none => match dctD h d with
      | some (ks, _) => some (!ks.isEmpty)
      | none => none) = some k → TruV K v ω.H k := by
    intro d x e
    split at e
    · rename_i xs q
      cases e
      obtain ⟨a, us, rfl, e4, e5⟩ := seqD_rel r q x
      rcases e4 with e4 | e4
      · exact .inr (.inl ⟨us, e4, by rw [emp_len e5.len]⟩)
      · exact .inl ⟨us, e4, by rw [emp_len e5.len]⟩
    · split at e
      · rename_i ks ds q
        cases e
        obtain ⟨a, us, rfl, e5, e6, e7⟩ := dctD_rel r q x
        exact .inr (.inr ⟨_, e5, by rw [emp_len (zip_len e6)]⟩)
      · cases e
  cases d with
  | non => simp only [truD, Option.some.injEq] at e; rw [rd_non x]; exact (show k = false from e.symm)
  | bl b => simp only [truD, Option.some.injEq] at e; rw [rd_bl x]; exact (show k = b from e.symm)
  | int i => simp only [truD, Option.some.injEq] at e; rw [rd_int x]; exact (show k = (i != 0) from e.symm)
  | str z =>
    simp only [truD] at e
    by_cases hl : z.length ≤ lim
    · rw [if_pos hl] at e; cases e; rw [rd_str x]; exact ⟨lim_le hl, rfl⟩
    · rw [if_neg hl] at e; cases e
  | tup xs => exact go _ x e
  | lst xs => exact go _ x e
  | scr xs => exact go _ x e
  | dct ks xs => exact go _ x e
  | ref i => exact go _ x e
  | ty t => exact go _ x e
def bTru (m : SE) : SB := fun ds h => (m ds h).bd fun x h1 => match truD h1 x with
  | some b => .ok b h1
  | none => .bad
theorem dt_tru (ha : DE X W e m) (he : ∀ whole, isTrue e X.env whole = (do let v ← whole; standAt e.pos; holding [v] (truthy v)) := by intro _; rfl) : DT X W e (bTru m) :=
  dt_of (pt_truth ha he) fun σ H Q ⟨ω, h, ds, e1, r, s, p⟩ => by
    subst e1
    refine ⟨ω, h, ds, rfl, r, s, Post.bd (show Post X.K X.mg W σ ω _ Q ((m ds h).bd _) from p) fun x h1 v ω1 e1 r1 d1 p1 => ?_⟩
    split at p1
    · rename_i b q
      exact ⟨b, truD_rel r1 q d1, p1 b ω1 (Ext.refl _) r1 rfl⟩
    · exact False.elim p1
end
/-! ### a def of the text -/
def DefAt (K : PySem.W.Frag) (mg : Str → Option Value) (x qual : Str) (st : Stmt) (ps : List Str) : Prop := ∃ (f : Addr) (fd : FuncData), mg x = some (.ref f) ∧ Fun K x qual st f fd ∧ Binds K fd ps []
/-- a def that is as its data function says -/
def Good (P : Program) (w : World) (K : PySem.W.Frag) (mg : Str → Option Value) (base : Heap) (x : Str) (k : Nat) (ps : List Str) (m : Fn) : Prop :=
  ∃ (f : Addr) (fd : FuncData), mg x = some (.ref f) ∧ PySem.W.keepIn K (.ref f) = true ∧ Binds K fd ps [] ∧ (∃ oc od sl, K.lookup f = some ⟨oc, od, .func fd, sl⟩) ∧ FnOk P w K mg base (L2.CX P w) k f fd ps (spD K mg ps.length m)
section
variable {P : Program} {w : World} {K : PySem.W.Frag} {mg : Str → Option Value} {base : Heap} {x qual : Str} {st : Stmt} {ps N : List Str} {k j : Nat} {m : SS}
theorem fun_lk {f : Addr} {fd : FuncData} (F : Fun K x qual st f fd) : ∃ oc od sl, K.lookup f = some ⟨oc, od, .func fd, sl⟩ := by
  obtain ⟨oc, od, kV, doc, pm, an, cdv, ct, osl, rfl, lk, hcd⟩ := F.ex
  exact ⟨oc, od, osl, lk⟩
abbrev DefX (P : Program) (w : World) (K : PySem.W.Frag) (mg : Str → Option Value) (base : Heap) (N : List Str) (qual : Str) (st : Stmt) (f : Addr) (cdv : Value) (A : Around) (outer : List Env) (s : Shared) (H : Hp) (E : XK) : Cx := cxOf (L2.CX P w) P w K mg base N qual (defScope st) f cdv A outer s H E
theorem DefAt.good (D : DefAt K mg x qual st ps) (S : FnScope N ps (defScope st))
    (hb : ∀ (f : Addr) (cdv : Value) (A : Around) (outer : List Env) (s : Shared) (H : Hp) (E : XK), Room k (DefX P w K mg base N qual st f cdv A outer s H E).A → DSs (DefX P w K mg base N qual st f cdv A outer s H E) (WF E) (defBody st) m) :
    Good P w K mg base x (k + 1) ps (runB N.length m) := by
  obtain ⟨f, fd, g, F, b⟩ := D
  exact ⟨f, fd, g, F.kp, b, fun_lk F, fn_ok F S fun cdv A outer s H E hr => hb f cdv A outer s H E hr⟩
/-- nothing is claimed -/
theorem DefAt.none (D : DefAt K mg x qual st ps) (S : FnScope N ps (defScope st)) : Good P w K mg base x 1 ps (fun _ _ => .bad) := by
  obtain ⟨f, fd, g, F, b⟩ := D
  refine ⟨f, fd, g, F.kp, b, fun_lk F, (fn_ok (k := 0) (m := sBad) F S fun cdv A outer s H E hr => ⟨fun pins s σ H E I ⟨ω, h, ds, e1, r, s', p⟩ => False.elim p⟩).imp fun vs H Q E z => ?_⟩
  obtain ⟨_, ω, h, ds, _, _, _, p⟩ := z
  exact False.elim p
theorem Good.mono {m : Fn} (G : Good P w K mg base x j ps m) (h : j ≤ k) : Good P w K mg base x k ps m := by
  obtain ⟨f, fd, g, kp, b, lk, F⟩ := G
  exact ⟨f, fd, g, kp, b, lk, F.mono h⟩
end
section
variable {X : Cx} {W : WX} {e : Expr} {es : List Expr} {as : SA} {m : Fn} {pos p : Pos} {x : Str} {ps : List Str} {k : Nat}
theorem dc (tk : Takes X W) (G : Good X.prog X.w X.K X.mg X.base x k ps m) (hr : Room k X.A) (hg : Gl X x) (hn : (e :: es).length = ps.length) (hl : ∀ ds h xs h', as ds h = .ok xs h' → xs.length = (e :: es).length) (ha : DA X W (e :: es) as)
    (hdb : (x == ("__debug__" : Str)) = false := by decide) (he : starEach (e :: es) X.env = (false, eval e X.env) :: starEach es X.env := by rfl) (hpl : (backTo pos (starEach es X.env)).any (·.1) = false := by rfl) : DE X W (.Call (.Name x p) (e :: es) [] pos) (eCall m as) := by
  obtain ⟨f, fd, g, kp, b, _, F⟩ := G
  exact de_call tk F hr hg g kp b hn hl ha hdb he hpl
/-- a value of the top: d stands for it in every world -/
def TopVal (K : PySem.W.Frag) (mg : Str → Option Value) (x : Str) (d : D) : Prop := ∃ (u : Value) (v : V), mg x = some u ∧ RelV v u ∧ ∀ ω : Wo, RelD K ω d v
theorem de_top {d : D} (hg : Gl X x) (T : TopVal X.K X.mg x d) (hd : (x == ("__debug__" : Str)) = false := by decide) : DE X W (.Name x pos) (eC d) := by
  obtain ⟨u, v, h1, h2, h3⟩ := T
  exact de_c (pe_glob hg h1 h2 hd) h3
/-- a built-in type as a value -/
theorem de_bty {n : String} (hg : Gl X x) (hm : X.mg x = none) (hv : bootBuiltins x = some (.type n)) (hn : x ≠ "__name__" := by decide) (hd : (x == ("__debug__" : Str)) = false := by decide) : DE X W (.Name x pos) (eC (.ty n)) :=
  de_c (v := .ty n) (pe_bltn hg hm hv (show RelV (.ty n) (.type n) from rfl) hn hd) fun _ => ty_rd
end
section
variable {X : Cx} {W : WX} {K : PySem.W.Frag} {mg : Str → Option Value} {ω ω' : Wo} {h h' : Hc} {d : D} {v : V} {e a b : Expr} {es : List Expr} {m ma mb : SE} {as : SA} {pos : Pos}
theorem hu_of64 {k : Nat} (hr : Room k X.A) : X.A.units + 64 < cLine := by have := hr.un; omega
/-! ### targets, comprehensions, as they are printed -/
theorem dgsC {p : Pt} {ps : List Pt} (h1 : DG X e p) (h2 : DGs X es ps) (h : PG X e (tP X.K p) → PGs X es (tPs X.K ps) → PGs X (e :: es) (gCons (tP X.K p) (tPs X.K ps))) : DGs X (e :: es) (p :: ps) := dgs_cons h1 h2 (h h1 h2)
theorem dgT {k : Nat} {ps : List Pt} (hc : X.calm = true) (h : DGs X es ps) (h1 : PGs X es (tPs X.K ps) → PG X (.Tuple es k pos) (gTup X.K ps.length (tPs X.K ps))) (h2 : PGs X es (tPs X.K ps) → PG X (.Tuple es k pos) (gLst X.K ps.length (tPs X.K ps))) : DG X (.Tuple es k pos) (.t ps) := dg_t hc h (h1 h) (h2 h)
theorem dts_nil : PTs X [] (tT X W (fun _ h => .ok true h)) := ⟨fun pins s σ H Q I q => pts_nil.run pins s σ H Q I (by
  obtain ⟨ω, h, ds, e1, r, s, p⟩ := q
  subst e1
  exact p _ ω (Ext.refl _) r rfl)⟩
theorem dts_one {t : SB} (h : DT X W e t) : PTs X [e] (tT X W t) := pts_one h
theorem ds_setLc {i : Nat} {st : Stmt} {mi : SI} {p : Pt} {own : List Nat} {c : SB} (ho : ∀ i ∈ p.slots, i ∈ own) (h : PS X st (tAsg (tLc (tI X W mi) (tP X.K p) (tT X W0 c) (tE X W0 m) own) (gName i))) : DS X W st (sSet i (eLc mi p own c m)) := ds_of h fun E σ H ⟨ω, h, ds, e1, r, s, q⟩ => by
  subst e1
  refine lcW (W := W) (fin := fun xs h => .ok (.lst xs) h) ho lc_fz σ ω.H _ ⟨ω, h, ds, rfl, r, s, ?_⟩
  exact PostO.bd r s q fun d h1 v ω' e r1 rd s1 p1 => p1 _ ω' (Ext.refl _) r1 (s1.set i rd)
/-- x, y = a, b -/
def sPar (i j : Nat) (as : SA) : SS := fun ds h => sBd (as ds h) ds fun xs h1 => match xs with
  | [x, y] => .nx ((ds.set i (some x)).set j (some y)) h1
  | _ => .bad
abbrev addI := i0F fun i j => .int (i + j)
theorem opd_addI : OpD X (rI0 fun i j => .int (i + j)) addI := opd_i0 fun _ _ _ => int_rd
abbrev mulI := iF (fun i j => decide (-(2 ^ 64) < i ∧ i < 2 ^ 64) || decide (-(2 ^ 64) < j ∧ j < 2 ^ 64)) fun i j => .int (i * j)
end
/-! ### the end -/
/-- the script: a list that is locked or written, or one of the caller's own -/
def scD (b : Bool) (xs : List D) : D := if b = true then .scr xs else .lst xs
def spTrue (K : PySem.W.Frag) : Sp := fun vs H Q _ => ∃ (a : Addr) (ns : List Int), vs = [.ref a] ∧ TabsK K H ∧ SqL K H a (ns.map V.int) ∧ ns.length ≤ 63 ∧ ∀ H', Q (.bl true) H'
theorem scr_rel {K : PySem.W.Frag} {H : Hp} {a : Addr} {ns : List Int} (h : SqL K H a (ns.map V.int)) : ∃ b, RelD K ⟨fun _ => False, fun _ => 0, 0, H⟩ (scD b (ns.map D.int)) (.ref a) := by
  rcases h with (h | ⟨o, h⟩) | h
  · refine ⟨false, ?_⟩
    show RelD K _ (.lst (ns.map D.int)) (.ref a)
    unfold RelD
    exact ⟨a, _, rfl, ⟨h, fun z => z⟩, RelL.of_ints ns⟩
  · refine ⟨true, ?_⟩
    show RelD K _ (.scr (ns.map D.int)) (.ref a)
    unfold RelD
    exact ⟨a, _, rfl, .inl ⟨o, h⟩, RelL.of_ints ns⟩
  · refine ⟨true, ?_⟩
    show RelD K _ (.scr (ns.map D.int)) (.ref a)
    unfold RelD
    exact ⟨a, _, rfl, .inr h, RelL.of_ints ns⟩
/-- the law's promise from its data function -/
theorem law_sp {K : PySem.W.Frag} {mg : Str → Option Value} {m : Fn} (hm : ∀ (b : Bool) (ns : List Int), ns.length ≤ 63 → ∃ h, m [scD b (ns.map D.int)] [] = .ok (.bl true) h) {vs : List V} {H : Hp} {Q : VK} {E : XK} (h : spTrue K vs H Q E) : spD K mg 1 m vs H Q E := by
  obtain ⟨a, ns, rfl, hO, hS, hl, q⟩ := h
  obtain ⟨b, hb⟩ := scr_rel hS
  obtain ⟨h', e⟩ := hm b ns hl
  refine ⟨rfl, ⟨fun _ => False, fun _ => 0, 0, H⟩, [], [scD b (ns.map D.int)], rfl, ⟨rfl, fun i j hi => absurd hi (Nat.not_lt_zero _), fun i hi => absurd hi (Nat.not_lt_zero _), fun q z => False.elim z, fun i c hi => by simp at hi, hO⟩, RelL.cons hb RelL.nil, ?_⟩
  rw [e]
  intro v ω' _ _ rv
  rw [rd_bl rv]
  exact q _
/-- the law's own code object and its table, and those of the other defs that make lambdas -/
structure LawTab (K : PySem.W.Frag) (mg : Str → Option Value) (base : Heap) (c P : Addr) : Prop where
  tb : LamX.TabB base mg c P
  ht : PySem.W.tabIn K "law" = some (c, P)
  more : ∀ x ∈ lamNames, ∀ c' P', PySem.W.tabIn K x = some (c', P') → LamX.TabB base mg c' P'
end Mp
/-! LayH: min, max, lcm; what is walked with its number. -/
namespace Mp
open PySem PySem.Spec PyProof.Rows L2
/-! ### enumerate of a tuple -/
theorem enumB1 {v : Value} {ob : Obj} {Z : Heap → Prop} (B : Begins v ob Z) :
    Meets (Builtin.«enumerate.__new__» ⟨[.type "enumerate", v], []⟩) (fun _ R z => Z z.heap ∧
      R (.ok (.ret (.ref (z.heap.push ob).objs.size))) { z with heap := (z.heap.push ob).push { cls := .type "enumerate", data := .fields #[.none, .bool false, .ref z.heap.objs.size, rawInt 0, .none, .none] } }) :=
  .of_wp fun prog w A R z q => by
    obtain ⟨hp, gg, dd, tk, oo⟩ := z
    obtain ⟨q1, q2⟩ := q
    have hsub := sub_enumerate
    have go : ∀ {A' : Around} {E' : Value → Shared → Prop} {Q' : Value → Shared → Prop}, Q' (.ref hp.objs.size) ⟨hp.push ob, gg, dd, tk, oo⟩ → wpAny (model prog w) A' (pyIter v) Q' E' ⟨hp, gg, dd, tk, oo⟩ :=
      fun x => B.iter prog w _ _ ⟨hp, gg, dd, tk, oo⟩ _ q1 x
    wp_walk
    refine wpAny_stack_any fun _ => wpAny_pure ?_
    split
    · rename_i c _ _ _ _ _
      cases (c == Value.type "enumerate") <;> (wp_walk using go; exact ⟨_, rfl, q2⟩)
    · wp_walk using go
      exact ⟨_, rfl, q2⟩
theorem enum_one {prog : Program} {w : World} {A : Around} {E : Value → Shared → Prop} {z : Shared} {v : Value} {ob : Obj} {Z : Heap → Prop} {Q : Value → Shared → Prop} (B : Begins v ob Z) (q1 : Z z.heap)
    (q : ∀ h2, IsEnum h2 (z.heap.objs.size + 1) z.heap.objs.size 0 .none → h2.get? z.heap.objs.size = some ob → (∀ b u, z.heap.get? b = some u → h2.get? b = some u) → Q (.ref (z.heap.objs.size + 1)) { z with heap := h2 }) :
    wpAny (model prog w) A (call (.type "enumerate") [v]) Q E z := by
  refine callType_new F.called_enumerate (by decide) (F.typeCall_enumerate_1 _) (F.newCall_enumerate_1 _) (fun b => F.args_object_init_2 b _) F.entry_enumerate_new (enumB1 B) ⟨q1, ?_⟩
  have sz : (z.heap.push ob).objs.size = z.heap.objs.size + 1 := Heap.size_push ..
  show _ ∧ _
  rw [sz]
  have he : IsEnum ((z.heap.push ob).push { cls := .type "enumerate", data := .fields #[.none, .bool false, .ref z.heap.objs.size, rawInt 0, .none, .none] }) (z.heap.objs.size + 1) z.heap.objs.size 0 .none := by
    have e := Heap.get?_push_size (z.heap.push ob) (o := { cls := .type "enumerate", data := .fields #[.none, .bool false, .ref z.heap.objs.size, rawInt 0, .none, .none] }) rfl
    rw [sz] at e; exact e
  exact ⟨⟨_, he, rfl⟩, q _ he (Heap.get?_push_of_some _ (Heap.get?_push_size _ B.free)) fun b u x => Heap.get?_push_of_some _ (Heap.get?_push_of_some _ x)⟩
/-- the tuple at a, each item in a new pair -/
def ItE (K : PySem.W.Frag) (a : Addr) : It where
  go i H := ∃ (xs : List V) (x : V), SqT K H a xs ∧ xs[i]? = some x
  yld i H v H' := ∃ T x, v = .ref T ∧ H T = none ∧ H' = upd H T (.tup [.int (i : Nat), x]) ∧ ∀ xs, SqT K H a xs → xs[i]? = some x
  stop i H := ∃ xs : List V, SqT K H a xs ∧ xs.length ≤ i
theorem turn_enT {P : Program} {w : World} {K : PySem.W.Frag} {elts : List Expr} {kk : Nat} {tpos : Pos} (a e it : Addr) (hai : a ≠ it) (hae : e ≠ a) :
    Turn P w K (.Tuple elts kk tpos) (ItE K a) [e, it] e (fun i g => (∃ old, IsEnum g e it ((i : Nat) : Int) old) ∧ g.IsTupleIter it a i ∧ e ≠ it) where
  mem := by simp
  obj := fun i g st b hb => by
    obtain ⟨⟨old, he⟩, ⟨u, hu, hc, hd⟩, _⟩ := st
    have z : b = e ∨ b = it := by simpa using hb
    rcases z with rfl | rfl
    · exact ⟨_, he, fun v q => nomatch q⟩
    · exact ⟨u, hu, fun v q => by rw [hd] at q; cases q⟩
  keep := fun i g g' st k => by
    obtain ⟨⟨old, he⟩, hi, hne⟩ := st
    exact ⟨⟨old, k e (by simp) _ he⟩, hi.at fun u q => k it (by simp) u q, hne⟩
  item := by
    intro X hP hw hK hc i pins s σ H E I hf st hg
    subst hP hw hK
    obtain ⟨⟨old, he⟩, hit, hne⟩ := st
    obtain ⟨xs, x, hq, hx⟩ := hg
    obtain ⟨its, rv, p, _⟩ := I.tuple hq
    obtain ⟨u, hu, ru⟩ := rv.get hx
    have lte : e < s.heap.objs.size := Heap.lt_size he
    have lti : it < s.heap.objs.size := by obtain ⟨_, q, _⟩ := hit; exact Heap.lt_size q
    have hlt : i < its.toArray.size := by
      have := (List.getElem?_eq_some_iff.mp hu).1
      simpa using this
    refine wpAny_pyNext_enum_itemD (Draws.tuple (prog := X.prog) (w := X.w) (A := X.A.in1) (show X.A.in1.handled = none from I.ok.hd hc) it a hai its.toArray) he ⟨hit, p⟩ hlt hne (by simp [hne, hae]) fun y h1 tk py ho st1 hT hsz hk => ?_
    have ey : y = u := by
      have : its.toArray[i]? = some u := by simpa using hu
      rw [this] at py; exact (Option.some.inj py).symm
    subst ey
    refine ⟨_, rfl, wpAny_letOwnedTupleGo_enum (s := { s with heap := h1, toks := tk + 1 }) ho fun h2 he2 sb => ?_⟩
    have hT2 := (sb.2 s.heap.objs.size (Nat.ne_of_gt lte)).trans hT
    have new : ObjOk X.prog X.w (upd H s.heap.objs.size (.tup [.int (i : Nat), x])) h2 s.heap.objs.size (.tup [.int (i : Nat), x]) := by
      refine ⟨by show 2 ≤ sizeLine; decide, [.int i tk, y], .cons ⟨_, rfl⟩ (.cons ru .nil), ?_⟩
      exact ⟨_, hT2, rfl, _, rfl⟩
    have I1 : Inv X pins σ (upd H s.heap.objs.size (.tup [.int (i : Nat), x])) { s with heap := h2, toks := tk + 1 } :=
      I.turnedNew (ch := [e, it]) (fun b ob hb q => by
        have n1 : b ≠ e := fun z => hb (by simp [z])
        have n2 : b ≠ it := fun z => hb (by simp [z])
        exact (sb.2 b n1).trans (hk b ob n1 n2 q)) hf (Nat.le_refl _) new
    refine ⟨.ref s.heap.objs.size, _, I1, rfl, ⟨_, x, rfl, I.hok.fresh (Nat.le_refl _), rfl, fun ys hy => by rw [I.tuple_inj hy hq]; exact hx⟩, ⟨⟨y, ?_⟩, st1.1.at fun u q => (sb.2 it (Ne.symm hne)).trans q, hne⟩, fun b hb => ?_⟩
    · have z : ((i + 1 : Nat) : Int) = (i : Int) + 1 := by omega
      rw [z]; exact he2
    · have z : b = e ∨ b = it := by simpa using hb
      have lb : b < s.heap.objs.size := by
        rcases z with rfl | rfl
        · exact lte
        · exact lti
      rw [upd_ne (Nat.ne_of_lt lb)]
      exact (hf b hb).1
  done := by
    intro X hP hw hK hc i pins s σ H E I hf st hg
    subst hP hw hK
    obtain ⟨⟨old, he⟩, hit, hne⟩ := st
    obtain ⟨xs, hq, hx⟩ := hg
    obtain ⟨its, rv, p, _⟩ := I.tuple hq
    obtain ⟨f0, f1, f2, f3, f4, f5⟩ := hf it (by simp)
    have hl := rv.length
    have D : Draws X.prog X.w X.A.in1 it [it, a] i (fun _ _ => True) (fun j g => j = i ∧ g.IsTupleIter it a i ∧ g.IsTuple a its.toArray) := {
      live := fun j g st2 => by
        obtain ⟨_, ⟨u, hu, _⟩, _⟩ := st2
        exact ⟨u, hu⟩
      frame := fun j g g' st2 k => ⟨st2.1, st2.2.1.at fun u q => k it (by simp) u q, st2.2.2.at fun u q => k a (by simp) u q⟩
      item := fun j s2 Q2 E2 hj st2 hQ2 => absurd st2.1 (Nat.ne_of_lt hj)
      done := fun s2 Q2 E2 st2 hE2 => wpAny_nextOf_tuple_end (show X.A.in1.handled = none from I.ok.hd hc) st2.2.1 st2.2.2 (by simp; omega) hE2 }
    exact wpAny_pyNext_enum_endD D he ⟨rfl, hit, p⟩ fun h1 eb => ⟨rfl, I.turned (t' := s.toks) (fun b u hb q => eb b u hb q) f0 f1 f3 f4 f5⟩
  self := fun A i s Q E st q => by
    obtain ⟨⟨old, he⟩, _⟩ := st
    exact wpAny_pyIter_enum he q
/-- enumerate of a list or of a tuple -/
def iEnB (K : PySem.W.Frag) (ta : TA) : TI := fun σ H R => ta σ H fun vs H1 => ∃ a xs, vs = [.ref a] ∧ ((SqL K H1 a xs ∧ R (Ite K a) H1) ∨ (SqT K H1 a xs ∧ R (ItE K a) H1))
theorem pi_enB {X : Cx} {e : Expr} {ta : TA} {p pos tpos : Pos} {elts : List Expr} {kk : Nat} (hg : Gl X "enumerate") (hm : X.mg "enumerate" = none) (ha : PA X [e] ta) (st : starEach [e] X.env = [(false, eval e X.env)] := by rfl) :
    PI X (.Tuple elts kk tpos) (.Call (.Name "enumerate" p) [e] [] pos) (iEnB X.K ta) := by
  refine ⟨fun pins s σ H R I q => ?_⟩
  refine Call_ (ld_blt I hg hm boot_enumerate (PyProof.Rows.callWith_type1 (thn (ha.run pos pins s σ H _ I q) fun us s1 ⟨vs, H1, I1, r1, q1⟩ => ?_) st rfl))
  obtain ⟨a, xs, rfl, q1⟩ := q1
  obtain ⟨u, rfl, r⟩ := vals1 r1
  cases r
  have fresh : ∀ b ∈ [s1.heap.objs.size + 1, s1.heap.objs.size], FpOk X pins H1 b := fun b hb => by
    have hle : s1.heap.objs.size ≤ b := by
      simp only [List.mem_cons, List.not_mem_nil, or_false] at hb
      omega
    exact I1.fpOk hle (I1.hok.fresh hle)
  rcases q1 with ⟨hq, q⟩ | ⟨hq, q⟩
  · obtain ⟨its, rv, p1, _⟩ := I1.list hq
    refine call_enumerate_list p1.isList fun h2 he hit _ hk => wpAny_pyIter_enum he ?_
    exact ⟨s1.heap.objs.size + 1, [s1.heap.objs.size + 1, s1.heap.objs.size], _, _, H1, rfl, I1.kept (t' := s1.toks) hk, turn_enum a (s1.heap.objs.size + 1) s1.heap.objs.size, ⟨⟨.none, he⟩, hit, Nat.succ_ne_self _⟩, fresh, q⟩
  · obtain ⟨its, rv, p1, _⟩ := I1.tuple hq
    have lta : a < s1.heap.objs.size := by
      obtain ⟨u, hu, _⟩ := id p1
      exact Heap.lt_size hu
    have ne1 : a ≠ s1.heap.objs.size := Nat.ne_of_lt lta
    have ne2 : s1.heap.objs.size + 1 ≠ a := fun z => Nat.lt_irrefl a (Nat.lt_of_lt_of_le lta (z ▸ Nat.le_succ _))
    refine enum_one (begins_tuple a its.toArray) p1 fun h2 he ho hk => wpAny_pyIter_enum he ?_
    have hit : h2.IsTupleIter s1.heap.objs.size a 0 := ⟨_, ho, rfl, rfl⟩
    exact ⟨s1.heap.objs.size + 1, [s1.heap.objs.size + 1, s1.heap.objs.size], _, _, H1, rfl, I1.kept (t' := s1.toks) hk, turn_enT a (s1.heap.objs.size + 1) s1.heap.objs.size ne1 ne2, ⟨⟨.none, he⟩, hit, Nat.succ_ne_self _⟩, fresh, q⟩
/-- each item with its number -/
def enumD : Nat → List D → List D
  | _, [] => []
  | n, x :: r => .tup [.int n, x] :: enumD (n + 1) r
theorem enumD_get : ∀ (n : Nat) (xs : List D) (i : Nat), (enumD n xs)[i]? = (xs[i]?).map fun x => .tup [.int ((n + i : Nat) : Int), x]
  | n, [], i => by simp [enumD]
  | n, x :: r, 0 => by simp [enumD]
  | n, x :: r, i + 1 => by
    unfold enumD
    rw [List.getElem?_cons_succ, List.getElem?_cons_succ, enumD_get (n + 1) r i]
    have : n + 1 + i = n + (i + 1) := by omega
    rw [this]
def enF (xs : List D) (h : Hc) : R ItD := match xs with
  | [d] => match seqD h d with
    | some ys => .ok ⟨enumD 0 ys, chkQ d ys⟩ h
    | none => .bad
  | _ => .bad
def iEnu (as : SA) : SI := fun ds h => (as ds h).bd enF
theorem pairUp {K : PySem.W.Frag} {ω : Wo} {h : Hc} {T : Addr} {x y : D} {v w : V} (r : Rel K ω h) (hT : ω.H T = none) (rx : RelD K ω x v) (ry : RelD K ω y w) :
    ∃ ω2, ω2.H = upd ω.H T (.tup [v, w]) ∧ Ext ω ω2 ∧ Rel K ω2 h ∧ RelD K ω2 (.tup [x, y]) (.ref T) := by
  refine ⟨ω.up T (.tup [v, w]), rfl, Ext.up hT, r.up hT, ?_⟩
  unfold RelD
  exact ⟨T, _, rfl, .t upd_same, monoL r (Ext.up hT) _ _ (.cons rx (.cons ry .nil))⟩
section
variable {K : PySem.W.Frag} {ω : Wo} {h : Hc} {d : D}
theorem itOk_enL {xs : List D} {a : Addr} (r : Rel K ω h) (x : RelD K ω d (.ref a)) (hs : ∀ h', seqD h' d = some xs → rdlD h' d = some xs) : ItOk K ω ⟨enumD 0 xs, chkQ d xs⟩ (Ite K a) := fun i ω' h' e r' hk => by
  replace hk : seqD h' d = some xs := chkQ_spec (show chkQ d xs h' = true from hk)
  obtain ⟨p, vs, e1, e2, e3⟩ := rdlD_rel r' (hs h' hk) (mono r e _ _ x)
  cases e1
  refine ⟨fun y hd => ?_, fun hn => ⟨vs, e2, ?_⟩⟩
  · rw [enumD_get] at hd
    cases q : xs[i]? with
    | none => rw [q] at hd; cases hd
    | some y0 =>
      rw [q] at hd
      simp only [Option.map_some, Option.some.injEq] at hd
      subst hd
      obtain ⟨v, e4, e5⟩ := e3.get q
      refine ⟨⟨vs, v, e2, e4⟩, fun w H' ⟨T, w0, ew, hT, eH, e7⟩ => ?_⟩
      have := e7 vs e2
      rw [e4] at this
      cases this
      obtain ⟨ω2, f1, f2, f3, f4⟩ := pairUp (x := .int ((0 + i : Nat) : Int)) r' hT (int_rd (i := ((0 + i : Nat) : Int))) e5
      subst ew
      refine ⟨ω2, ?_, f2, f3, f4⟩
      rw [eH, f1, Nat.zero_add]
  · rw [enumD_get] at hn
    rw [← e3.len]; exact List.getElem?_eq_none_iff.mp (by simpa using hn)
theorem itOk_enT {xs : List D} {a : Addr} (r : Rel K ω h) (x : RelD K ω (.tup xs) (.ref a)) : ItOk K ω ⟨enumD 0 xs, chkQ (.tup xs) xs⟩ (ItE K a) := fun i ω' h' e r' hk => by
  replace hk : seqD h' (.tup xs) = some xs := chkQ_spec (show chkQ (.tup xs) xs h' = true from hk)
  obtain ⟨p, vs, e1, e2, e3⟩ := rd_tup (mono r e _ _ x)
  cases e1
  refine ⟨fun y hd => ?_, fun hn => ⟨vs, e2, ?_⟩⟩
  · rw [enumD_get] at hd
    cases q : xs[i]? with
    | none => rw [q] at hd; cases hd
    | some y0 =>
      rw [q] at hd
      simp only [Option.map_some, Option.some.injEq] at hd
      subst hd
      obtain ⟨v, e4, e5⟩ := e3.get q
      refine ⟨⟨vs, v, e2, e4⟩, fun w H' ⟨T, w0, ew, hT, eH, e7⟩ => ?_⟩
      have := e7 vs e2
      rw [e4] at this
      cases this
      obtain ⟨ω2, f1, f2, f3, f4⟩ := pairUp (x := .int ((0 + i : Nat) : Int)) r' hT (int_rd (i := ((0 + i : Nat) : Int))) e5
      subst ew
      refine ⟨ω2, ?_, f2, f3, f4⟩
      rw [eH, f1, Nat.zero_add]
  · rw [enumD_get] at hn
    rw [← e3.len]; exact List.getElem?_eq_none_iff.mp (by simpa using hn)
end
section
variable {X : Cx} {W : WX} {e : Expr} {as : SA}
theorem di_enu {tg : Expr} (he : PI X tg e (iEnB X.K (tA X W as))) : DI X W tg e (iEnu as) := di_of he fun σ H R ⟨ω, h, ds, e1, r, s, p⟩ => by
  subst e1
  refine ⟨ω, h, ds, rfl, r, s, Post.bd (show Post X.K X.mg W σ ω _ R ((as ds h).bd _) from p) fun xs h1 vs ω1 e1 r1 d1 p1 => ?_⟩
  unfold enF at p1
  split at p1
  · rename_i d
    obtain ⟨v, ws, rfl, e2, e3⟩ := d1.inv
    rw [e3.inv0]
    split at p1
    · rename_i ys q
      by_cases ht : isTup d = true
      · cases d <;> simp [isTup] at ht
        rename_i zs
        obtain ⟨a, us, rfl, e4, e5⟩ := rd_tup e2
        simp [seqD] at q
        subst q
        exact ⟨a, us, rfl, .inr ⟨e4, p1 _ ω1 (Ext.refl _) r1 (itOk_enT r1 e2)⟩⟩
      · have ht' : isTup d = false := by simpa using ht
        obtain ⟨a, us, rfl, e4, e5⟩ := rdlD_rel r1 (rdl_of_seq ht' q) e2
        exact ⟨a, us, rfl, .inl ⟨e4, p1 _ ω1 (Ext.refl _) r1 (itOk_enL r1 e2 fun h' z => rdl_of_seq ht' z)⟩⟩
    · exact False.elim p1
  · exact False.elim p1
end
/-! ### the least and the most -/
theorem cr_or {X : Cx} {f : Value} {r1 r2 : List V → Hp → VK → Prop} (h1 : CallR X f r1) (h2 : CallR X f r2) : CallR X f (fun xs H Q => r1 xs H Q ∨ r2 xs H Q) := by
  intro pins s σ H xs us Q I r q
  rcases q with q | q
  · exact h1 pins s σ H xs us Q I r q
  · exact h2 pins s σ H xs us Q I r q
def leastI : Int → List Int → Int
  | m, [] => m
  | m, n :: r => leastI (if n < m then n else m) r
def mostI : Int → List Int → Int
  | m, [] => m
  | m, n :: r => mostI (if m < n then n else m) r
theorem leastI_spec : ∀ (r : List Int) (m : Int), leastI m r ∈ m :: r ∧ ∀ y ∈ m :: r, leastI m r ≤ y
  | [], m => by simp [leastI]
  | n :: r, m => by
    obtain ⟨h1, h2⟩ := leastI_spec r (if n < m then n else m)
    unfold leastI
    by_cases c : n < m
    · rw [if_pos c] at h1 h2 ⊢
      refine ⟨List.mem_cons_of_mem _ h1, fun y hy => ?_⟩
      rcases List.mem_cons.mp hy with rfl | hy
      · have := h2 n (by simp); omega
      · exact h2 y hy
    · rw [if_neg c] at h1 h2 ⊢
      refine ⟨?_, fun y hy => ?_⟩
      · rcases List.mem_cons.mp h1 with q | q
        · rw [q]; simp
        · exact List.mem_cons_of_mem _ (List.mem_cons_of_mem _ q)
      · rcases List.mem_cons.mp hy with rfl | hy
        · exact h2 _ (by simp)
        · rcases List.mem_cons.mp hy with rfl | hy
          · have := h2 m (by simp); omega
          · exact h2 y (List.mem_cons_of_mem _ hy)
theorem mostI_spec : ∀ (r : List Int) (m : Int), mostI m r ∈ m :: r ∧ ∀ y ∈ m :: r, y ≤ mostI m r
  | [], m => by simp [mostI]
  | n :: r, m => by
    obtain ⟨h1, h2⟩ := mostI_spec r (if m < n then n else m)
    unfold mostI
    by_cases c : m < n
    · rw [if_pos c] at h1 h2 ⊢
      refine ⟨List.mem_cons_of_mem _ h1, fun y hy => ?_⟩
      rcases List.mem_cons.mp hy with rfl | hy
      · have := h2 n (by simp); omega
      · exact h2 y hy
    · rw [if_neg c] at h1 h2 ⊢
      refine ⟨?_, fun y hy => ?_⟩
      · rcases List.mem_cons.mp h1 with q | q
        · rw [q]; simp
        · exact List.mem_cons_of_mem _ (List.mem_cons_of_mem _ q)
      · rcases List.mem_cons.mp hy with rfl | hy
        · exact h2 _ (by simp)
        · rcases List.mem_cons.mp hy with rfl | hy
          · have := h2 m (by simp); omega
          · exact h2 y (List.mem_cons_of_mem _ hy)
/-! ### sums and bests of tuples -/
section
variable {prog : Program} {w : World} {A : Around} {E : Value → Shared → Prop} {z : Shared} {a : Addr} {xs : Array (Int × Tok)} {Q : Value → Shared → Prop}
theorem iter_tupI (ht : z.heap.IsTuple a (intItems xs))
    (q : ∀ z2 : Shared, z2 = { z with heap := z.heap.push { cls := .type "tuple_iterator", data := .fields #[.ref a, .int 0 0] } } →
      (z2.heap.IsTupleIter z.heap.objs.size a 0 ∧ z2.heap.IsTuple a (intItems xs)) → (∀ b ∈ [z.heap.objs.size, a], b < z2.heap.objs.size) → a ≠ z.heap.objs.size →
      (∀ h' : Heap, (∀ b o, b ∉ [z.heap.objs.size] → z2.heap.get? b = some o → h'.get? b = some o) → ∀ b o, z.heap.get? b = some o → h'.get? b = some o) → Q (.ref z.heap.objs.size) z2) : wpAny (model prog w) A (pyIter (.ref a)) Q E z := by
  have lta : a < z.heap.objs.size := by
    obtain ⟨_, e, _⟩ := ht
    exact Heap.lt_size e
  have sz : ∀ ob, (z.heap.push ob).objs.size = z.heap.objs.size + 1 := fun ob => Heap.size_push ..
  refine wpAny_pyIter_tuple ht (q _ rfl ⟨⟨_, Heap.get?_push_size _ rfl, rfl, rfl⟩, ht.at fun o e => Heap.get?_push_of_some _ e⟩ (fun b hb => ?_) (Nat.ne_of_lt lta) fun h' hk b o e => ?_)
  · show b < (z.heap.push _).objs.size
    rw [sz]
    simp only [List.mem_cons, List.not_mem_nil, or_false] at hb
    rcases hb with rfl | rfl
    · exact Nat.lt_succ_self _
    · exact Nat.lt_succ_of_lt lta
  · refine hk b o (fun hm => ?_) (Heap.get?_push_of_some _ e)
    have : b = z.heap.objs.size := by simpa using hm
    rw [this] at e
    exact Nat.lt_irrefl _ (Heap.lt_size e)
theorem sum_tupI (hh : A.handled = none) (ht : z.heap.IsTuple a (intItems xs)) (q : ∀ h' tk t', (∀ b o, z.heap.get? b = some o → h'.get? b = some o) → Q (.int (preSum (numAt xs) xs.size) t') { z with heap := h', toks := tk }) :
    wpAny (model prog w) A (call (.builtin "sum") [.ref a]) Q E z := by
  refine call_sum_walkG (iter_tupI ht fun z2 e st hfp hne old => ?_)
  subst e
  refine ⟨_, _, _, _, _, _, numAt xs, rfl, Walks.tuple (A := A.in1) hh _ a hne (intItems xs), st, hfp, (fun _ _ => intItems_at), fun h' tk t' hk => ?_⟩
  simpa [intItems] using q h' tk t' (old h' hk)
theorem max_tupI (hh : A.handled = none) (ht : z.heap.IsTuple a (intItems xs)) (hne : 0 < xs.size)
    (q : ∀ v h' tk, (intItems xs)[argBest (fun i j => decide (numAt xs i > numAt xs j)) (xs.size - 1)]? = some v → (∀ b o, z.heap.get? b = some o → h'.get? b = some o) → Q v { z with heap := h', toks := tk }) : wpAny (model prog w) A (call (.builtin "max") [.ref a]) Q E z := by
  refine call_max_walk (iter_tupI ht fun z2 e st hfp hn old => ?_)
  subst e
  refine ⟨_, _, _, _, _, _, _, rfl, Walks.tuple (A := A.in1) hh _ a hn (intItems xs), st, hfp, by simpa [intItems] using hne, CmpOf.ints_gt (numAt xs) (fun _ _ => intItems_at), fun v h' tk hP hk => ?_⟩
  exact q v h' tk (by simpa [intItems] using hP) (old h' hk)
theorem min_tupI (hh : A.handled = none) (ht : z.heap.IsTuple a (intItems xs)) (hne : 0 < xs.size)
    (q : ∀ v h' tk, (intItems xs)[argBest (fun i j => decide (numAt xs i < numAt xs j)) (xs.size - 1)]? = some v → (∀ b o, z.heap.get? b = some o → h'.get? b = some o) → Q v { z with heap := h', toks := tk }) : wpAny (model prog w) A (call (.builtin "min") [.ref a]) Q E z := by
  refine call_min_walk (iter_tupI ht fun z2 e st hfp hn old => ?_)
  subst e
  refine ⟨_, _, _, _, _, _, _, rfl, Walks.tuple (A := A.in1) hh _ a hn (intItems xs), st, hfp, by simpa [intItems] using hne, CmpOf.ints_lt (numAt xs) (fun _ _ => intItems_at), fun v h' tk hP hk => ?_⟩
  exact q v h' tk (by simpa [intItems] using hP) (old h' hk)
end
section
variable {X : Cx}
def rSumU (K : PySem.W.Frag) : List V → Hp → VK → Prop := fun vs H Q => ∃ (a : Addr) (ns : List Int), vs = [V.ref a] ∧ SqT K H a (ns.map V.int) ∧ Q (.int ns.sum) H
def rMaxU (K : PySem.W.Frag) : List V → Hp → VK → Prop := fun vs H Q => ∃ (a : Addr) (ns : List Int), vs = [V.ref a] ∧ SqT K H a (ns.map V.int) ∧ 0 < ns.length ∧ ∀ m ∈ ns, (∀ y ∈ ns, y ≤ m) → Q (.int m) H
def rMinU (K : PySem.W.Frag) : List V → Hp → VK → Prop := fun vs H Q => ∃ (a : Addr) (ns : List Int), vs = [V.ref a] ∧ SqT K H a (ns.map V.int) ∧ 0 < ns.length ∧ ∀ m ∈ ns, (∀ y ∈ ns, m ≤ y) → Q (.int m) H
theorem cr_sumU (hc : X.calm = true) : CallR X (.builtin "sum") (rSumU X.K) := by
  intro pins s σ H vs us Q I r ⟨a, ns, e, hs, q⟩
  subst e
  obtain ⟨its, rv, hl, _⟩ := I.tuple hs
  rw [Vals.ref1 r]
  obtain ⟨xs, e⟩ := rv.ints.allInts.items
  have hn : numsOf (intItems xs).toList = ns := by rw [← e]; exact rv.ints.numsOf
  rw [nums_intItems] at hn
  have hl2 : s.heap.IsTuple a (intItems xs) := e ▸ hl
  refine sum_tupI (I.ok.hd hc) hl2 fun h' tk t' hk => ⟨.int _, H, I.kept hk, ⟨_, rfl⟩, ?_⟩
  rw [preSum_eq, List.take_of_length_le (by simp), hn]; exact q
theorem cr_maxU (hc : X.calm = true) : CallR X (.builtin "max") (rMaxU X.K) := by
  intro pins s σ H vs us Q I r ⟨a, ns, e, hs, hne, q⟩
  subst e
  obtain ⟨its, rv, hl, _⟩ := I.tuple hs
  rw [Vals.ref1 r]
  obtain ⟨xs, e⟩ := rv.ints.allInts.items
  have hn : numsOf (intItems xs).toList = ns := by rw [← e]; exact rv.ints.numsOf
  rw [nums_intItems] at hn
  subst hn
  have hl2 : s.heap.IsTuple a (intItems xs) := e ▸ hl
  refine max_tupI (I.ok.hd hc) hl2 (by simpa using hne) fun v h' tk hv hk => ?_
  obtain ⟨t, rfl⟩ := intItems_at hv
  obtain ⟨h1, h2⟩ := argBest_gt (numAt xs) (xs.size - 1)
  have hsz : 0 < xs.size := by simpa using hne
  refine ⟨.int _, H, I.kept hk, ⟨_, rfl⟩, q _ ?_ fun y hy => ?_⟩
  · rw [numAt_eq]; exact PySem.getD_mem (by rw [List.length_map, Array.length_toList]; omega)
  · obtain ⟨j, hj, rfl⟩ := mem_getD hy
    rw [List.length_map, Array.length_toList] at hj
    rw [← numAt_eq]; exact h2 j (by omega)
theorem cr_minU (hc : X.calm = true) : CallR X (.builtin "min") (rMinU X.K) := by
  intro pins s σ H vs us Q I r ⟨a, ns, e, hs, hne, q⟩
  subst e
  obtain ⟨its, rv, hl, _⟩ := I.tuple hs
  rw [Vals.ref1 r]
  obtain ⟨xs, e⟩ := rv.ints.allInts.items
  have hn : numsOf (intItems xs).toList = ns := by rw [← e]; exact rv.ints.numsOf
  rw [nums_intItems] at hn
  subst hn
  have hl2 : s.heap.IsTuple a (intItems xs) := e ▸ hl
  refine min_tupI (I.ok.hd hc) hl2 (by simpa using hne) fun v h' tk hv hk => ?_
  obtain ⟨t, rfl⟩ := intItems_at hv
  obtain ⟨h1, h2⟩ := argBest_lt (numAt xs) (xs.size - 1)
  have hsz : 0 < xs.size := by simpa using hne
  refine ⟨.int _, H, I.kept hk, ⟨_, rfl⟩, q _ ?_ fun y hy => ?_⟩
  · rw [numAt_eq]; exact PySem.getD_mem (by rw [List.length_map, Array.length_toList]; omega)
  · obtain ⟨j, hj, rfl⟩ := mem_getD hy
    rw [List.length_map, Array.length_toList] at hj
    rw [← numAt_eq]; exact h2 j (by omega)
end
/-- where the numbers of a sequence lie -/
theorem seq_ints {K : PySem.W.Frag} {ω : Wo} {h : Hc} {d : D} {v : V} {ys : List D} {ns : List Int} (r : Rel K ω h) (q : seqD h d = some ys) (q2 : intsD ys = some ns) (e : RelD K ω d v) :
    ∃ a, v = .ref a ∧ (SqL K ω.H a (ns.map V.int) ∨ SqT K ω.H a (ns.map V.int)) := by
  obtain ⟨a, us, e1, e2, e3⟩ := seqD_rel r q e
  rw [intsD_eq q2] at e3
  rw [e3.ints] at e2
  exact ⟨a, e1, e2.elim .inr .inl⟩
def sumA (xs : List D) (h : Hc) : R D := match xs with
  | [d] => match seqD h d with
    | some ys => match intsD ys with
      | some ns => .ok (.int ns.sum) h
      | none => .bad
    | none => .bad
  | _ => .bad
theorem call_sumB {X : Cx} (hc : X.calm = true) : CallR X (.builtin "sum") (fun xs H Q => rSum X.K xs H Q ∨ rSumU X.K xs H Q) := cr_or (cr_sum hc) (cr_sumU hc)
theorem cd_sumA {X : Cx} : CallD X (fun xs H Q => rSum X.K xs H Q ∨ rSumU X.K xs H Q) sumA := fun W σ ω h xs vs Q r rx p => by
  unfold sumA at p
  split at p
  · obtain ⟨v, ws, rfl, e2, e3⟩ := rx.inv
    rw [e3.inv0]
    split at p
    · rename_i ys q
      split at p
      · rename_i ns q2
        obtain ⟨a, rfl, e5 | e5⟩ := seq_ints r q q2 e2
        · exact .inl ⟨a, ns, rfl, e5, p.here r int_rd⟩
        · exact .inr ⟨a, ns, rfl, e5, p.here r int_rd⟩
      · exact False.elim p
    · exact False.elim p
  · exact False.elim p
def bestF (f : Int → List Int → Int) (xs : List D) (h : Hc) : R D := match xs with
  | [.int i, .int j] => .ok (.int (f i [j])) h
  | [d] => match seqD h d with
    | some ys => match intsD ys with
      | some (n :: ns) => .ok (.int (f n ns)) h
      | _ => .bad
    | none => .bad
  | _ => .bad
abbrev minF := bestF leastI
abbrev maxF := bestF mostI
section
variable {X : Cx}
def rMinB (K : PySem.W.Frag) : List V → Hp → VK → Prop := fun xs H Q => (∃ i j, xs = [.int i, .int j] ∧ Q (.int (if j < i then j else i)) H) ∨ rMin K xs H Q ∨ rMinU K xs H Q
def rMaxB (K : PySem.W.Frag) : List V → Hp → VK → Prop := fun xs H Q => (∃ i j, xs = [.int i, .int j] ∧ Q (.int (if j > i then j else i)) H) ∨ rMax K xs H Q ∨ rMaxU K xs H Q
theorem call_minB (hc : X.calm = true) : CallR X (.builtin "min") (rMinB X.K) := cr_or (call_min2 hc) (cr_or (cr_min hc) (cr_minU hc))
theorem call_maxB (hc : X.calm = true) : CallR X (.builtin "max") (rMaxB X.K) := cr_or (call_max2 hc) (cr_or (cr_max hc) (cr_maxU hc))
theorem cd_min : CallD X (rMinB X.K) minF := fun W σ ω h xs vs Q r rx p => by
  unfold minF bestF at p
  split at p
  · obtain ⟨v, ws, rfl, e2, e3⟩ := rx.inv
    obtain ⟨v', ws', rfl, e4, e5⟩ := e3.inv
    rw [e5.inv0, rd_int e2, rd_int e4]
    exact .inl ⟨_, _, rfl, p.here r int_rd⟩
  · obtain ⟨v, ws, rfl, e2, e3⟩ := rx.inv
    rw [e3.inv0]
    split at p
    · rename_i ys q
      split at p
      · rename_i n ns q2
        have fin : ∀ m ∈ n :: ns, m = leastI n ns → Q (.int m) ω.H := fun m _ em => by
          rw [em]
          exact p.here r int_rd
        obtain ⟨g1, g2⟩ := leastI_spec ns n
        obtain ⟨a, rfl, e5 | e5⟩ := seq_ints r q q2 e2
        · exact .inr (.inl ⟨a, n :: ns, rfl, e5, by simp, fun m hm hy => fin m hm (Int.le_antisymm (hy _ g1) (g2 _ hm))⟩)
        · exact .inr (.inr ⟨a, n :: ns, rfl, e5, by simp, fun m hm hy => fin m hm (Int.le_antisymm (hy _ g1) (g2 _ hm))⟩)
      · exact False.elim p
    · exact False.elim p
  · exact False.elim p
theorem cd_max : CallD X (rMaxB X.K) maxF := fun W σ ω h xs vs Q r rx p => by
  unfold maxF bestF at p
  split at p
  · obtain ⟨v, ws, rfl, e2, e3⟩ := rx.inv
    obtain ⟨v', ws', rfl, e4, e5⟩ := e3.inv
    rw [e5.inv0, rd_int e2, rd_int e4]
    exact .inl ⟨_, _, rfl, p.here r int_rd⟩
  · obtain ⟨v, ws, rfl, e2, e3⟩ := rx.inv
    rw [e3.inv0]
    split at p
    · rename_i ys q
      split at p
      · rename_i n ns q2
        have fin : ∀ m ∈ n :: ns, m = mostI n ns → Q (.int m) ω.H := fun m _ em => by
          rw [em]
          exact p.here r int_rd
        obtain ⟨g1, g2⟩ := mostI_spec ns n
        obtain ⟨a, rfl, e5 | e5⟩ := seq_ints r q q2 e2
        · exact .inr (.inl ⟨a, n :: ns, rfl, e5, by simp, fun m hm hy => fin m hm (Int.le_antisymm (g2 _ hm) (hy _ g1))⟩)
        · exact .inr (.inr ⟨a, n :: ns, rfl, e5, by simp, fun m hm hy => fin m hm (Int.le_antisymm (g2 _ hm) (hy _ g1))⟩)
      · exact False.elim p
    · exact False.elim p
  · exact False.elim p
end
/-! ### the least common multiple -/
section
variable {X : Cx}
def rLcm : List V → Hp → VK → Prop := fun vs H Q => ∃ a b : Int, vs = [.int a, .int b] ∧ a.natAbs.log2 < 8000 ∧ b.natAbs.log2 < 8000 ∧ Q (.int ((Nat.lcm a.natAbs b.natAbs : Nat) : Int)) H
def lcmF (xs : List D) (h : Hc) : R D := match xs with
  | [.int i, .int j] => if i.natAbs.log2 < 8000 ∧ j.natAbs.log2 < 8000 then .ok (.int ((Nat.lcm i.natAbs j.natAbs : Nat) : Int)) h else .bad
  | _ => .bad
end
/-! ### copies of a list that is then changed -/
def mulC (x y : D) (h : Hc) : R D := match y with
  | .int k => match lstD h x with
    | some xs => if k ≤ lim ∧ -lim ≤ k ∧ xs.length * k.toNat ≤ lim then .ok (.ref h.length) (h ++ [.lst (repD k.toNat xs)]) else .bad
    | none => .bad
  | _ => .bad
theorem opd_mulC {X : Cx} : OpD X rMulA mulC := fun W σ ω h x y v u Q r rx ry p => by
  unfold mulC at p
  split at p
  · rename_i k
    split at p
    · rename_i xs q1
      obtain ⟨⟨h1, h2, h3⟩, p⟩ := p.if_
      obtain ⟨a, vs, e1, e2, e3⟩ := lstD_rel r q1 rx
      have l1 : (lim : Int) = 1000000 := rfl
      exact .inr (.inr ⟨a, k, vs, e1, rd_int ry, e2, by omega, by omega, by rw [← e3.len]; exact lim_le h3, fun q hq => p (.ref q) (ω.cell q _) (Ext.cell hq) (cell_new r hq (e3.rep _)).1 (cell_new r hq (e3.rep _)).2⟩)
    · exact False.elim p
  · exact False.elim p
end Mp
/-! LayI: two sequences walked side by side, each a list or a tuple. -/
namespace Mp
open PySem PySem.Spec PyProof.Rows L2
/-- a sequence of a kind (true: a tuple) -/
def SqX (t : Bool) (K : PySem.W.Frag) (H : Hp) (a : Addr) (xs : List V) : Prop := if t = true then SqT K H a xs else SqL K H a xs
/-- an iterator of a kind -/
def ItX (t : Bool) (g : Heap) (it a : Addr) (i : Nat) : Prop := if t = true then g.IsTupleIter it a i else g.IsListIter it a i
def CoX (t : Bool) (g : Heap) (a : Addr) (its : Array Value) : Prop := if t = true then g.IsTuple a its else g.IsList a its
theorem ItX.at {t : Bool} {g g' : Heap} {it a : Addr} {i : Nat} (h : ItX t g it a i) (k : ∀ o, g.get? it = some o → g'.get? it = some o) : ItX t g' it a i := by
  cases t
  · exact Heap.IsListIter.at (show g.IsListIter it a i from h) k
  · exact Heap.IsTupleIter.at (show g.IsTupleIter it a i from h) k
theorem CoX.at {t : Bool} {g g' : Heap} {a : Addr} {its : Array Value} (h : CoX t g a its) (k : ∀ o, g.get? a = some o → g'.get? a = some o) : CoX t g' a its := by
  cases t
  · exact Heap.IsList.at (show g.IsList a its from h) k
  · exact Heap.IsTuple.at (show g.IsTuple a its from h) k
theorem ItX.there {t : Bool} {g : Heap} {it a : Addr} {i : Nat} (h : ItX t g it a i) : ∃ o, g.get? it = some o ∧ ∀ v, o.data ≠ .seq v 0 ∨ True := by
  cases t
  · obtain ⟨o, e, _⟩ := (show g.IsListIter it a i from h)
    exact ⟨o, e, fun _ => .inr trivial⟩
  · obtain ⟨o, e, _⟩ := (show g.IsTupleIter it a i from h)
    exact ⟨o, e, fun _ => .inr trivial⟩
section
variable {prog : Program} {w : World} {A : Around}
theorem drawsX (t : Bool) (hh : A.handled = none) (it a : Addr) (hne : a ≠ it) (its : Array Value) : Draws prog w A it [it, a] its.size (fun i v => its[i]? = some v) (fun i g => ItX t g it a i ∧ CoX t g a its) := by
  cases t
  · exact Draws.list hh it a hne its
  · exact Draws.tuple hh it a hne its
/-- one that has ended -/
theorem drawsE (t : Bool) (hh : A.handled = none) (it a : Addr) (its : Array Value) (i : Nat) (hi : its.size ≤ i) : Draws prog w A it [it, a] i (fun _ _ => True) (fun j g => j = i ∧ ItX t g it a i ∧ CoX t g a its) where
  live := fun j g st => by
    obtain ⟨o, e, _⟩ := st.2.1.there
    exact ⟨o, e⟩
  frame := fun j g g' st k => ⟨st.1, st.2.1.at fun o q => k it (by simp) o q, st.2.2.at fun o q => k a (by simp) o q⟩
  item := fun j s Q E hj st _ => absurd st.1 (Nat.ne_of_lt hj)
  done := fun s Q E st hE => by
    obtain ⟨_, h1, h2⟩ := st
    cases t
    · exact wpAny_nextOf_list_end hh h1 h2 (by simp; omega) hE
    · exact wpAny_nextOf_tuple_end hh h1 h2 (by simp; omega) hE
end
section
variable {X : Cx} {pins : List (Addr × Obj)} {σ : L2.St} {H : Hp} {s : Shared}
theorem inv_seqX {t : Bool} {a : Addr} {xs : List V} (I : L2.Inv X pins σ H s) (q : SqX t X.K H a xs) : ∃ its : List Value, Vals xs its ∧ CoX t s.heap a its.toArray := by
  cases t
  · obtain ⟨its, rv, p, _⟩ := I.list (show SqL X.K H a xs from q)
    exact ⟨its, rv, p.isList⟩
  · obtain ⟨its, rv, p, _⟩ := I.tuple (show SqT X.K H a xs from q)
    exact ⟨its, rv, p⟩
theorem inv_seqX_inj {t : Bool} {a : Addr} {xs ys : List V} (I : L2.Inv X pins σ H s) (q : SqX t X.K H a xs) (q2 : SqX t X.K H a ys) : xs = ys := by
  cases t
  · exact I.list_inj (show SqL X.K H a xs from q) (show SqL X.K H a ys from q2)
  · exact I.tuple_inj (show SqT X.K H a xs from q) (show SqT X.K H a ys from q2)
end
/-- two sequences, their items in new pairs -/
def ItP (t1 t2 : Bool) (K : PySem.W.Frag) (a b : Addr) : It where
  go i H := ∃ (xs ys : List V) (x y : V), SqX t1 K H a xs ∧ SqX t2 K H b ys ∧ xs[i]? = some x ∧ ys[i]? = some y
  yld i H v H' := ∃ T x y, v = .ref T ∧ H T = none ∧ H' = upd H T (.tup [x, y]) ∧ (∀ xs, SqX t1 K H a xs → xs[i]? = some x) ∧ ∀ ys, SqX t2 K H b ys → ys[i]? = some y
  stop i H := ∃ xs ys : List V, SqX t1 K H a xs ∧ SqX t2 K H b ys ∧ (xs.length ≤ i ∨ ys.length ≤ i)
theorem turn_pair {P : Program} {w : World} {K : PySem.W.Frag} {elts : List Expr} {kk : Nat} {tpos : Pos} {t1 t2 : Bool} {a b z TI TO i1 i2 : Addr} (S : ZipSep2 z TI TO i1 i2 [i1, a] [i2, b]) (n1 : a ≠ i1) (n2 : b ≠ i2) :
    Turn P w K (.Tuple elts kk tpos) (ItP t1 t2 K a b) [z, TI, TO, i1, i2] z (fun i g => IsZip g z TI TO .none ∧ IsTupOf2 g TI (.ref i1) (.ref i2) ∧ (∃ x y, IsTupOf2 g TO x y) ∧ ItX t1 g i1 a i ∧ ItX t2 g i2 b i) where
  mem := by simp
  obj := fun i g st c hc => by
    obtain ⟨hz, hTI, ⟨x, y, hTO⟩, h1, h2⟩ := st
    have it : ∀ {t : Bool} {it a : Addr}, ItX t g it a i → ∃ o, g.get? it = some o ∧ ∀ v, ¬ (o.data = .cell v) := fun {t it a} h => by
      cases t
      · obtain ⟨o, e, _, d⟩ := (show g.IsListIter it a i from h)
        exact ⟨o, e, fun v q => by rw [d] at q; cases q⟩
      · obtain ⟨o, e, _, d⟩ := (show g.IsTupleIter it a i from h)
        exact ⟨o, e, fun v q => by rw [d] at q; cases q⟩
    simp only [List.mem_cons, List.not_mem_nil, or_false] at hc
    rcases hc with q | q | q | q | q
    · rw [q]; exact ⟨_, hz, fun v q => nomatch q⟩
    · rw [q]; exact ⟨_, hTI, fun v q => nomatch q⟩
    · rw [q]; exact ⟨_, hTO, fun v q => nomatch q⟩
    · rw [q]; exact it h1
    · rw [q]; exact it h2
  keep := fun i g g' st k => by
    obtain ⟨hz, hTI, ⟨x, y, hTO⟩, h1, h2⟩ := st
    exact ⟨k z (by simp) _ hz, k TI (by simp) _ hTI, ⟨x, y, k TO (by simp) _ hTO⟩, h1.at fun o q => k i1 (by simp) o q, h2.at fun o q => k i2 (by simp) o q⟩
  item := by
    intro X hP hw hK hc i pins s σ H E I hf st hg
    subst hP hw hK
    obtain ⟨hz, hTI, ⟨x0, y0, hTO⟩, h1, h2⟩ := st
    obtain ⟨xs, ys, x, y, hqx, hqy, hx, hy⟩ := hg
    obtain ⟨its, rv, p⟩ := inv_seqX I hqx
    obtain ⟨its2, rv2, p2⟩ := inv_seqX I hqy
    obtain ⟨u, hu, ru⟩ := rv.get hx
    obtain ⟨u2, hu2, ru2⟩ := rv2.get hy
    have ltz : z < s.heap.objs.size := Heap.lt_size hz
    have l1 : i < its.toArray.size := by
      have := (List.getElem?_eq_some_iff.mp hu).1
      simpa using this
    have l2 : i < its2.toArray.size := by
      have := (List.getElem?_eq_some_iff.mp hu2).1
      simpa using this
    refine wpAny_pyNext_zipD2_item S (drawsX t1 (show X.A.in1.handled = none from I.ok.hd hc) i1 a n1 its.toArray) (drawsX t2 (show X.A.in1.handled = none from I.ok.hd hc) i2 b n2 its2.toArray) hz hTI hTO ⟨h1, p⟩ ⟨h2, p2⟩ l1 l2 fun v1 v2 g1 tk e1 e2 z1 TO1 s1 s2 hT hsz hk => ?_
    have ev1 : v1 = u := by
      have : its.toArray[i]? = some u := by simpa using hu
      rw [this] at e1; exact (Option.some.inj e1).symm
    have ev2 : v2 = u2 := by
      have : its2.toArray[i]? = some u2 := by simpa using hu2
      rw [this] at e2; exact (Option.some.inj e2).symm
    subst ev1 ev2
    refine ⟨_, rfl, wpAny_letOwnedTupleGo_zip (s := { s with heap := g1, toks := tk }) z1 fun g2 z2 sb => ?_⟩
    have hT2 := (sb.2 s.heap.objs.size (Nat.ne_of_gt ltz)).trans hT
    have new : ObjOk X.prog X.w (upd H s.heap.objs.size (.tup [x, y])) g2 s.heap.objs.size (.tup [x, y]) := by
      refine ⟨by show 2 ≤ sizeLine; decide, [v1, v2], .cons ru (.cons ru2 .nil), ?_⟩
      exact ⟨_, hT2, rfl, _, rfl⟩
    have I1 : L2.Inv X pins σ (upd H s.heap.objs.size (.tup [x, y])) { s with heap := g2, toks := tk } :=
      I.turnedNew (ch := [z, TI, TO, i1, i2]) (fun c o hb q => by
        simp only [List.mem_cons, List.not_mem_nil, or_false, not_or] at hb
        exact (sb.2 c hb.1).trans (hk c o hb.1 hb.2.2.1 hb.2.2.2.1 hb.2.2.2.2 q)) hf (Nat.le_refl _) new
    refine ⟨.ref s.heap.objs.size, _, I1, rfl, ⟨_, x, y, rfl, I.hok.fresh (Nat.le_refl _), rfl, fun l hl => by rw [inv_seqX_inj I hl hqx]; exact hx, fun l hl => by rw [inv_seqX_inj I hl hqy]; exact hy⟩, ⟨z2, ?_, ⟨v1, v2, ?_⟩, ?_, ?_⟩, fun c hcm => ?_⟩
    · exact (sb.2 _ S.TIz).trans (hk _ _ S.TIz S.TITO S.TIi1 S.TIi2 hTI)
    · exact (sb.2 _ S.TOz).trans TO1
    · exact s1.1.at fun o q => (sb.2 _ (Ne.symm S.zi1)).trans q
    · exact s2.1.at fun o q => (sb.2 _ (Ne.symm S.zi2)).trans q
    · obtain ⟨o, ho, _⟩ : ∃ o, s.heap.get? c = some o ∧ True := by
        simp only [List.mem_cons, List.not_mem_nil, or_false] at hcm
        rcases hcm with q | q | q | q | q
        · rw [q]; exact ⟨_, hz, trivial⟩
        · rw [q]; exact ⟨_, hTI, trivial⟩
        · rw [q]; exact ⟨_, hTO, trivial⟩
        · rw [q]; obtain ⟨o, e, _⟩ := h1.there; exact ⟨o, e, trivial⟩
        · rw [q]; obtain ⟨o, e, _⟩ := h2.there; exact ⟨o, e, trivial⟩
      rw [upd_ne (Nat.ne_of_lt (Heap.lt_size ho))]
      exact (hf c hcm).1
  done := by
    intro X hP hw hK hc i pins s σ H E I hf st hg
    subst hP hw hK
    obtain ⟨hz, hTI, ⟨x0, y0, hTO⟩, h1, h2⟩ := st
    obtain ⟨xs, ys, hqx, hqy, hend⟩ := hg
    obtain ⟨its, rv, p⟩ := inv_seqX I hqx
    obtain ⟨its2, rv2, p2⟩ := inv_seqX I hqy
    have hh : X.A.in1.handled = none := I.ok.hd hc
    have e1 := rv.length
    have e2 := rv2.length
    have fin : ∀ g1 tk, (∀ c o, c ≠ z → c ≠ TO → c ≠ i1 → c ≠ i2 → s.heap.get? c = some o → g1.get? c = some o) → (none : Option Value) = none ∧ L2.Inv X pins σ H { s with heap := g1, toks := tk } := fun g1 tk hk =>
      ⟨rfl, I.turnedL (ch := [z, TI, TO, i1, i2]) (fun c o hb q => by
        simp only [List.mem_cons, List.not_mem_nil, or_false, not_or] at hb
        exact hk c o hb.1 hb.2.2.1 hb.2.2.2.1 hb.2.2.2.2 q) hf⟩
    by_cases c1 : its.toArray.size ≤ i
    · by_cases c2 : its2.toArray.size ≤ i
      · exact wpAny_pyNext_zipD2_end S (drawsE t1 hh i1 a its.toArray i c1) (drawsE t2 hh i2 b its2.toArray i c2) hz hTI hTO ⟨rfl, h1, p⟩ ⟨rfl, h2, p2⟩ (Nat.le_refl _) (Nat.le_refl _) (.inl rfl) fin
      · exact wpAny_pyNext_zipD2_end S (drawsE t1 hh i1 a its.toArray i c1) (drawsX t2 hh i2 b n2 its2.toArray) hz hTI hTO ⟨rfl, h1, p⟩ ⟨h2, p2⟩ (Nat.le_refl _) (by omega) (.inl rfl) fin
    · have c2 : its2.toArray.size ≤ i := by
        have q1 : its.toArray.size = its.length := by simp
        have q2 : its2.toArray.size = its2.length := by simp
        rcases hend with q | q
        · omega
        · omega
      exact wpAny_pyNext_zipD2_end S (drawsX t1 hh i1 a n1 its.toArray) (drawsE t2 hh i2 b its2.toArray i c2) hz hTI hTO ⟨h1, p⟩ ⟨rfl, h2, p2⟩ (by omega) (Nat.le_refl _) (.inr rfl) fin
  self := fun A i s Q E st q => wpAny_pyIter_zip st.1 q
/-- where a walk of a sequence begins -/
def obX (t : Bool) (a : Addr) : Obj := if t = true then { cls := .type "tuple_iterator", data := .fields #[.ref a, .int 0 0] } else { cls := .type "list_iterator", data := .fields #[.ref a, .int 0 0] }
theorem beginsX (t : Bool) (a : Addr) (its : Array Value) : Begins (.ref a) (obX t a) fun g => CoX t g a its := by
  cases t
  · exact begins_list a its
  · exact begins_tuple a its
theorem obX_it {t : Bool} {g : Heap} {it a : Addr} (h : g.get? it = some (obX t a)) : ItX t g it a 0 := by
  cases t
  · exact ⟨_, h, rfl, rfl⟩
  · exact ⟨_, h, rfl, rfl⟩
theorem CoX.lt {t : Bool} {g : Heap} {a : Addr} {its : Array Value} (h : CoX t g a its) : a < g.objs.size := by
  cases t
  · obtain ⟨o, e, _⟩ := (show g.IsList a its from h)
    exact Heap.lt_size e
  · obtain ⟨o, e, _⟩ := (show g.IsTuple a its from h)
    exact Heap.lt_size e
theorem notin2 {x p q : Addr} (h1 : x ≠ p) (h2 : x ≠ q) : x ∉ [p, q] := by simp [h1, h2]
/-- zip of two sequences -/
def iZpB (K : PySem.W.Frag) (ta : TA) : TI := fun σ H R => ta σ H fun vs H1 => ∃ t1 t2 a b xs ys, vs = [.ref a, .ref b] ∧ SqX t1 K H1 a xs ∧ SqX t2 K H1 b ys ∧ R (ItP t1 t2 K a b) H1
theorem pi_zpB {X : Cx} {e e2 : Expr} {ta : TA} {p pos tpos : Pos} {elts : List Expr} {kk : Nat} (hg : Gl X "zip") (hm : X.mg "zip" = none) (ha : PA X [e, e2] ta)
    (st : starEach [e, e2] X.env = (false, eval e X.env) :: starEach [e2] X.env := by rfl) (pl : (backTo pos (starEach [e2] X.env)).any (·.1) = false := by rfl) :
    PI X (.Tuple elts kk tpos) (.Call (.Name "zip" p) [e, e2] [] pos) (iZpB X.K ta) := by
  refine ⟨fun pins s σ H R I q => ?_⟩
  refine Call_ (ld_blt I hg hm PyProof.Rows.boot_zip (PyProof.Rows.callWith_type1 (thn (ha.run pos pins s σ H _ I q) fun us s1 ⟨vs, H1, I1, r1, q1⟩ => ?_) st pl))
  obtain ⟨t1, t2, a, b, xs, ys, rfl, hqx, hqy, q⟩ := q1
  obtain ⟨u, u2, rfl, ra, rb⟩ := vals2 r1
  cases ra
  cases rb
  obtain ⟨its, rv, p1⟩ := inv_seqX I1 hqx
  obtain ⟨its2, rv2, p2⟩ := inv_seqX I1 hqy
  have la := p1.lt
  have lb := p2.lt
  have fresh : ∀ c ∈ [s1.heap.objs.size + 4, s1.heap.objs.size + 2, s1.heap.objs.size + 3, s1.heap.objs.size, s1.heap.objs.size + 1], FpOk X pins H1 c := fun c hcm => by
    have hle : s1.heap.objs.size ≤ c := by
      simp only [List.mem_cons, List.not_mem_nil, or_false] at hcm
      rcases hcm with z | z | z | z | z <;> (rw [z]; first | exact Nat.le_refl _ | exact Nat.le_add_right _ _)
    exact I1.fpOk hle (I1.hok.fresh hle)
  have num : ∀ n a b : Nat, a < n → b < n → (n + 2 ≠ n + 4 ∧ n + 3 ≠ n + 4 ∧ n + 2 ≠ n + 3 ∧ n + 2 ≠ n ∧ n + 2 ≠ n + 1) ∧ (n + 4 ≠ n ∧ n + 4 ≠ a ∧ n + 3 ≠ n ∧ n + 3 ≠ a) ∧ (n + 4 ≠ n + 1 ∧ n + 4 ≠ b ∧ n + 3 ≠ n + 1 ∧ n + 3 ≠ b) ∧ n ≠ n + 1 ∧ n ≠ b ∧ n + 1 ≠ n ∧ n + 1 ≠ a := fun n a b h1 h2 => by omega
  have gen : ∀ n a b : Nat, a < n → b < n → ZipSep2 (n + 4) (n + 2) (n + 3) n (n + 1) [n, a] [n + 1, b] := fun n a b la lb => by
    obtain ⟨⟨a1, a2, a3, a4, a5⟩, ⟨b1, b2, b3, b4⟩, ⟨c1, c2, c3, c4⟩, d1, d2, d3, d4⟩ := num n a b la lb
    exact ⟨a1, a2, a3, a4, by simp, notin2 b1 b2, notin2 b3 b4, a5, by simp, notin2 c1 c2, notin2 c3 c4, notin2 d1 d2, notin2 d3 d4⟩
  have nea : ∀ n a : Nat, a < n → a ≠ n ∧ a ≠ n + 1 := fun n a h => by omega
  refine zip_begins2 (beginsX t1 a its.toArray) (beginsX t2 b its2.toArray) p1 p2 fun g hz hTI hTO h1 h2 hsz hk => wpAny_pyIter_zip hz ?_
  exact ⟨s1.heap.objs.size + 4, [s1.heap.objs.size + 4, s1.heap.objs.size + 2, s1.heap.objs.size + 3, s1.heap.objs.size, s1.heap.objs.size + 1], _, _, H1, rfl, I1.kept (t' := s1.toks) hk, turn_pair (gen _ _ _ la lb) (nea _ _ la).1 (nea _ _ lb).2, ⟨hz, hTI, ⟨_, _, hTO⟩, obX_it h1, obX_it h2⟩, fresh, q⟩
/-- the pairs -/
def zipD : List D → List D → List D
  | x :: xs, y :: ys => .tup [x, y] :: zipD xs ys
  | _, _ => []
theorem zipD_get : ∀ (xs ys : List D) (i : Nat), (zipD xs ys)[i]? = (xs[i]?).bind fun x => (ys[i]?).map fun y => .tup [x, y]
  | [], ys, i => by unfold zipD; simp
  | x :: xs, [], i => by
    unfold zipD
    cases (x :: xs)[i]? <;> simp
  | x :: xs, y :: ys, 0 => by unfold zipD; simp
  | x :: xs, y :: ys, i + 1 => by
    unfold zipD
    rw [List.getElem?_cons_succ, List.getElem?_cons_succ, List.getElem?_cons_succ, zipD_get xs ys i]
def chkZ (d : D) (xs : List D) (e : D) (ys : List D) : Hc → Bool := fun h => chkQ d xs h && chkQ e ys h
def zpF (xs : List D) (h : Hc) : R ItD := match xs with
  | [d, e] => match seqD h d, seqD h e with
    | some us, some ws => .ok ⟨zipD us ws, chkZ d us e ws⟩ h
    | _, _ => .bad
  | _ => .bad
def iZip (as : SA) : SI := fun ds h => (as ds h).bd zpF
section
variable {K : PySem.W.Frag} {ω : Wo} {h : Hc} {d e : D}
theorem seqX_rel {v : V} {xs : List D} (r : Rel K ω h) (q : seqD h d = some xs) (x : RelD K ω d v) : ∃ a us, v = .ref a ∧ SqX (isTup d) K ω.H a us ∧ RelL K ω xs us := by
  by_cases ht : isTup d = true
  · cases d <;> simp [isTup] at ht
    rename_i zs
    obtain ⟨a, us, e1, e2, e3⟩ := rd_tup x
    simp [seqD] at q
    subst q
    exact ⟨a, us, e1, e2, e3⟩
  · have ht' : isTup d = false := by simpa using ht
    obtain ⟨a, us, e1, e2, e3⟩ := rdlD_rel r (rdl_of_seq ht' q) x
    rw [ht']
    exact ⟨a, us, e1, e2, e3⟩
theorem itOk_zip {xs ys : List D} {a b : Addr} (r : Rel K ω h) (x : RelD K ω d (.ref a)) (y : RelD K ω e (.ref b)) : ItOk K ω ⟨zipD xs ys, chkZ d xs e ys⟩ (ItP (isTup d) (isTup e) K a b) := fun i ω' h' ex r' hk => by
  replace hk : seqD h' d = some xs ∧ seqD h' e = some ys := by
    have hk : (chkQ d xs h' && chkQ e ys h') = true := hk
    rw [Bool.and_eq_true] at hk
    exact ⟨chkQ_spec hk.1, chkQ_spec hk.2⟩
  obtain ⟨p, us, e1, e2, e3⟩ := seqX_rel r' hk.1 (mono r ex _ _ x)
  obtain ⟨p2, us2, f1, f2, f3⟩ := seqX_rel r' hk.2 (mono r ex _ _ y)
  cases e1
  cases f1
  refine ⟨fun z hd => ?_, fun hn => ⟨us, us2, e2, f2, ?_⟩⟩
  · rw [zipD_get] at hd
    cases q : xs[i]? with
    | none => rw [q] at hd; cases hd
    | some x0 =>
      cases q2 : ys[i]? with
      | none => rw [q, q2] at hd; cases hd
      | some y0 =>
        rw [q, q2] at hd
        simp only [Option.bind_some, Option.map_some, Option.some.injEq] at hd
        subst hd
        obtain ⟨v, e4, e5⟩ := e3.get q
        obtain ⟨v2, f4, f5⟩ := f3.get q2
        refine ⟨⟨us, us2, v, v2, e2, f2, e4, f4⟩, fun w H' ⟨T, w1, w2, ew, hT, eH, g1, g2⟩ => ?_⟩
        have k1 := g1 us e2
        rw [e4] at k1
        cases k1
        have k2 := g2 us2 f2
        rw [f4] at k2
        cases k2
        obtain ⟨ω2, m1, m2, m3, m4⟩ := pairUp r' hT e5 f5
        subst ew
        exact ⟨ω2, by rw [eH, m1], m2, m3, m4⟩
  · rw [zipD_get] at hn
    rw [← e3.len, ← f3.len]
    cases q : xs[i]? with
    | none => exact .inl (List.getElem?_eq_none_iff.mp q)
    | some x0 =>
      cases q2 : ys[i]? with
      | none => exact .inr (List.getElem?_eq_none_iff.mp q2)
      | some y0 => rw [q, q2] at hn; cases hn
end
section
variable {X : Cx} {W : WX} {e : Expr} {as : SA}
theorem di_zip {tg : Expr} (he : PI X tg e (iZpB X.K (tA X W as))) : DI X W tg e (iZip as) := di_of he fun σ H R ⟨ω, h, ds, e1, r, s, p⟩ => by
  subst e1
  refine ⟨ω, h, ds, rfl, r, s, Post.bd (show Post X.K X.mg W σ ω _ R ((as ds h).bd _) from p) fun xs h1 vs ω1 e1 r1 d1 p1 => ?_⟩
  unfold zpF at p1
  split at p1
  · rename_i d e
    obtain ⟨v, ws, rfl, e2, e3⟩ := d1.inv
    obtain ⟨v', ws', rfl, e4, e5⟩ := e3.inv
    rw [e5.inv0]
    split at p1
    · rename_i us ws q q2
      obtain ⟨a, us1, rfl, f2, f3⟩ := seqX_rel r1 q e2
      obtain ⟨b, us2, rfl, g2, g3⟩ := seqX_rel r1 q2 e4
      exact ⟨_, _, a, b, us1, us2, rfl, f2, g2, p1 _ ω1 (Ext.refl _) r1 (itOk_zip r1 e2 e4)⟩
    · exact False.elim p1
  · exact False.elim p1
end
/-! ### a call with nothing handed over -/
section
variable {X : Cx} {W : WX} {m : Fn} {pos p : Pos} {x : Str} {ps : List Str} {k : Nat}
end
/-! ### range with a step -/
def stepD (lo c : Int) (n : Nat) : List D := (List.range n).map fun (i : Nat) => D.int (lo + (i : Int) * c)
def rg3F (xs : List D) (h : Hc) : R ItD := match xs with
  | [.int i, .int j, .int c] => if c ≠ 0 ∧ c.natAbs < 1073741824 ∧ Builtin.Range.small i j c = true ∧ 0 ≤ Builtin.Range.rangeSize i j c then .ok ⟨stepD i c (Builtin.Range.rangeSize i j c).toNat, fun _ => true⟩ h else .bad
  | _ => .bad
def iRg3 (as : SA) : SI := fun ds h => (as ds h).bd rg3F
theorem itOk_step {K : PySem.W.Frag} {ω : Wo} {lo c : Int} {n : Nat} : ItOk K ω ⟨stepD lo c n, fun _ => true⟩ (Itc lo c n) := fun i ω' h' e r' hk => by
  unfold stepD
  refine ⟨fun d hd => ?_, fun hn => ?_⟩
  · by_cases hi : i < n
    · have ed : d = .int (lo + (i : Int) * c) := by
        simp [List.getElem?_map, List.getElem?_range hi] at hd
        exact hd.symm
      refine ⟨hi, fun x H' ⟨q1, q2⟩ => ⟨ω', q1.symm, Ext.refl _, r', ?_⟩⟩
      rw [ed, q2]; exact int_rd
    · have : ((List.range n).map fun (i : Nat) => D.int (lo + (i : Int) * c))[i]? = none := List.getElem?_eq_none_iff.mpr (by simp; omega)
      rw [this] at hd; cases hd
  · have := List.getElem?_eq_none_iff.mp hn
    have q : n ≤ i := by simpa using this
    exact q
theorem di_rg3 {X : Cx} {W : WX} {e : Expr} {as : SA} {tg : Expr} (h : PI X tg e (iRng3 (tA X W as))) : DI X W tg e (iRg3 as) := di_of h fun σ H R ⟨ω, h, ds, e1, r, s, p⟩ => by
  subst e1
  refine ⟨ω, h, ds, rfl, r, s, Post.bd (show Post X.K X.mg W σ ω _ R ((as ds h).bd _) from p) fun xs h1 vs ω1 e1 r1 d1 p1 => ?_⟩
  unfold rg3F at p1
  split at p1
  · rename_i i j c
    obtain ⟨⟨c0, c1, c2, c3⟩, p1⟩ := p1.if_
    obtain ⟨v, ws, rfl, e2, e3⟩ := d1.inv
    obtain ⟨v', ws', rfl, e4, e5⟩ := e3.inv
    obtain ⟨v2, ws2, rfl, e6, e7⟩ := e5.inv
    rw [e7.inv0, rd_int e2, rd_int e4, rd_int e6]
    exact ⟨i, j, c, (Builtin.Range.rangeSize i j c).toNat, rfl, ⟨c0, c1, c2, (Int.toNat_of_nonneg c3).symm⟩, p1 _ ω1 (Ext.refl _) r1 itOk_step⟩
  · exact False.elim p1
/-! ### reverse -/
def revF (x : D) (xs : List D) (h : Hc) : R D := match x, xs with
  | .ref i, [] => match h[i]? with
    | some (.lst ys) => .ok .non (h.set i (.lst ys.reverse))
    | _ => .bad
  | _, _ => .bad
end Mp
/-! LayJ: dicts. -/
namespace Mp
open PySem PySem.Spec PyProof.Rows L2
/-! ### keys, and what stands at them -/
def keyD : D → Option Key
  | .int i => some (.inl i)
  | .str x => some (.inr x)
  | _ => none
def keyO : Key → D
  | .inl i => .int i
  | .inr x => .str x
def lkD : List Key → List D → Key → Option D
  | k :: ks, d :: ds, j => if k = j then some d else lkD ks ds j
  | _, _, _ => none
def hasK (ks : List Key) (j : Key) : Bool := ks.any fun k => decide (k = j)
theorem hasK_nil (j : Key) : hasK [] j = false := Eq.trans rfl rfl
theorem hasK_cons (k : Key) (ks : List Key) (j : Key) : hasK (k :: ks) j = (decide (k = j) || hasK ks j) := Eq.trans rfl rfl
/-- in its place, or at the end -/
def insD (ks : List Key) (ds : List D) (j : Key) (x : D) : List Key × List D :=
  if hasK ks j = true then (ks, List.zipWith (fun k d => if k = j then x else d) ks ds) else (ks ++ [j], ds ++ [x])
section
variable {K : PySem.W.Frag} {ω ω' : Wo} {h h' : Hc} {d : D} {v : V}
theorem keyD_rel {k : Key} (e : keyD d = some k) (x : RelD K ω d v) : v = kV k := by
  cases d <;> simp [keyD] at e <;> subst e
  · rw [rd_int x]; rfl
  · rw [rd_str x]; rfl
theorem any_zip : ∀ {ks : List Key} {vs : List V} {j : Key}, ks.length = vs.length → ((ks.zip vs).any fun kv => decide (kv.1 = j)) = hasK ks j
  | [], vs, j, _ => by simp [hasK_nil]
  | k :: ks, [], j, e => by simp at e
  | k :: ks, v :: vs, j, e => by
    have ih := any_zip (j := j) (ks := ks) (vs := vs) (by simpa using e)
    simp only [List.zip_cons_cons, List.any_cons, ih, hasK_cons]
theorem map_zip {j : Key} {u : V} : ∀ {ks : List Key} {vs : List V}, ks.length = vs.length → ((ks.zip vs).map fun kv => if kv.1 = j then (kv.1, u) else kv) = ks.zip (List.zipWith (fun k v => if k = j then u else v) ks vs)
  | [], vs, _ => by simp
  | k :: ks, [], e => by simp at e
  | k :: ks, v :: vs, e => by
    simp only [List.zip_cons_cons, List.map_cons, List.zipWith_cons_cons, map_zip (ks := ks) (vs := vs) (by simpa using e)]
    congr 1
    split <;> rfl
theorem rep_rel {j : Key} {x : D} {u : V} (rx : RelD K ω x u) : ∀ {ks : List Key} {ds : List D} {vs : List V}, RelL K ω ds vs → ks.length = vs.length → RelL K ω (List.zipWith (fun k d => if k = j then x else d) ks ds) (List.zipWith (fun k v => if k = j then u else v) ks vs)
  | [], ds, vs, r, e => by simpa using RelL.nil
  | k :: ks, [], vs, r, e => by rw [r.inv0] at e; simp at e
  | k :: ks, d :: ds, vs, r, e => by
    obtain ⟨v, ws, rfl, e2, e3⟩ := r.inv
    simp only [List.zipWith_cons_cons]
    refine RelL.cons ?_ (rep_rel rx e3 (by simpa using e))
    split
    · exact rx
    · exact e2
theorem putK_zip {ks : List Key} {ds : List D} {vs : List V} {j : Key} {x : D} {u : V} (r : RelL K ω ds vs) (e : ks.length = vs.length) (rx : RelD K ω x u) :
    ∃ ws, putK (ks.zip vs) j u = (insD ks ds j x).1.zip ws ∧ (insD ks ds j x).1.length = ws.length ∧ RelL K ω (insD ks ds j x).2 ws := by
  unfold putK insD
  rw [any_zip e]
  by_cases hj : hasK ks j = true
  · rw [if_pos hj, if_pos hj]
    exact ⟨_, map_zip e, by simp [e], rep_rel rx r e⟩
  · rw [if_neg hj, if_neg hj]
    exact ⟨vs ++ [u], by rw [List.zip_append (by simpa using e)]; rfl, by simp [e], r.append (RelL.cons rx RelL.nil)⟩
end
section
variable {X : Cx} {W : WX} {K : PySem.W.Frag} {ω ω' : Wo} {h h' : Hc} {a b e o i : Expr} {m ma mb me mo mi : SE} {pos pos' : Pos}
/-! ### {} -/
def eDct0 : SE := fun _ h => .ok (.ref h.length) (h ++ [.dct [] []])
theorem cell_newD {q : Addr} {ks : List Key} {xs : List D} {vs : List V} (r : Rel K ω h) (hq : ω.H q = none) (hl : ks.length = vs.length) (d : RelL K ω xs vs) :
    Rel K (ω.cell q (.dK (ks.zip vs))) (h ++ [.dct ks xs]) ∧ RelD K (ω.cell q (.dK (ks.zip vs))) (.ref h.length) (.ref q) := by
  refine ⟨r.cell hq ⟨vs, upd_same, hl, monoL r (Ext.cell hq) _ _ d⟩, ?_⟩
  unfold RelD
  rw [← r.n]
  exact ⟨Nat.lt_succ_self _, by rw [Wo.cell_at]⟩
theorem de_dct0 : DE X W (.Dict [] [] pos) eDct0 := de_of pe_dnewK fun σ H Q ⟨ω, h, ds, e1, r, s, p⟩ => by
  subst e1
  intro q hq
  have z := cell_newD (ks := []) (xs := []) (vs := []) r hq rfl RelL.nil
  exact p (.ref q) (ω.cell q (.dK [])) (Ext.cell hq) z.1 z.2
/-! ### d[k], k in d -/
def dgF (x y : D) (h : Hc) : R D := match dctD h x, keyD y with
  | some (ks, ds), some k => match lkD ks ds k with
    | some d => .ok d h
    | none => .bad
  | _, _ => .bad
def dinF (neg : Bool) (y x : D) (h : Hc) : R D := match dctD h x, keyD y with
  | some (ks, _), some k => .ok (.bl (if neg then !hasK ks k else hasK ks k)) h
  | _, _ => .bad
theorem lkD_isSome : ∀ {ks : List Key} {vs : List V} {k : Key}, ks.length = vs.length → (valV (ks.zip vs) k).isSome = hasK ks k := fun {ks vs k} e => by
  rw [← valV_any, any_zip e]
theorem din_w (neg : Bool) : ∀ σ H Q, tE X W (eOp (dinF neg) ma mb) σ H Q → (if neg then tDNotIn (tE X W ma) (tE X W mb) σ H Q else tDIn (tE X W ma) (tE X W mb) σ H Q) := fun σ H Q ⟨ω, h, ds, e1, r, s, p⟩ => by
  subst e1
  cases neg with
  | false =>
    refine ⟨ω, h, ds, rfl, r, s, p.bd fun x h1 v ω1 e1 r1 d1 p1 => ⟨ω1, h1, ds, rfl, r1, monoS r e1 s, p1.bd fun y h2 u ω2 e2 r2 d2 p2 => ?_⟩⟩
    unfold dinF at p2
    split at p2
    · rename_i ks xs k q1 q2
      obtain ⟨p, vs, rfl, f2, f3, f4⟩ := dctD_rel r2 q1 d2
      rw [keyD_rel q2 d1]
      refine ⟨_, _, rfl, DGet.k (k := k) f2, p2 _ ω2 (Ext.refl _) r2 ?_⟩
      rw [lkD_isSome f3]
      exact bl_rd
    · exact False.elim p2
  | true =>
    refine ⟨ω, h, ds, rfl, r, s, p.bd fun x h1 v ω1 e1 r1 d1 p1 => ⟨ω1, h1, ds, rfl, r1, monoS r e1 s, p1.bd fun y h2 u ω2 e2 r2 d2 p2 => ?_⟩⟩
    unfold dinF at p2
    split at p2
    · rename_i ks xs k q1 q2
      obtain ⟨p, vs, rfl, f2, f3, f4⟩ := dctD_rel r2 q1 d2
      rw [keyD_rel q2 d1]
      refine ⟨_, _, rfl, DGet.k (k := k) f2, p2 _ ω2 (Ext.refl _) r2 ?_⟩
      rw [lkD_isSome f3]
      exact bl_rd
    · exact False.elim p2
theorem hu_1 {k : Nat} (hr : Room k X.A) : X.A.units + 1 < cLine := by have := hr.un; omega
theorem dt_din (hu : X.A.units + 1 < cLine) (ha : DE X W a ma) (hb : DE X W b mb) (hm : behindInMarks .In b = false := by rfl) : DT X W (.Compare a [.In] [b] pos) (bEx (eOp (dinF false) ma mb)) :=
  dt_of (pt_cmp (pc_din hu ha hb) hm) fun σ H Q h => din_w false σ H _ (tBw σ H Q h)
/-! ### d[k] = v -/
def putF (o i x : D) (h : Hc) : Option Hc := match o, keyD i with
  | .ref j, some k => match h[j]? with
    | some (.dct ks ds) => if ks.length < lim then some (h.set j (.dct (insD ks ds k x).1 (insD ks ds k x).2)) else none
    | _ => none
  | _, _ => none
theorem rd_celD {j : Nat} {ks : List Key} {xs : List D} {v : V} (r : Rel K ω h) (x : RelD K ω (.ref j) v) (q : h[j]? = some (.dct ks xs)) : ∃ vs, j < ω.n ∧ v = .ref (ω.β j) ∧ ω.H (ω.β j) = some (.dK (ks.zip vs)) ∧ ks.length = vs.length ∧ RelL K ω xs vs := by
  unfold RelD at x
  obtain ⟨vs, e1, e2, e3⟩ := r.cel j _ q
  exact ⟨vs, x.1, x.2, e1, e2, e3⟩
theorem put_dct {j : Nat} {ks ls : List Key} {xs ys : List D} {vs : List V} (r : Rel K ω h) (q : h[j]? = some (.dct ks xs)) (hl : ls.length = vs.length) (y : RelL K ω ys vs) :
    Ext ω (ω.up (ω.β j) (.dK (ls.zip vs))) ∧ Rel K (ω.up (ω.β j) (.dK (ls.zip vs))) (h.set j (.dct ls ys)) := by
  have hi : j < ω.n := by rw [r.n]; exact (List.getElem?_eq_some_iff.mp q).1
  obtain ⟨_, ho, _⟩ := r.cel j _ q
  have e := Ext.put (o := .dK (ls.zip vs)) hi ho
  exact ⟨e, r.put hi ho ⟨vs, upd_same, hl, monoL r e _ _ y⟩⟩
/-- the key is put, as data and as the heap -/
theorem putF_rel {ov iv xv : V} {oD iD xD : D} (r : Rel K ω h) (ro : RelD K ω oD ov) (ri : RelD K ω iD iv) (rx : RelD K ω xD xv) (e : putF oD iD xD h = some h') :
    ∃ p H4, ov = .ref p ∧ DPut ω.H p iv xv H4 ∧ ∃ ω', ω'.H = H4 ∧ Ext ω ω' ∧ Rel K ω' h' := by
  unfold putF at e
  split at e
  · rename_i j k q1
    split at e
    · rename_i ks xs q2
      split at e
      · rename_i hl
        cases e
        obtain ⟨vs, e0, e1, e2, e3, e4⟩ := rd_celD r ro q2
        obtain ⟨ws, f1, f2, f3⟩ := putK_zip (j := k) (x := xD) e4 e3 rx
        obtain ⟨g1, g2⟩ := put_dct r q2 f2 f3
        refine ⟨_, _, e1, ?_, _, rfl, g1, g2⟩
        rw [keyD_rel q1 ri, ← f1]
        refine DPut.k e2 ?_
        rw [List.length_zip, ← e3, Nat.min_self]
        exact lim_lt hl
      · cases e
    · cases e
  · cases e
theorem ds_dput (hu : X.A.units + 1 < cLine) (ho : DE X W o mo) (hi : DE X W i mi) (he : DE X W e me) (hs : swapsWith e (some (.Subscript o i pos')) pos.line X.env = pure false := by rfl) : DS X W (.Assign [.Subscript o i pos'] e pos) (sPut putF me mo mi) :=
  ds_of (ps_dput hu ho hi he hs) fun E σ H ⟨ω, h, ds, e1, r, s, p⟩ => by
    subst e1
    refine ⟨ω, h, ds, rfl, r, s, PostO.bd r s p fun x h1 v ω1 e1 r1 d1 s1 p1 => ⟨ω1, h1, ds, rfl, r1, s1, PostO.bd r1 s1 p1 fun o h2 u ω2 e2 r2 d2 s2 p2 => ⟨ω2, h2, ds, rfl, r2, s2, PostO.bd r2 s2 p2 fun i h3 w ω3 e3 r3 d3 s3 p3 => ?_⟩⟩⟩
    cases q : putF o i x h3 with
    | none => rw [q] at p3; exact False.elim p3
    | some h4 =>
      rw [q] at p3
      obtain ⟨p, H4, rfl, z1, ω4, rfl, z3, z4⟩ := putF_rel r3 (mono r2 e3 _ _ d2) d3 (mono r1 (e2.trans e3) _ _ d1) q
      exact ⟨_, _, rfl, z1, p3 σ ω4 z3 z4 (monoS r3 z3 s3)⟩
/-! ### d[k] op= v -/
def sAugD (f : D → D → Hc → R D) (mo mi me : SE) : SS := fun ds h => sBd (mo ds h) ds fun o h1 => sBd (mi ds h1) ds fun i h2 => sBd (dgF o i h2) ds fun x h3 => sBd (me ds h3) ds fun y h4 => sBd (f x y h4) ds fun z h5 => match putF o i z h5 with
  | some h6 => .nx ds h6
  | none => .bad
end
/-! ### dict comprehensions -/
section
variable {X : Cx} {W : WX} {tg iter kx vx : Expr} {ifs : List Expr} {mi : SI} {p : Pt} {own : List Nat} {c : SB} {mk mv : SE} {scope : Scope} {pos : Pos}
def dcR (chk : Hc → Bool) (p : Pt) (own : List Nat) (c : SB) (mk mv : SE) (ds : Sl) : List D → List Key → List D → Hc → R (List Key × List D)
  | [], ks, acc, h => if chk h = true then .ok (ks, acc) h else .bad
  | d :: r, ks, acc, h => if chk h = true then (match bindP h p d (wipeD ds own) with
      | some ds1 => (c ds1 h).nox.bd fun b h1 => if b = true then (mk ds1 h1).nox.bd fun y h2 => (mv ds1 h2).nox.bd fun z h3 => match keyD y with
          | some k => if ks.length < lim then dcR chk p own c mk mv ds r (insD ks acc k z).1 (insD ks acc k z).2 h3 else .bad
          | none => .bad
        else dcR chk p own c mk mv ds r ks acc h1
      | none => .bad) else .bad
def eDc (mi : SI) (p : Pt) (own : List Nat) (c : SB) (mk mv : SE) : SE := fun ds h => (mi ds h).bd fun it h1 => (dcR it.chk p own c mk mv ds it.items [] [] h1).bd fun xs h2 => .ok (.dct xs.1 xs.2) h2
/-- the dict at q, which is not read as data, is changed -/
theorem hidD {K : PySem.W.Frag} {ω : Wo} {h : Hc} (r : Rel K ω h) {q : Addr} {o u : HO} (ho : MutO o) (hA : ω.A q) (hb : ∀ i, i < ω.n → ω.β i ≠ q) (hq : ω.H q = some o) :
    Rel K (ω.up q u) h ∧ (∀ d v, RelD K ω d v → RelD K (ω.up q u) d v) ∧ ∀ ds vs, RelL K ω ds vs → RelL K (ω.up q u) ds vs := by
  have noT : ∀ l, o ≠ .tup l := fun l z => by rw [z] at ho; exact ho
  have noF : ∀ a l, o ≠ .frz a (.tup l) := fun a b z => by rw [z] at ho; exact ho
  have noG : ∀ a l, o ≠ .frz a (.lst l) := fun a b z => by rw [z] at ho; exact ho
  have stT : ∀ p vs', SqQ K ω.H p vs' → SqQ K (upd ω.H q u) p vs' := fun p vs' y => by
    obtain ⟨x, y⟩ := y
    refine ⟨?_, fun z => by rw [upd_ne (fun e => by have y' := y z; rw [e, hq] at y'; exact noT _ (Option.some.inj y'))]; exact y z⟩
    rcases x with (x | ⟨o', x⟩) | x
    · exact .inl (.inl (by rw [upd_ne (fun e => by rw [e, hq] at x; exact noT _ (Option.some.inj x))]; exact x))
    · exact .inl (.inr ⟨o', by rw [upd_ne (fun e => by rw [e, hq] at x; exact noF _ _ (Option.some.inj x))]; exact x⟩)
    · exact .inr x
  have stR : ∀ p o', ω.H p = some o' → ¬ ω.A p → (upd ω.H q u) p = some o' := fun p o' x n => by
    have ne : p ≠ q := fun e => n (e ▸ hA)
    rw [upd_ne ne]; exact x
  have stK : ∀ p vs', LkL K ω p vs' → LkL K (ω.up q u) p vs' := fun p vs' x => by
    rcases x with ⟨o', x⟩ | x
    · refine .inl ⟨o', ?_⟩
      show upd ω.H q u p = _
      rw [upd_ne (fun e => by rw [e, hq] at x; exact noG _ _ (Option.some.inj x))]; exact x
    · exact .inr x
  have key : (∀ d v, RelD K ω d v → RelD K (ω.up q u) d v) ∧ ∀ ds vs, RelL K ω ds vs → RelL K (ω.up q u) ds vs := by
    have aux := @D.rec (motive_1 := fun d => ∀ v, RelD K ω d v → RelD K (ω.up q u) d v) (motive_2 := fun ds => ∀ vs, RelL K ω ds vs → RelL K (ω.up q u) ds vs)
      (fun v x => by unfold RelD at x ⊢; exact x) (fun b v x => by unfold RelD at x ⊢; exact x) (fun i v x => by unfold RelD at x ⊢; exact x) (fun s v x => by unfold RelD at x ⊢; exact x)
      (fun ds ih v x => by unfold RelD at x ⊢; obtain ⟨p, vs', e1, e2, e3⟩ := x; exact ⟨p, vs', e1, stT p vs' e2, ih _ e3⟩)
      (fun ds ih v x => by unfold RelD at x ⊢; obtain ⟨p, vs', e1, ⟨e2, n⟩, e3⟩ := x; exact ⟨p, vs', e1, ⟨stR _ _ e2 n, n⟩, ih _ e3⟩)
      (fun ds ih v x => by unfold RelD at x ⊢; obtain ⟨p, vs', e1, e2, e3⟩ := x; exact ⟨p, vs', e1, stK _ _ e2, ih _ e3⟩)
      (fun ks ds ih v x => by unfold RelD at x ⊢; obtain ⟨p, vs', e1, ⟨e2, n⟩, e3, e4⟩ := x; exact ⟨p, vs', e1, ⟨stR _ _ e2 n, n⟩, e3, ih _ e4⟩)
      (fun i v x => by unfold RelD at x ⊢; exact x) (fun t v x => by unfold RelD at x ⊢; exact x)
      (fun vs x => by unfold RelL at x ⊢; exact x)
      (fun d ds ih1 ih2 vs x => by unfold RelL at x ⊢; obtain ⟨v, ws', e1, e2, e3⟩ := x; exact ⟨v, ws', e1, ih1 _ e2, ih2 _ e3⟩)
    refine ⟨aux, fun ds => ?_⟩
    induction ds with
    | nil => intro vs x; unfold RelL at x ⊢; exact x
    | cons d ds ih => intro vs x; obtain ⟨v, ws', rfl, e2, e3⟩ := x.inv; exact RelL.cons (aux d v e2) (ih _ e3)
  refine ⟨⟨r.n, r.inj, r.inA, fun p hp z => ?_, fun i c hi => ?_, tabs_keep r.tabs fun b w e nm => by
    show upd ω.H q u b = some w
    rw [upd_ne (fun z => nm (by rw [z, hq] at e; cases e; exact ho))]; exact e⟩, key.1, key.2⟩
  · have z' : upd ω.H q u p = none := z
    by_cases e : p = q
    · rw [e, upd_same] at z'; cases z'
    · rw [upd_ne e] at z'; exact r.sub p hp z'
  · have hl : i < ω.n := by rw [r.n]; exact (List.getElem?_eq_some_iff.mp hi).1
    have x := r.cel i c hi
    show RelC K (ω.up q u) (ω.β i) c
    cases c with
    | lst xs => obtain ⟨vs', e1, e2⟩ := x; exact ⟨vs', (upd_ne (hb i hl)).trans e1, key.2 _ _ e2⟩
    | dct ks xs => obtain ⟨vs', e1, e3, e2⟩ := x; exact ⟨vs', (upd_ne (hb i hl)).trans e1, e3, key.2 _ _ e2⟩
    | dtt ks xs => obtain ⟨vs', e1, e3, e2⟩ := x; exact ⟨vs', (upd_ne (hb i hl)).trans e1, e3, key.2 _ _ e2⟩
    | obj cls fs xs => obtain ⟨vs', ⟨cx, dx, e0, e1⟩, e3, e2⟩ := x; exact ⟨vs', ⟨cx, dx, e0, (upd_ne (hb i hl)).trans e1⟩, e3, key.2 _ _ e2⟩
    | rng lo hi => exact (upd_ne (hb i hl)).trans x
    | lkd ks xs => obtain ⟨vs', ⟨o, e1⟩, e3, e2⟩ := x; exact ⟨vs', ⟨o, (upd_ne (hb i hl)).trans e1⟩, e3, key.2 _ _ e2⟩
    | lkt ks xs => obtain ⟨vs', ⟨o, e1⟩, e3, e2⟩ := x; exact ⟨vs', ⟨o, (upd_ne (hb i hl)).trans e1⟩, e3, key.2 _ _ e2⟩
end
end Mp
/-! LayK: sorted. -/
namespace Mp
open PySem PySem.Spec PyProof.Rows L2
/-! ### one order, one sorted list -/
section
variable {α : Type}
def insO (le : α → α → Bool) (x : α) : List α → List α
  | [] => [x]
  | y :: r => if le x y = true then x :: y :: r else y :: insO le x r
def isort (le : α → α → Bool) : List α → List α
  | [] => []
  | x :: r => insO le x (isort le r)
structure Tot (le : α → α → Bool) : Prop where
  anti : ∀ a b, le a b = true → le b a = true → a = b
  tot : ∀ a b, le a b = true ∨ le b a = true
  trans : ∀ a b c, le a b = true → le b c = true → le a c = true
theorem insO_perm (le : α → α → Bool) (x : α) : ∀ l, (insO le x l).Perm (x :: l)
  | [] => List.Perm.refl _
  | y :: r => by
    unfold insO
    split
    · exact List.Perm.refl _
    · exact ((insO_perm le x r).cons y).trans (List.Perm.swap x y r)
theorem isort_perm (le : α → α → Bool) : ∀ l, (isort le l).Perm l
  | [] => List.Perm.refl _
  | x :: r => by
    unfold isort
    exact (insO_perm le x _).trans ((isort_perm le r).cons x)
theorem insO_pw {le : α → α → Bool} (O : Tot le) (x : α) : ∀ l : List α, l.Pairwise (fun a b => le a b = true) → (insO le x l).Pairwise fun a b => le a b = true
  | [], _ => by simp [insO]
  | y :: r, h => by
    unfold insO
    obtain ⟨h1, h2⟩ := List.pairwise_cons.mp h
    split
    · rename_i hx
      refine List.pairwise_cons.mpr ⟨fun z hz => ?_, h⟩
      rcases List.mem_cons.mp hz with rfl | hz
      · exact hx
      · exact O.trans _ _ _ hx (h1 z hz)
    · rename_i hx
      have hy : le y x = true := (O.tot x y).resolve_left hx
      refine List.pairwise_cons.mpr ⟨fun z hz => ?_, insO_pw O x r h2⟩
      rcases List.mem_cons.mp ((insO_perm le x r).mem_iff.mp hz) with rfl | hz
      · exact hy
      · exact h1 z hz
theorem isort_pw {le : α → α → Bool} (O : Tot le) : ∀ l : List α, (isort le l).Pairwise fun a b => le a b = true
  | [] => List.Pairwise.nil
  | x :: r => by
    unfold isort
    exact insO_pw O x _ (isort_pw O r)
theorem pw_uniq {le : α → α → Bool} (O : Tot le) : ∀ {l m : List α}, l.Pairwise (fun a b => le a b = true) → m.Pairwise (fun a b => le a b = true) → l.Perm m → l = m
  | [], m, _, _, h => (List.Perm.eq_nil h.symm).symm
  | x :: l, [], _, _, h => absurd h.length_eq (by simp)
  | x :: l, y :: m, hl, hm, h => by
    obtain ⟨a1, a2⟩ := List.pairwise_cons.mp hl
    obtain ⟨b1, b2⟩ := List.pairwise_cons.mp hm
    have e : x = y := by
      rcases List.mem_cons.mp (h.mem_iff.mp (List.mem_cons_self (a := x) (l := l))) with e | hx
      · exact e
      · rcases List.mem_cons.mp (h.mem_iff.mpr (List.mem_cons_self (a := y) (l := m))) with e | hy
        · exact e.symm
        · exact O.anti _ _ (a1 y hy) (b1 x hx)
    subst e
    rw [pw_uniq O a2 b2 (List.Perm.cons_inv h)]
theorem isort_uniq {le : α → α → Bool} (O : Tot le) {l m : List α} (h : m.Perm l) (hp : m.Pairwise fun a b => le a b = true) : m = isort le l :=
  pw_uniq O hp (isort_pw O l) (h.trans (isort_perm le l).symm)
end
abbrev leI (a b : Int) : Bool := decide (a ≤ b)
def leS (a b : Str) : Bool := !decide (b.cps.toList < a.cps.toList)
theorem tot_I : Tot leI := ⟨fun a b h1 h2 => by simp [leI] at h1 h2; omega, fun a b => by simp [leI]; omega, fun a b c h1 h2 => by simp [leI] at h1 h2 ⊢; omega⟩
theorem str_ext {a b : Str} (h : a.cps.toList = b.cps.toList) : a = b := by
  cases a; cases b
  simp only [PySem.Str.mk.injEq]
  exact Array.toList_inj.mp h
theorem tot_S : Tot leS := by
  refine ⟨fun a b h1 h2 => ?_, fun a b => ?_, fun a b c h1 h2 => ?_⟩
  · simp only [leS, Bool.not_eq_true', decide_eq_false_iff_not] at h1 h2
    exact str_ext (List.le_antisymm h1 h2)
  · simp only [leS, Bool.not_eq_true', decide_eq_false_iff_not]
    exact List.le_total a.cps.toList b.cps.toList
  · simp only [leS, Bool.not_eq_true', decide_eq_false_iff_not] at h1 h2 ⊢
    exact List.le_trans h1 h2
abbrev sortS (l : List Str) : List Str := isort leS l
abbrev sortI (l : List Int) : List Int := isort leI l
theorem ltCps_lt : ∀ (a b : List Nat), PySem.Spec.ltCps a b = decide (a < b)
  | [], [] => by simp [PySem.Spec.ltCps]
  | [], _ :: _ => by simp [PySem.Spec.ltCps]
  | _ :: _, [] => by simp [PySem.Spec.ltCps]
  | a :: r, b :: t => by
    unfold PySem.Spec.ltCps
    rw [ltCps_lt r t]
    have : (a :: r < b :: t) ↔ (a < b ∨ a = b ∧ r < t) := by rw [List.cons_lt_cons_iff]
    simp only [this]
    by_cases h1 : a < b <;> by_cases h2 : a = b <;> by_cases h3 : r < t <;> simp [h1, h2, h3]
theorem sortedS_pw : ∀ {l : List Str}, sortedS l = true → l.Pairwise fun a b => leS a b = true
  | [], _ => List.Pairwise.nil
  | x :: r, h => by
    have go : ∀ (r : List Str) (p : Str), risingS p r = true → (p :: r).Pairwise fun a b => leS a b = true := by
      intro r
      induction r with
      | nil => intro p _; exact List.pairwise_singleton _ _
      | cons y r ih =>
        intro p h
        unfold risingS at h
        rw [Bool.and_eq_true, ltCps_lt] at h
        have i := ih y h.2
        refine List.pairwise_cons.mpr ⟨fun z hz => ?_, i⟩
        rcases List.mem_cons.mp hz with rfl | hz
        · exact h.1
        · exact tot_S.trans _ _ _ h.1 ((List.pairwise_cons.mp i).1 z hz)
    exact go r x h
def keysI : List Key → Option (List Int)
  | [] => some []
  | .inl i :: r => (keysI r).map (i :: ·)
  | _ :: _ => none
def keysS : List Key → Option (List Str)
  | [] => some []
  | .inr i :: r => (keysS r).map (i :: ·)
  | _ :: _ => none
theorem keysI_spec : ∀ {ks : List Key} {ns : List Int}, keysI ks = some ns → ks = ns.map Sum.inl
  | [], ns, e => by simp [keysI] at e; subst e; rfl
  | .inl i :: r, ns, e => by
    simp only [keysI, Option.map_eq_some_iff] at e
    obtain ⟨z, e1, rfl⟩ := e
    rw [List.map_cons, keysI_spec e1]
  | .inr i :: r, ns, e => by simp [keysI] at e
theorem keysS_spec : ∀ {ks : List Key} {ns : List Str}, keysS ks = some ns → ks = ns.map Sum.inr
  | [], ns, e => by simp [keysS] at e; subst e; rfl
  | .inr i :: r, ns, e => by
    simp only [keysS, Option.map_eq_some_iff] at e
    obtain ⟨z, e1, rfl⟩ := e
    rw [List.map_cons, keysS_spec e1]
  | .inl i :: r, ns, e => by simp [keysS] at e
/-! ### lists of pairs of ints -/
def leP (a b : Int × Int) : Bool := decide (a.1 < b.1 ∨ (a.1 = b.1 ∧ a.2 ≤ b.2))
theorem tot_P : Tot leP := ⟨fun a b h1 h2 => by
    obtain ⟨a1, a2⟩ := a; obtain ⟨b1, b2⟩ := b
    simp only [leP, decide_eq_true_eq] at h1 h2
    have e1 : a1 = b1 := by omega
    have e2 : a2 = b2 := by omega
    rw [e1, e2], fun a b => by
    simp only [leP, decide_eq_true_eq]; omega, fun a b c h1 h2 => by
    simp only [leP, decide_eq_true_eq] at h1 h2 ⊢; omega⟩
def pr2D (p : Int × Int) : D := .tup [.int p.1, .int p.2]
def prs2D : List D → Option (List (Int × Int))
  | [] => some []
  | .tup [.int a, .int b] :: r => (prs2D r).map ((a, b) :: ·)
  | _ => none
theorem prs2D_eq : ∀ {ds : List D} {ps : List (Int × Int)}, prs2D ds = some ps → ds = ps.map pr2D
  | [], ps, e => by simp [prs2D] at e; subst e; rfl
  | .tup [.int a, .int b] :: r, ps, e => by
    simp only [prs2D, Option.map_eq_some_iff] at e
    obtain ⟨z, e1, rfl⟩ := e
    rw [prs2D_eq e1]
    rfl
  | d :: r, ps, e => by
    unfold prs2D at e
    split at e
    · rename_i q; cases q
    · rename_i a b r' q
      cases q
      simp only [Option.map_eq_some_iff] at e
      obtain ⟨z, e1, rfl⟩ := e
      rw [prs2D_eq e1]
      rfl
    · cases e
/-- the items are pairs of ints, these -/
def PrR (K : PySem.W.Frag) (H : Hp) : List V → List (Int × Int) → Prop
  | [], [] => True
  | x :: xs, p :: ps => (∃ t, x = V.ref t ∧ SqT K H t [V.int p.1, V.int p.2]) ∧ PrR K H xs ps
  | _, _ => False
def pkV (h : Heap) (u : Value) : Int × Int := match u with
  | .ref t => match h.get? t with
    | some o => match o.data with
      | .seq its _ => match its.toList with
        | [.int x _, .int y _] => (x, y)
        | _ => (0, 0)
      | _ => (0, 0)
    | none => (0, 0)
  | _ => (0, 0)
theorem prR_vals {X : Cx} {pins : List (Addr × Obj)} {σ : List (Option V)} {H : Hp} {s : Shared} (I : Inv X pins σ H s) : ∀ {xs : List V} {us : List Value} {ps : List (Int × Int)}, Vals xs us → PrR X.K H xs ps →
    xs.zip ps = us.map (fun u => (backV u, pkV s.heap u)) ∧ ∀ u ∈ us, Srt.IsPair s.heap u (pkV s.heap u).1 (pkV s.heap u).2
  | _, _, [], .nil, _ => ⟨rfl, fun u hu => absurd hu (by simp)⟩
  | _, _, p :: ps, .nil, h => False.elim h
  | x :: xs, u :: us, [], .cons r t, h => False.elim h
  | x :: xs, u :: us, p :: ps, .cons r t, h => by
    obtain ⟨⟨a, e, q⟩, h2⟩ := h
    subst e
    cases r
    obtain ⟨i1, i2⟩ := prR_vals I t h2
    obtain ⟨its, r2, ⟨o, ho, hc, n, hd⟩, _⟩ := I.tuple q
    obtain ⟨u1, u2, e3, ri, rj⟩ := vals2 r2
    obtain ⟨t1, rfl⟩ := ri
    obtain ⟨t2, rfl⟩ := rj
    subst e3
    have ek : pkV s.heap (.ref a) = (p.1, p.2) := by
      simp only [pkV, ho, hd]
    refine ⟨?_, fun v hv => ?_⟩
    · rw [List.zip_cons_cons, List.map_cons, i1, ek]
      rfl
    · rcases List.mem_cons.mp hv with e | hv
      · subst e
        rw [ek]
        exact ⟨a, o, t1, t2, n, rfl, ho, hc, hd⟩
      · exact i2 v hv
def rSortedPI (K : PySem.W.Frag) : List V → Hp → VK → Prop := fun vs H Q => ∃ (a : Addr) (xs : List V) (ps : List (Int × Int)), vs = [V.ref a] ∧ SqL K H a xs ∧ PrR K H xs ps ∧
  ∀ (zs : List (V × (Int × Int))) (p : Addr), zs.Perm (xs.zip ps) → (zs.map (·.2)).Pairwise (fun a b => leP a b = true) → H p = none → Q (.ref p) (upd H p (.lst (zs.map (·.1))))
theorem prR_refs {K : PySem.W.Frag} {H : Hp} : ∀ {xs : List V} {ps : List (Int × Int)}, PrR K H xs ps → ∀ x ∈ xs, ∃ a, x = V.ref a
  | [], [], _ => fun x hx => absurd hx (by simp)
  | [], p :: ps, h => False.elim h
  | x :: xs, [], h => False.elim h
  | x :: xs, p :: ps, h => fun y hy => by
    obtain ⟨⟨t, e, _⟩, h2⟩ := h
    rcases List.mem_cons.mp hy with e2 | hy
    · exact ⟨t, e2.trans e⟩
    · exact prR_refs h2 y hy
theorem call_sortedPI {X : Cx} : CallR X (.builtin "sorted") (rSortedPI X.K) := by
  intro pins s σ H vs us Q I r h
  obtain ⟨a, xs, ps, rfl, hs, hx, q⟩ := h
  obtain ⟨its, rv, hl, hz⟩ := I.list hs
  obtain ⟨u, rfl, ru⟩ := vals1 r
  obtain rfl : u = Value.ref a := ru
  obtain ⟨e1, e2⟩ := refs_back rv (prR_refs hx)
  obtain ⟨e3, e4⟩ := prR_vals I rv hx
  refine SrtO.sorted_pairsO (k := pkV s.heap) hl.isList (by rw [← rv.length]; exact hz) e4 fun h' d out h1 h2 kp hd hn => ?_
  have h3 : ∀ u ∈ out, ∃ a, u = Value.ref a := fun u hu => e2 u (h2.perm.mem_iff.mp hu)
  obtain ⟨n, hn⟩ := hn
  have em : ((out.map fun u => (backV u, pkV s.heap u)).map (·.1)) = out.map backV := by rw [List.map_map]; rfl
  have en : ((out.map fun u => (backV u, pkV s.heap u)).map (·.2)) = out.map (pkV s.heap) := by rw [List.map_map]; rfl
  have qq := q (out.map fun u => (backV u, pkV s.heap u)) d (by rw [e3]; exact h2.perm.map _) (by
    rw [en, List.pairwise_map]
    refine List.Pairwise.imp (fun {x y} hxy => ?_) h1
    have z := SrtO.lexB_no.mp hxy
    simp only [leP, decide_eq_true_eq]
    omega) (I.hok.fresh hd)
  rw [em] at qq
  refine ⟨.ref d, upd H d (.lst (out.map backV)), I.laid (t' := s.toks) kp hd ⟨?_, out, n, vals_back h3, hn⟩, rfl, qq⟩
  rw [List.length_map, h2.perm.length_eq, ← rv.length]
  exact hz
/-- data lists of pairs -/
theorem prR_of {K : PySem.W.Frag} {ω : Wo} : ∀ {ps : List (Int × Int)} {us : List V}, RelL K ω (ps.map pr2D) us → PrR K ω.H us ps ∧ ∀ z ∈ us.zip ps, RelD K ω (pr2D z.2) z.1
  | [], us, r => by
    obtain rfl := r.inv0
    exact ⟨trivial, fun z hz => absurd hz (by simp)⟩
  | p :: ps, us, r => by
    rw [List.map_cons] at r
    obtain ⟨v, ws, rfl, e2, e3⟩ := r.inv
    obtain ⟨i1, i2⟩ := prR_of e3
    have e2' := e2
    unfold pr2D at e2
    obtain ⟨t, us', e4, e5, e6⟩ := rd_tup e2
    obtain ⟨v1, w1, rfl, f1, f2⟩ := e6.inv
    obtain ⟨v2, w2, rfl, f3, f4⟩ := f2.inv
    obtain rfl := f4.inv0
    unfold RelD at f1 f3
    subst f1 f3
    refine ⟨⟨⟨t, e4, e5⟩, i1⟩, fun z hz => ?_⟩
    rw [List.zip_cons_cons] at hz
    rcases List.mem_cons.mp hz with e | hz
    · subst e; exact e2'
    · exact i2 z hz
theorem relL_zip {K : PySem.W.Frag} {ω : Wo} : ∀ {zs : List (V × (Int × Int))}, (∀ z ∈ zs, RelD K ω (pr2D z.2) z.1) → RelL K ω ((zs.map (·.2)).map pr2D) (zs.map (·.1))
  | [], _ => RelL.nil
  | z :: zs, h => by
    rw [List.map_cons, List.map_cons, List.map_cons]
    exact RelL.cons (h z List.mem_cons_self) (relL_zip fun y hy => h y (List.mem_cons_of_mem _ hy))
/-- sorted(x): what comes out -/
def sortX (h : Hc) (d : D) : Option (List D) := match rdlD h d with
  | some ys => match strsD ys with
    | some ss => if ss.length < 64 then some ((sortS ss).map D.str) else none
    | none => match intsD ys with
      | some ns => some ((sortI ns).map D.int)
      | none => match prs2D ys with
        | some ps => some ((isort leP ps).map pr2D)
        | none => none
  | none => match dctD h d with
    | some (ks, _) => match keysS ks with
      | some ss => if ss.length < 64 then some ((sortS ss).map D.str) else none
      | none => match keysI ks with
        | some ns => if ns.length < 64 then some ((sortI ns).map D.int) else none
        | none => none
    | none => match d with
      | .tup zs => match intsD zs with
        | some ns => some ((sortI ns).map D.int)
        | none => none
      | _ => none
def sortF (xs : List D) (h : Hc) : R D := match xs with
  | [d] => match sortX h d with
    | some ys => .ok (.lst ys) h
    | none => .bad
  | _ => .bad
def sortC (xs : List D) (h : Hc) : R D := match xs with
  | [d] => match sortX h d with
    | some ys => .ok (.ref h.length) (h ++ [.lst ys])
    | none => .bad
  | _ => .bad
/-- sorted(t), a tuple of ints -/
theorem call_sortedTI {X : Cx} : CallR X (.builtin "sorted") (fun xs H Q => ∃ (a : Addr) (ns : List Int), xs = [V.ref a] ∧ SqT X.K H a (ns.map V.int) ∧
    ∀ (ns' : List Int) (p : Addr), ns'.Perm ns → ns'.Pairwise (· ≤ ·) → H p = none → Q (.ref p) (upd H p (.lst (ns'.map V.int)))) := by
  intro pins s σ H xs us Q I r q
  obtain ⟨a, ns, ex, hs, q⟩ := q
  subst ex
  obtain ⟨its, rv, ⟨o, ho, hc, n, hd⟩, hz⟩ := I.tuple hs
  rw [Vals.ref1 r]
  have hi := rv.ints
  have hzl : its.length ≤ sizeLine := by rw [← rv.length]; exact hz
  refine Calls.call_function_entry PyProof.Rows.kind_sorted PyProof.Rows.plain_sorted PyProof.Rows.entry_sorted (PyProof.Rows.args_sorted1 _) ?_
  unfold Builtin.«sorted»
  refine wpAny_bind (m := checkCount "sorted" 1 1 _) (wpAny_pure ?_)
  refine wpAny_bind (wpAny_collect_seq a (.inr rfl) ho hc hd (fun h' hk => ?_) (by simpa using hzl))
  have e0 : its.toArray.toList = its := by simp
  rw [e0]
  have I1 : Inv X pins σ H { s with heap := h' } := I.kept (t' := s.toks) hk
  refine wpAny_bind (wpAny_newList ?_ hzl)
  have hoL : (h'.push (PyProof.Rows.seqObj "list" its.toArray 0)).get? h'.objs.size = some (PyProof.Rows.seqObj "list" its.toArray 0) := Heap.get?_push_size _ rfl
  show wpAny _ _ _ _ _ { s with heap := h'.push (PyProof.Rows.seqObj "list" its.toArray 0) }
  refine wpAny_bind (wpAny_holding (wpAny_call_entry PyProof.Rows.slot_list_sort ⟨_, hoL, rfl⟩ PyProof.Rows.entry_list_sort
    (SrtO.list_sort_ord (s := { s with heap := h'.push (PyProof.Rows.seqObj "list" its.toArray 0) }) SrtO.swo_int hoL hzl (fun h2 => SrtO.ints_sortable hi h2) fun out g1 g2 => ⟨_, rfl, ?_⟩) (PyProof.Rows.args_list_sort _)))
  obtain ⟨k1, k2, k3⟩ := SrtO.ints_out hi g1 g2
  obtain ⟨e', he'⟩ := PyProof.Rows.sortedHeap_at (vs := its) (out := out.toArray) hoL
  have hlen : ((out.map SrtO.iv).map V.int).length ≤ sizeLine := by
    rw [List.length_map, k2.length_eq]
    rw [List.length_map] at hz
    exact hz
  refine wpAny_pure ⟨_, rfl, .ref h'.objs.size, upd H h'.objs.size (.lst ((out.map SrtO.iv).map V.int)), I1.laid (t' := s.toks) (fun b u e => ?_) (Nat.le_refl _)
    (show ObjOk X.prog X.w _ _ _ (.lst ((out.map SrtO.iv).map V.int)) from ⟨hlen, out, e', vals_of_ints k1, he'⟩), rfl, q _ _ k2 k3 (I1.hok.fresh (Nat.le_refl _))⟩
  have hb : b < h'.objs.size := Heap.lt_size e
  rw [PyProof.Rows.sortedHeap_old (Nat.ne_of_lt hb) (by rw [size_push']; exact Nat.lt_succ_of_lt hb)]
  exact Heap.get?_push_of_some _ e
def rSortA (X : Cx) : List V → Hp → VK → Prop := fun xs H Q => rSortedS X.K xs H Q ∨ rSortedI X.K xs H Q ∨ (∃ (a : Addr) (kvs : List (Key × V)) (ks : List Str), xs = [.ref a] ∧ Rd H a (.dK kvs) ∧ kvs.map (·.1) = ks.map Sum.inr ∧ ks.length < 64 ∧
    ∀ ys p, ys.Perm ks → sortedS ys = true → H p = none → Q (.ref p) (upd H p (.lst (ys.map V.str)))) ∨ (∃ (a : Addr) (kvs : List (Key × V)) (ks : List Int), xs = [.ref a] ∧ Rd H a (.dK kvs) ∧ kvs.map (·.1) = ks.map Sum.inl ∧ ks.length < 64 ∧
    ∀ (ns' : List Int) p, ns'.Perm ks → ns'.Pairwise (· ≤ ·) → H p = none → Q (.ref p) (upd H p (.lst (ns'.map V.int)))) ∨ (∃ (a : Addr) (ns : List Int), xs = [V.ref a] ∧ SqT X.K H a (ns.map V.int) ∧
    ∀ (ns' : List Int) (p : Addr), ns'.Perm ns → ns'.Pairwise (· ≤ ·) → H p = none → Q (.ref p) (upd H p (.lst (ns'.map V.int)))) ∨ rSortedPI X.K xs H Q
theorem call_sortA {X : Cx} (hc : X.calm = true) : CallR X (.builtin "sorted") (rSortA X) := cr_or cr_sortedS (cr_or cr_sortedI (cr_or (call_sortedD hc) (cr_or (call_sortedDI hc) (cr_or call_sortedTI call_sortedPI))))
/-- the rule gives the one sorted list -/
theorem sort_w {K : PySem.W.Frag} {ω : Wo} {h : Hc} {d : D} {v : V} {ys : List D} (X : Cx) (hK : X.K = K) {Q : VK} (r : Rel K ω h) (q : sortX h d = some ys) (x : RelD K ω d v)
    (p : ∀ (a : Addr) (ws : List V), ω.H a = none → RelL K ω ys ws → Q (.ref a) (upd ω.H a (.lst ws))) : rSortA X [v] ω.H Q := by
  subst hK
  unfold sortX at q
  split at q
  · rename_i zs q1
    obtain ⟨a, us, rfl, e2, e3⟩ := rdlD_rel r q1 x
    split at q
    · rename_i ss q2
      split at q
      · rename_i hl
        cases q
        have ez : zs = ss.map D.str := strsD_eq q2
        rw [ez] at e3
        have eu := e3.strs
        subst eu
        refine .inl ⟨a, ss, rfl, e2, hl, fun zs p' hp hs hn => ?_⟩
        rw [isort_uniq tot_S hp (sortedS_pw hs)]
        exact p p' _ hn (RelL.of_strs _)
      · cases q
    · split at q
      · rename_i ns q3
        cases q
        have ez : zs = ns.map D.int := intsD_eq q3
        rw [ez] at e3
        have eu := e3.ints
        subst eu
        refine .inr (.inl ⟨a, ns, rfl, e2, fun ns' p' hp hs hn => ?_⟩)
        rw [isort_uniq tot_I hp (hs.imp fun h => by simpa [leI] using h)]
        exact p p' _ hn (RelL.of_ints _)
      · split at q
        · rename_i ps q4
          cases q
          rw [prs2D_eq q4] at e3
          obtain ⟨f1, f2⟩ := prR_of e3
          refine .inr (.inr (.inr (.inr (.inr ⟨a, us, ps, rfl, e2, f1, fun zs p' hp hs hn => ?_⟩))))
          have el : us.length = ps.length := by have := e3.len; simpa using this.symm
          have ez : (zs.map (·.2)) = isort leP ps := isort_uniq tot_P (by
            have h2 := hp.map (·.2)
            rwa [List.map_snd_zip (by omega)] at h2) hs
          rw [← ez] at p
          exact p p' _ hn (relL_zip fun z hz => f2 z (hp.mem_iff.mp hz))
        · cases q
  · split at q
    · rename_i ks xs q2
      obtain ⟨a, us, rfl, e2, e3, e4⟩ := dctD_rel r q2 x
      have kv : (ks.zip us).map (·.1) = ks := by
        rw [List.map_fst_zip]
        rw [e3]; exact Nat.le_refl _
      split at q
      · rename_i ss q3
        split at q
        · rename_i hl
          cases q
          refine .inr (.inr (.inl ⟨a, _, ss, rfl, .inl e2, kv.trans (keysS_spec q3), hl, fun zs p' hp hs hn => ?_⟩))
          rw [isort_uniq tot_S hp (sortedS_pw hs)]
          exact p p' _ hn (RelL.of_strs _)
        · cases q
      · split at q
        · rename_i ns q4
          split at q
          · rename_i hl
            cases q
            refine .inr (.inr (.inr (.inl ⟨a, _, ns, rfl, .inl e2, kv.trans (keysI_spec q4), hl, fun ns' p' hp hs hn => ?_⟩)))
            rw [isort_uniq tot_I hp (hs.imp fun h => by simpa [leI] using h)]
            exact p p' _ hn (RelL.of_ints _)
          · cases q
        · cases q
    · split at q
      · rename_i zs
        split at q
        · rename_i ns q3
          cases q
          obtain ⟨a, us, rfl, e2, e3⟩ := rd_tup x
          rw [intsD_eq q3] at e3
          have eu := e3.ints
          subst eu
          refine .inr (.inr (.inr (.inr (.inl ⟨a, ns, rfl, e2, fun ns' p' hp hs hn => ?_⟩))))
          rw [isort_uniq tot_I hp (hs.imp fun h => by simpa [leI] using h)]
          exact p p' _ hn (RelL.of_ints _)
        · cases q
      · cases q
theorem cd_sort {X : Cx} : CallD X (rSortA X) sortF := fun W σ ω h xs vs Q r rx p => by
  unfold sortF at p
  split at p
  · rename_i d
    obtain ⟨v, ws, rfl, e2, e3⟩ := rx.inv
    rw [e3.inv0]
    split at p
    · rename_i ys q
      exact sort_w X rfl r q e2 fun a us hn rl => p (.ref a) (ω.up a (.lst us)) (Ext.up hn) (r.up hn) (fz_new r hn rl)
    · exact False.elim p
  · exact False.elim p
/-! ### the signs of a text -/
def sgnD (x : Str) : List D := x.cps.toList.map fun c => .str ⟨#[c]⟩
def iSgn (m : SE) : SI := fun ds h => (m ds h).bd fun d h1 => match d with
  | .str x => .ok ⟨sgnD x, fun _ => true⟩ h1
  | _ => .bad
theorem itOk_sgn {K : PySem.W.Frag} {ω : Wo} {x : Str} : ItOk K ω ⟨sgnD x, fun _ => true⟩ (Its x) := fun i ω' h' e r' hk => by
  unfold sgnD
  refine ⟨fun d hd => ?_, fun hn => ?_⟩
  · rw [List.getElem?_map, Option.map_eq_some_iff] at hd
    obtain ⟨c, e1, rfl⟩ := hd
    have hi : i < x.cps.size := by
      have := (List.getElem?_eq_some_iff.mp e1).1
      simpa using this
    refine ⟨hi, fun y H' ⟨q1, c', q2, q3⟩ => ⟨ω', q1.symm, Ext.refl _, r', ?_⟩⟩
    have : c = c' := by
      rw [Array.getElem?_toList] at e1
      rw [e1] at q2
      exact Option.some.inj q2
    rw [q3, this]; exact str_rd
  · rw [List.getElem?_map, Option.map_eq_none_iff, List.getElem?_eq_none_iff] at hn
    show x.cps.size ≤ i
    simpa using hn
theorem di_str {X : Cx} {W : WX} {tg e : Expr} {m : SE} (he : DE X W e m) : DI X W tg e (iSgn m) := di_of (pi_str he) fun σ H R ⟨ω, h, ds, e1, r, s, p⟩ => by
  subst e1
  refine ⟨ω, h, ds, rfl, r, s, Post.bd (show Post X.K X.mg W σ ω _ R ((m ds h).bd _) from p) fun d h1 v ω1 e1 r1 d1 p1 => ?_⟩
  split at p1
  · rename_i x
    exact ⟨x, rd_str d1, p1 _ ω1 (Ext.refl _) r1 itOk_sgn⟩
  · exact False.elim p1
end Mp
/-! LayX: exceptions of own classes over Exception, their making. -/
namespace Mp
open PySem PySem.Spec PyProof.Rows L2
def exT : List Value := [.type "Exception", .type "BaseException", .type "object"]
/-- own classes, then those of Exception -/
def refsE : List Value → Bool
  | .ref _ :: r => refsE r
  | l => l == exT
theorem refsE_ind {P : List Value → Prop} (h0 : P exT) (h1 : ∀ c r, P r → P (.ref c :: r)) : ∀ l, refsE l = true → P l
  | [], e => absurd e (by decide)
  | a :: r, e => by
    cases a with
    | ref c => exact h1 c r (refsE_ind h0 h1 r e)
    | _ => (have z := (beq_iff_eq (α := List Value)).mp e); (first | (rw [z]; exact h0) | (exact absurd z (by simp [exT])))
theorem refsE_pass (self : Value) : ∀ l, refsE l = true → refuseLoop self "__setattr__" l = pure () :=
  refsE_ind (F.store_Exception.passes self) fun c r h => by rw [refuseLoop_ref]; exact h
theorem refsE_has (X : String) : ∀ l : List Value, refsE l = true → l.contains (.type X) = exT.contains (.type X) :=
  refsE_ind rfl fun c r h => by rw [List.contains_cons, h]; rfl
theorem refsE_ne : ∀ l : List Value, refsE l = true → l.isEmpty = false := refsE_ind rfl fun _ _ _ => rfl
section
open Builtin Builtin.ObjectAttr
variable {prog : Program} {w : World} {A : Around} {R : Result → Shared → Prop} {hp : Heap} {g : Array GenState} {d : Drawn} {t : Nat} {os : OsState}
/-- the walk to the exception's own dict -/
theorem xset_walk {K : W.Frag} {name : Str} {tk : Tok} {v : Value} {x C : Addr} {ox : Obj} {od : Option Obj} {cd : ClassData}
    (X : K.In hp) (I : W.InstAt hp x ox C od) (hcd : W.clsIn K C = some cd) (hm : refsE cd.mro = true) (ha : W.findIn K (.ref C) name = some none)
    (hq : wpAny (model prog w) A.in1 (storeInOwnDict (.ref x) (.ref C) (.str name tk) name v false)
      (fun fin s' => match fin with | .done f => R (.ok f) s' | .again c' => c'.quiet = true ∧ codeAny (model prog w) A c' R s') (fun e s' => R (.error e) s') ⟨hp, g, d, t, os⟩) :
    codeAny (model prog w) A (.call (.builtin "object.__setattr__") ⟨[.ref x, .str name tk, v], []⟩) R ⟨hp, g, d, t, os⟩ := by
  have SF := F.store_object
  have hob : cd.mro.contains (.type "object") = true := (refsE_has "object" _ hm).trans (by decide +kernel)
  have hmro : W.mroIn K C (.type "object") = some true := by
    unfold W.mroIn
    rw [hcd, Option.bind_some, if_neg (by rw [refsE_ne _ hm]; decide), hob]
  have sub : W.Looks (model prog w) hp (isInstance (.ref x) (.type "object")) true := I.type.andThen (W.looks_mroIn X hmro)
  refine codeAny_call_builtin SF.slot.plain SF.entry (@W.check_slot (model prog w) _ _ ⟨hp, g, d, t, os⟩ "object.__setattr__" "object" "__setattr__" (.ref x) [.str name tk, v] [] _ SF.kind SF.split sub (SF.args (.ref x) (.str name tk) v) ?_)
  have hmr : W.Looks (model prog w) hp (mroOf (.ref C)) cd.mro := (W.looks_clsIn X hcd).andThen .now
  have L3 : W.Looks (model prog w) hp (storeTaker? none) none := .now
  rw [W.osa_eq, refuse_eq]
  refine wpAny_bind (wpAny_bind (I.type.at (wpAny_bind (hmr.at ?_))))
  rw [refsE_pass _ _ hm]
  exact wpAny_pure (wpAny_bind (I.type.at (wpAny_bind ((W.looks_findIn X ha).at (wpAny_bind (L3.at hq))))))
theorem xset_new {K : W.Frag} {name : Str} {tk : Tok} {v : Value} {x C : Addr} {fv : Array Value} {cd : ClassData}
    (X : K.In hp) (hx : hp.get? x = some { cls := .ref C, data := .fields fv }) (hcd : W.clsIn K C = some cd) (hm : refsE cd.mro = true) (hh : cd.hasDict = true) (ha : W.findIn K (.ref C) name = some none)
    (hq : ∀ h' tk' dx, (∀ b o, b ≠ x → hp.get? b = some o → h'.get? b = some o) → hp.objs.size ≤ dx → dx ≠ x → h'.get? x = some { cls := .ref C, dict := some dx, data := .fields fv } →
      h'.Ns1 dx (fun y => if y = name then some v else none) → R (.ok (.ret .none)) ⟨h', g, d, tk', os⟩) :
    codeAny (model prog w) A (.call (.builtin "object.__setattr__") ⟨[.ref x, .str name tk, v], []⟩) R ⟨hp, g, d, t, os⟩ := by
  have hxs : x ≠ hp.objs.size := Nat.ne_of_lt (Heap.lt_size hx)
  refine xset_walk X (⟨hx, rfl, rfl, trivial⟩ : W.InstAt hp x { cls := .ref C, data := .fields fv } C none) hcd hm ha ?_
  have hcls : W.Looks (model prog w) hp (classData C) cd := W.looks_clsIn X hcd
  obtain ⟨nm, bs, mro, ns, qn, hd, sn, sb, ab, col, del⟩ := cd
  dsimp only at hh
  subst hh
  unfold storeInOwnDict ownDictForStores
  repeat (first | with_reducible refine HandSPX.store_in_new ?_ ?_ | with_reducible refine wpAny_loadPart_at hx ?_ | with_reducible refine hcls.at ?_ | wp_step)
  · exact ⟨_, #[], _, (Heap.get?_update_ne _ _ _ _ hxs.symm).trans (Heap.get?_push_at rfl rfl), rfl, fun e he => absurd he (by simp), fun _ => rfl⟩
  · intro h' tk' hn' hs
    have hx₁ : (hp.push { cls := .type "dict", data := .dict #[] }).get? x = some { cls := .ref C, data := .fields fv } := Heap.get?_push_of_some _ hx
    refine hq h' tk' hp.objs.size (fun b o hb ho => ?_) (Nat.le_refl _) hxs.symm ?_ hn'
    · exact (hs.2 b (Nat.ne_of_lt (Heap.lt_size ho))).trans ((Heap.get?_update_ne _ _ _ _ hb).trans (Heap.get?_push_of_some _ ho))
    · exact (hs.2 x hxs).trans (Heap.get?_update_self _ hx₁ rfl)
theorem xset_old {K : W.Frag} {name : Str} {tk : Tok} {v : Value} {x C dx : Addr} {fv : Array Value} {cd : ClassData} {m0 : Str → Option Value} {nl : List Str}
    (X : K.In hp) (hx : hp.get? x = some { cls := .ref C, dict := some dx, data := .fields fv }) (hns : hp.Ns1 dx m0) (hw : Within m0 nl) (hz : nl.length ≤ 1000) (hcd : W.clsIn K C = some cd) (hm : refsE cd.mro = true) (hh : cd.hasDict = true)
    (ha : W.findIn K (.ref C) name = some none)
    (hq : ∀ h' tk', (∀ b o, b ≠ dx → hp.get? b = some o → h'.get? b = some o) → h'.Ns1 dx (fun y => if y = name then some v else m0 y) → R (.ok (.ret .none)) ⟨h', g, d, tk', os⟩) :
    codeAny (model prog w) A (.call (.builtin "object.__setattr__") ⟨[.ref x, .str name tk, v], []⟩) R ⟨hp, g, d, t, os⟩ := by
  obtain ⟨oD, esD, epD, hoD, hdD, _⟩ := hns.count hw
  refine xset_walk X (⟨hx, rfl, rfl, hoD⟩ : W.InstAt hp x { cls := .ref C, dict := some dx, data := .fields fv } C (some oD)) hcd hm ha ?_
  have hcls : W.Looks (model prog w) hp (classData C) cd := W.looks_clsIn X hcd
  obtain ⟨nm, bs, mro, ns, qn, hd, sn, sb, ab, col, del⟩ := cd
  dsimp only at hh
  subst hh
  unfold storeInOwnDict ownDictForStores
  repeat (first | with_reducible refine ESX.store_in_old hns hw hz ?_ | with_reducible refine wpAny_loadPart_at hx ?_ | with_reducible refine hcls.at ?_ | wp_step)
  intro h' tk' hn' hs
  exact hq h' tk' (fun b o hb ho => (hs.2 b hb).trans ho) hn'
end
/-- what the written part says of such a class -/
structure ExM (K : PySem.W.Frag) (C : Addr) : Prop where
  cls : ∃ nm q N bs bm sn sub ab col dd k0 k1 k2 k3 k5, K.lookup C = some (excClassObj nm q C N bs bm true sn sub ab col dd k0 k1 k2 k3 k5 "Exception.__new__") ∧ refsE bm = true
  sa : PySem.W.findIn K (.ref C) "__setattr__" = some (some (.builtin "object.__setattr__"))
  exC : PySem.W.subIn K (.ref C) (.type "BaseException") = some true
  tyC : PySem.W.typeIn K (.ref C) = some (.type "type")
  kC : PySem.W.keepIn K (.ref C) = true
section
variable {X : Cx} {pins : List (Addr × Obj)} {σ : L2.St} {H : Hp} {s : Shared} {a C dx : Addr} {f : Str} {y : V} {u : Value} {fs : List (Str × V)} {Q : Unit → Shared → Prop} {E : Value → Shared → Prop} {A : Around}
/-- self.f = y, the first one -/
theorem xst_new (T : ExM X.K C) (I : Inv X pins σ H s) (e : H a = some (exo a C none)) (hno : PySem.W.findIn X.K (.ref C) f = some none) (ry : RelV y u)
    (h : ∀ dx s', H dx = none → dx ≠ a → Inv X pins σ (upd (upd H dx (exd dx [(f, y)])) a (exo a C (some dx))) s' → Q () s') : wpAny (model X.prog X.w) A (setAttr (.ref a) f u) Q E s := by
  obtain ⟨nm, q, N, bs, bm, sn, sub, ab, col, dd, k0, k1, k2, k3, k5, hC, hbm⟩ := T.cls
  have hcl : PySem.W.clsIn X.K C = some { name := nm, bases := bs, mro := .ref C :: bm, ns := N, qualname := q, hasDict := true, slotNames := sn, subclasses := sub, abstract := ab, collection := col, hasDel := false } := by unfold PySem.W.clsIn; rw [hC] <;> rfl
  obtain ⟨t1, ho⟩ := exo_at I.hok e
  obtain ⟨hp, g, d, t, os⟩ := s
  refine PySem.W.set_plain I.kIn (ox := { cls := .ref C, dict := none, data := .fields #[.ref t1, .none, .none, .none, .bool false, .none] }) (od := none) ⟨ho, rfl, rfl, trivial⟩ T.sa ?_
  refine xset_new I.kIn ho hcl (show refsE (.ref C :: bm) = true from hbm) rfl hno (fun h' tk' dx k dn dne hx hn => ?_)
  have hnd : H dx = none := I.hok.fresh dn
  have nd : ∀ {b : Addr} {o : Obj}, hp.get? b = some o → b ≠ dx := fun {b o} q => Nat.ne_of_lt (Nat.lt_of_lt_of_le (Heap.lt_size q) dn)
  have na : ∀ {b : Addr}, H b = none → b ≠ a := fun {b} n z => by
    rw [z, e] at n
    cases n
  have Un1 : Un X.fs [] H (upd (upd H dx (exd dx [(f, y)])) a (exo a C (some dx))) hp h' := {
    keep := fun b o q n _ _ => k b o (na n) q
    slot := fun b o q n _ _ => ⟨o.slots, k b o (na n) q⟩
    free := fun b o q n _ => by rw [upd_ne (na n), upd_ne (nd q)]; exact n
    there := fun b o q _ => by
      by_cases hb : b = a
      · exact ⟨_, by rw [hb]; exact hx⟩
      · exact ⟨o, k b o hb q⟩
    tups := fun b xs q => by rw [upd_ne (at_ne e q exo_tup), upd_ne (ne_of_none q hnd)]; exact q
    frzs := fun b o v q => by rw [upd_ne (at_ne e q exo_frz), upd_ne (ne_of_none q hnd)]; exact q
    tbls := fun b ps q => ⟨#[], by rw [upd_ne (at_ne e q exo_tbl), upd_ne (ne_of_none q hnd), q]; simp⟩ }
  refine h dx _ hnd dne (I.un (t' := tk') Un1 fun b o q => ?_)
  by_cases hb : b = a
  · subst hb
    rw [upd_same] at q
    cases q
    exact exo_ok hx
  · rw [upd_ne hb] at q
    by_cases hd : b = dx
    · subst hd
      rw [upd_same] at q
      cases q
      exact exd_ok hn (relO_put (fs := []) ry fun g => True.intro)
    · rw [upd_ne hd] at q
      exact (I.hok b o q).stay (fun c v hc z => k c v (by
          rcases hc with hc | hc
          · rw [hc]
            exact hb
          · exact at_ne e hc exo_own) z)
        (fun c hc => by rw [upd_ne (at_ne e hc exo_own), upd_ne (ne_of_none hc hnd)]; exact hc) (fun c xs hc => by rw [upd_ne (at_ne e hc exo_tup), upd_ne (ne_of_none hc hnd)]; exact hc)
/-- self.f = y, a further one -/
theorem xst_old (T : ExM X.K C) (I : Inv X pins σ H s) (e : H a = some (exo a C (some dx))) (ed : H dx = some (exd dx fs)) (hl : fs.length ≤ 900) (hno : PySem.W.findIn X.K (.ref C) f = some none) (ry : RelV y u)
    (h : ∀ s', Inv X pins σ (upd H dx (exd dx ((f, y) :: fs))) s' → Q () s') : wpAny (model X.prog X.w) A (setAttr (.ref a) f u) Q E s := by
  obtain ⟨nm, q, N, bs, bm, sn, sub, ab, col, dd, k0, k1, k2, k3, k5, hC, hbm⟩ := T.cls
  have hcl : PySem.W.clsIn X.K C = some { name := nm, bases := bs, mro := .ref C :: bm, ns := N, qualname := q, hasDict := true, slotNames := sn, subclasses := sub, abstract := ab, collection := col, hasDel := false } := by unfold PySem.W.clsIn; rw [hC] <;> rfl
  obtain ⟨t1, ho⟩ := exo_at I.hok e
  obtain ⟨mA, hns, rel⟩ := exd_at I.hok ed
  have hw := within_of rel
  obtain ⟨hp, g, d, t, os⟩ := s
  obtain ⟨oD, _, _, hoD, _, _⟩ := hns.count hw
  refine PySem.W.set_plain I.kIn (ox := { cls := .ref C, dict := some dx, data := .fields #[.ref t1, .none, .none, .none, .bool false, .none] }) (od := some oD) ⟨ho, rfl, rfl, hoD⟩ T.sa ?_
  refine xset_old I.kIn ho hns hw (by rw [List.length_map]; omega) hcl (show refsE (.ref C :: bm) = true from hbm) rfl hno (fun h' tk' k hn => ?_)
  have hd : ∃ o, h'.get? dx = some o := by
    obtain ⟨o, _, _, e', _⟩ := hn
    exact ⟨o, e'⟩
  exact h _ (I.write (t' := tk') (x := dx) (e := dx) (o := exd dx ((f, y) :: fs)) (by rw [ed]; exact True.intro) (.inl rfl) k hd (exd_ok hn (relO_put ry rel)))
end
/-- self.f = e -/
def tXst (K : PySem.W.Frag) (f : Str) (to te : TE) : TS := fun D σ H => te σ H fun y H1 => to σ H1 fun x H2 => ∃ a C : Addr, x = .ref a ∧ ExM K C ∧ PySem.W.findIn K (.ref C) f = some none ∧
  ((H2 a = some (exo a C none) ∧ ∀ dx, H2 dx = none → dx ≠ a → D.nx σ (upd (upd H2 dx (exd dx [(f, y)])) a (exo a C (some dx)))) ∨
    ∃ (dx : Addr) (fs : List (Str × V)), H2 a = some (exo a C (some dx)) ∧ H2 dx = some (exd dx fs) ∧ fs.length ≤ 900 ∧ D.nx σ (upd H2 dx (exd dx ((f, y) :: fs))))
theorem ps_xst {X : Cx} {o e : Expr} {to te : TE} {f : Str} {p' pos : Pos} (ho : PE X o to) (he : PE X e te) (hs : swapsWith e (some (.Attribute o f p')) pos.line X.env = pure false := by rfl) : PS X (.Assign [.Attribute o f p'] e pos) (tXst X.K f to te) := by
  refine ⟨fun pins s σ H D I h => ?_⟩
  refine plainObj_wpAny_Assign_Attribute (thn (he.run pins s σ H _ I h) fun v s1 ⟨y, H1, I1, r1, q1⟩ => thn (ho.run pins s1 σ H1 _ I1 q1) fun u s2 ⟨x, H2, I2, r2, a, C, ex, T, hno, q⟩ => ?_) hs
  subst ex
  obtain rfl : u = Value.ref a := r2
  rcases q with ⟨ea, q⟩ | ⟨dx, fs, ea, ed, hl, q⟩
  · exact xst_new T I2 ea hno r1 fun dx s' n ne J => ⟨σ, _, J, q dx n ne⟩
  · exact xst_old T I2 ea ed hl hno r1 fun s' J => ⟨σ, _, J, q⟩
/-- C(e, ..), C's own __init__ keeping sp -/
theorem pmk_x {X : Cx} {e : Expr} {es : List Expr} {ta : TA} {p pos : Pos} {CX : CXT} {x : Str} {C fI : Addr} {k : Nat} {fd : FuncData} {ps : List Str} {sp : Sp} (T : ExM X.K C) (iC : PySem.W.findIn X.K (.ref C) "__init__" = some (some (.ref fI))) (tI : PySem.W.typeIn X.K (.ref fI) = some (.type "function"))
    (F1 : FnOk X.prog X.w X.K X.mg X.base CX k fI fd ps sp) (hr : Room (k + 1) X.A) (hb : Binds X.K fd ps []) (hx : Passes CX X (fun _ _ _ => False)) (hg : Gl X x) (hm : X.mg x = some (.ref C)) (ha : PA X (e :: es) ta)
    (hdb : (x == ("__debug__" : Str)) = false := by decide) (he : starEach (e :: es) X.env = (false, eval e X.env) :: starEach es X.env := by rfl) (hpl : (backTo pos (starEach es X.env)).any (·.1) = false := by rfl) :
    PMk X (.Call (.Name x p) (e :: es) [] pos) (tMkO C sp [] ta) := by
  intro pins s σ H Q I h
  obtain ⟨nm, q, N, bs, bm, sn, sub, ab, col, dd, k0, k1, k2, k3, k5, hC, hbm⟩ := T.cls
  refine wpAny_Call_Name_kw (ld_glob I hg hm ?_ hdb)
  refine PySem.W.callWith_K (h₀ := X.base) I.ok.mod.kin T.kC (thn (ha.run pos pins s σ H _ I h) fun us s1 ⟨vs, H1, I1, r1, hz, q1⟩ => ⟨I1.kIn, ?_⟩) he hpl
  show wpAny _ _ (call (.ref C) us) _ _ _
  obtain ⟨hp, g, dr, tk, os⟩ := s1
  have hsz : hp.objs.size ≤ hp.objs.size + 1 := Nat.le_succ _
  have hn : H1 (hp.objs.size + 1) = none := I1.hok.fresh hsz
  have hq := q1 (hp.objs.size + 1) hn
  have kk : ∀ b o, hp.get? b = some o → ((hp.push (PySem.W.kdv_tup us)).push (PySem.HandSPX.excO C hp.objs.size)).get? b = some o := fun b o e => Heap.get?_push_of_some _ (Heap.get?_push_of_some _ e)
  have hget : ((hp.push (PySem.W.kdv_tup us)).push (PySem.HandSPX.excO C hp.objs.size)).get? (hp.objs.size + 1) = some (PySem.HandSPX.excO C hp.objs.size) := by heap_get
  have I2 : Inv X pins σ (upd H1 (hp.objs.size + 1) (exo (hp.objs.size + 1) C none)) ⟨(hp.push (PySem.W.kdv_tup us)).push (PySem.HandSPX.excO C hp.objs.size), g, dr, tk, os⟩ :=
    I1.laid (t' := tk) (a := hp.objs.size + 1) (o := exo (hp.objs.size + 1) C none) (h' := (hp.push (PySem.W.kdv_tup us)).push (PySem.HandSPX.excO C hp.objs.size)) kk hsz (exo_ok hget)
  have r2 : Vals (V.ref (hp.objs.size + 1) :: (vs ++ [])) (Value.ref (hp.objs.size + 1) :: (us ++ [])) := .cons rfl (r1.append .nil)
  have hl : (Value.ref (hp.objs.size + 1) :: us ++ []).length = ps.length := by
    have e := r2.length
    rw [F1.len _ _ _ _ hq] at e
    exact e.symm
  have hus : us.length ≤ sizeLine := by
    rw [← Paired.length r1, sizeLine_eq]
    omega
  have hbb := hb _ (Value.ref (hp.objs.size + 1) :: us) I2.kIn hl
  rw [List.cons_append] at hbb
  refine wpAny_call (PySem.HandSPX.call_own F.excBase_Exception (fun Y => refsE_has Y bm hbm) (I1.kIn _ _ hC) (PySem.W.looks_findIn I1.kIn iC) (fun self => PySem.W.bind_fn I1.kIn self tI) hus
    (codeAny_mono (F1.run _ X.stack _ _ ⟨Value.ref (hp.objs.size + 1) :: us, []⟩ (Value.ref (hp.objs.size + 1) :: (us ++ [])) _ _ (fun _ _ _ => False) (hr.make C us []) (I2.env0.make C us []) hbb r2 hq) fun r s' hq' => ?_))
  cases r with
  | error er => exact hx pins σ _ _ er s' I2 hq'
  | ok fl =>
    cases fl with
    | ret u =>
      obtain ⟨v, H2, os2, bare2, un2, hok2, rv, ev, d, fs, ea, ed, hd1, q2⟩ := hq'
      subst ev
      obtain ⟨h2, g2, d2, t2, os'⟩ := s'
      exact ⟨rv, mk_end (raises_own T.exC T.tyC) I1 hsz kk un2 hok2 os2 bare2 ea ed hd1 q2⟩
    | next => exact False.elim hq'
    | brk => exact False.elim hq'
    | cont => exact False.elim hq'
/-! ### __init__ -/
/-- def __init__(self, y): self.f = y -/
def spX1 (f : Str) (K : PySem.W.Frag) : Sp := fun vs H Q _ => ∃ (a C : Addr) (y : V), vs = [.ref a, y] ∧ ExM K C ∧ PySem.W.findIn K (.ref C) f = some none ∧ H a = some (exo a C none) ∧
  ∀ dx, H dx = none → dx ≠ a → Q .non (upd (upd H dx (exd dx [(f, y)])) a (exo a C (some dx)))
/-- def __init__(self, y, z): self.f = y; self.g = z -/
def spX2 (f g : Str) (K : PySem.W.Frag) : Sp := fun vs H Q _ => ∃ (a C : Addr) (y z : V), vs = [.ref a, y, z] ∧ ExM K C ∧ PySem.W.findIn K (.ref C) f = some none ∧ PySem.W.findIn K (.ref C) g = some none ∧ H a = some (exo a C none) ∧
  ∀ dx, H dx = none → dx ≠ a → Q .non (upd (upd (upd H dx (exd dx [(f, y)])) a (exo a C (some dx))) dx (exd dx [(g, z), (f, y)]))
theorem x1_len {f : Str} {K : PySem.W.Frag} (vs : List V) (H : Hp) (Q : VK) (E : XK) (h : spX1 f K vs H Q E) : vs.length = 2 := by
  obtain ⟨a, C, y, rfl, _⟩ := h; rfl
theorem x2_len {f g : Str} {K : PySem.W.Frag} (vs : List V) (H : Hp) (Q : VK) (E : XK) (h : spX2 f g K vs H Q E) : vs.length = 3 := by
  obtain ⟨a, C, y, z, rfl, _⟩ := h; rfl
theorem x1_rd {f : Str} {K : PySem.W.Frag} {vs : List V} {H : Hp} {Q : VK} {E : XK} {N : List Str} (hn : N.length = 2) (h : spX1 f K vs H Q E) :
    tXst K f (tVar 0) (tVar 1) { nx := fun _ H' => Q .non H', rt := Q } (L2.start N vs) H := by
  obtain ⟨a, C, y, rfl, T, no, e, q⟩ := h
  match N, hn with
  | [_, _], _ => exact ⟨y, rfl, .ref a, rfl, a, C, rfl, T, no, .inl ⟨e, fun dx n ne => q dx n ne⟩⟩
theorem x2_rd {f g : Str} {K : PySem.W.Frag} {vs : List V} {H : Hp} {Q : VK} {E : XK} {N : List Str} (hn : N.length = 3) (h : spX2 f g K vs H Q E) :
    tXst K f (tVar 0) (tVar 1) { nx := fun σ H' => tXst K g (tVar 0) (tVar 2) { nx := fun _ H' => Q .non H', rt := Q } σ H', rt := Q } (L2.start N vs) H := by
  obtain ⟨a, C, y, z, rfl, T, no, no2, e, q⟩ := h
  match N, hn with
  | [_, _, _], _ =>
    refine ⟨y, rfl, .ref a, rfl, a, C, rfl, T, no, .inl ⟨e, fun dx n ne => ?_⟩⟩
    refine ⟨z, rfl, .ref a, rfl, a, C, rfl, T, no2, .inr ⟨dx, [(f, y)], upd_same, ?_, (by show 1 ≤ 900; decide), q dx n ne⟩⟩
    rw [upd_ne ne, upd_same]
/-! ### raise -/
/-- a class of exceptions with its __init__ -/
def XCls (P : Program) (w : World) (K : PySem.W.Frag) (mg : Str → Option Value) (x : Str) (ps fs : List Str) (sp : PySem.W.Frag → Sp) : Prop :=
  ∃ (C fI : Addr) (fd : FuncData), mg x = some (.ref C) ∧ ExM K C ∧ PySem.W.findIn K (.ref C) "__init__" = some (some (.ref fI)) ∧ PySem.W.typeIn K (.ref fI) = some (.type "function") ∧ Binds K fd ps [] ∧
    (∀ base : Heap, FnOk P w K mg base CX0 1 fI fd ps (sp K)) ∧ ∀ f ∈ fs, PySem.W.findIn K (.ref C) f = some none
def sRaise (x : Str) (fs : List Str) (as : SA) : SS := fun ds h => sBd (as ds h) ds fun vs h1 => if vs.length = fs.length then .ex x fs vs.reverse ds h1 else .bad
section
variable {X : Cx} {W : WX} {e e2 : Expr} {as : SA} {x f g y z : Str} {p pos pos2 : Pos}
theorem del_x1 {H1 : Hp} {a dx : Addr} {o : HO} (ha : H1 a = none) (ne : dx ≠ a) (u1 u2 u4 : HO) :
    upd (del (upd (upd (upd H1 a u1) dx u2) a u4) a) dx o = upd H1 dx o := by
  funext b
  by_cases hb : b = dx
  · rw [hb, upd_same, upd_same]
  · rw [upd_ne hb, upd_ne hb]
    by_cases hb2 : b = a
    · rw [hb2, del_same, ha]
    · rw [del_ne hb2, upd_ne hb2, upd_ne hb, upd_ne hb2]
theorem ds_raise1 (hc : X.calm = true) (tk : Takes X W) (T : XCls X.prog X.w X.K X.mg x ["self", y] [f] (spX1 f)) (hr : Room 2 X.A) (hg : Gl X x) (ha : DA X W [e] as)
    (hdb : (x == ("__debug__" : Str)) = false := by decide) (he : starEach [e] X.env = [(false, eval e X.env)] := by rfl) :
    DS X W (.Raise (some (.Call (.Name x p) [e] [] pos)) none pos2) (sRaise x [f] as) := by
  obtain ⟨C, fI, fd, gC, E, iC, tI, b, F, no⟩ := T
  refine ds_of (ps_raise hc tk (pmk_x E iC tI (F X.base) hr b pass0 hg gC ha hdb he rfl)) fun D σ H ⟨ω, h, ds, e1, r, s, pp⟩ => ?_
  subst e1
  refine ⟨ω, h, ds, rfl, r, s, PostO.bd r s pp fun xs h1 vs ω1 ex r1 rl s1 p1 => ?_⟩
  obtain ⟨hl, p1⟩ := p1.if_
  match xs, hl with
  | [d], _ =>
    obtain ⟨v, ws, rfl, rv, rn⟩ := rl.inv
    rw [rn.inv0]
    refine ⟨by simp, fun a ha => ⟨a, C, v, rfl, E, no f (by simp), upd_same, fun dx n ne => ?_⟩⟩
    have nd : ω1.H dx = none := by rw [upd_ne ne] at n; exact n
    refine ⟨rfl, dx, [(f, v)], upd_same, ?_, nd, ?_⟩
    · rw [upd_ne ne, upd_same]
    · rw [del_x1 ha ne]
      refine p1 (.ref C) (some dx) σ (ω1.up dx (.xd [(f, v)])) (Ext.up nd) (r1.up nd) (monoS r1 (Ext.up nd) s1) ⟨C, dx, [v], rfl, rfl, gC, upd_same, rfl, monoL r1 (Ext.up nd) _ _ (RelL.cons rv RelL.nil)⟩
theorem del_x2 {H1 : Hp} {a dx : Addr} {o : HO} (ha : H1 a = none) (ne : dx ≠ a) (u1 u2 u3 u4 : HO) :
    upd (del (upd (upd (upd (upd H1 a u1) dx u2) a u4) dx u3) a) dx o = upd H1 dx o := by
  funext b
  by_cases hb : b = dx
  · rw [hb, upd_same, upd_same]
  · rw [upd_ne hb, upd_ne hb]
    by_cases hb2 : b = a
    · rw [hb2, del_same, ha]
    · rw [del_ne hb2, upd_ne hb, upd_ne hb2, upd_ne hb, upd_ne hb2]
theorem ds_raise2 (hc : X.calm = true) (tk : Takes X W) (T : XCls X.prog X.w X.K X.mg x ["self", y, z] [f, g] (spX2 f g)) (hr : Room 2 X.A) (hg : Gl X x) (ha : DA X W [e, e2] as)
    (hdb : (x == ("__debug__" : Str)) = false := by decide) (he : starEach [e, e2] X.env = (false, eval e X.env) :: starEach [e2] X.env := by rfl) (hpl : (backTo pos (starEach [e2] X.env)).any (·.1) = false := by rfl) :
    DS X W (.Raise (some (.Call (.Name x p) [e, e2] [] pos)) none pos2) (sRaise x [g, f] as) := by
  obtain ⟨C, fI, fd, gC, E, iC, tI, b, F, no⟩ := T
  refine ds_of (ps_raise hc tk (pmk_x E iC tI (F X.base) hr b pass0 hg gC ha hdb he hpl)) fun D σ H ⟨ω, h, ds, e1, r, s, pp⟩ => ?_
  subst e1
  refine ⟨ω, h, ds, rfl, r, s, PostO.bd r s pp fun xs h1 vs ω1 ex r1 rl s1 p1 => ?_⟩
  obtain ⟨hl, p1⟩ := p1.if_
  match xs, hl with
  | [d, d2], _ =>
    obtain ⟨v, ws, rfl, rv, rn⟩ := rl.inv
    obtain ⟨v2, ws2, rfl, rv2, rn2⟩ := rn.inv
    rw [rn2.inv0]
    refine ⟨by simp, fun a ha => ⟨a, C, v, v2, rfl, E, no f (by simp), no g (by simp), upd_same, fun dx n ne => ?_⟩⟩
    have nd : ω1.H dx = none := by rw [upd_ne ne] at n; exact n
    refine ⟨rfl, dx, [(g, v2), (f, v)], ?_, upd_same, nd, ?_⟩
    · rw [upd_ne (Ne.symm ne), upd_same]
    · rw [del_x2 ha ne]
      refine p1 (.ref C) (some dx) σ (ω1.up dx (.xd [(g, v2), (f, v)])) (Ext.up nd) (r1.up nd) (monoS r1 (Ext.up nd) s1) ⟨C, dx, [v2, v], rfl, rfl, gC, upd_same, rfl, monoL r1 (Ext.up nd) _ _ (RelL.cons rv2 (RelL.cons rv RelL.nil))⟩
end
end Mp
/-! LayY: what a call told: a lambda handed to a def that calls it in a try. -/
namespace Mp
open PySem PySem.Spec PyProof.Rows L2
/-! ### several clauses, each with the name n in slot i -/
abbrev Clauses := List (Value × (Addr → Value → Option Addr → TS))
def wAsM (K : PySem.W.Frag) (i : Nat) (D : Ends) : Clauses → WX
  | [] => fun _ _ _ _ => False
  | (c, ts) :: r => fun cls d σ H => ∃ b, PySem.W.exmOne K cls c = some b ∧
      (b = true → i < σ.length → ∀ a, H a = none → ts a cls d { nx := fun σ' H' => D.nx (σ'.set i none) H', rt := D.rt, bk := fun σ' H' => D.bk (σ'.set i none) H', ct := fun σ' H' => D.ct (σ'.set i none) H' } (σ.set i (some (.ref a))) H) ∧
      (b = false → wAsM K i D r cls d σ H)
inductive HdsAs (X : Cx) (n : Str) : List ExceptHandler → Clauses → Prop
  | nil : HdsAs X n [] []
  | cons {x : Str} {c : Value} {ts : Addr → Value → Option Addr → TS} {b₀ : Stmt} {suite : List Stmt} {np pos' : Pos} {hds : List ExceptHandler} {l : Clauses} (hc : Names X x c)
      (hsu : ∀ (a : Addr) (oe : Obj) (cls : Value) (d : Option Addr) (pn : List (Addr × Obj)), Zc cls d oe → (∃ vs, oe.data = .fields vs) → PSs (X.suite a ((a, oe) :: pn)) (b₀ :: suite) (ts a cls d)) (r : HdsAs X n hds l) :
      HdsAs X n (.ExceptHandler (some (.Name x np)) (some n) (b₀ :: suite) pos' :: hds) ((c, ts) :: l)
section
variable {X : Cx} {n : Str} {i : Nat} {body : List Stmt} {h₀ : ExceptHandler} {hds : List ExceptHandler} {l : Clauses} {pos : Pos} {tb : WX → TS}
theorem ps_try_asM (hs : X.stack = X.env :: X.outer) (hf : X.env.frame = some X.env.locals) (hN : X.N.Nodup) (hi : X.N[i]? = some n) (hln : X.env.kindOf n = some .local)
    (hb : ∀ (W : WX) (pn : List (Addr × Obj)) (xe : Value → Shared → Prop), Takes (X.tr pn xe) W → PassesOwn (model X.prog X.w) X.A X.env xe → PSs (X.tr pn xe) body (tb W))
    (hh : HdsAs X n (h₀ :: hds) l) : PS X (.Try body (h₀ :: hds) [] [] pos) (fun D σ H => tb (wAsM X.K i D l) D σ H) := by
  refine ⟨fun pins s σ H D I h => ?_⟩
  have ok := I.ok
  have hfr : X.A.frames = some (X.env :: X.outer) := by rw [ok.frames, hs]
  have hloc : Loc X.env.scope n := .inl hln
  refine wpAny_Try_except ?_
  refine wpAny_mono ((hb (wAsM X.K i D l) (X.pn ++ pins) (fun e s₁ => wpAny (model X.prog X.w) X.A (noteFrame e X.env) (fun _ s₂ => wpAny (model X.prog X.w) X.A (setFlight e none) (fun _ s₃ =>
    wpAny (model X.prog X.w) X.A (handleBy e X.env (h₀ :: hds)) (SP X pins D) X.xe s₃) X.xe s₂) X.xe s₁) (fun u s' xx => ?_) PassesOwn.looking).run [] s σ H D (I.toTry _) h) (fun f s1 hsp => ?_) (fun e s1 he => he)
  · obtain ⟨a, B, sI, pins', σ', H', cls, d, rfl, J', nb, up, sky, na, os, ag, w⟩ := xx
    have J : Inv X pins σ' H' sI := J'.ofTry ok
    have sky' : Sky B (X.env :: X.outer) a (Zc cls d) X.env.locals s'.heap := by rw [← hs]; exact sky
    show wpAny (model X.prog X.w) X.A (noteFrame (.ref a) X.env) _ _ _
    refine Sky.land Zc.steady hfr hf sky' fun h3 fl3 up3 => ?_
    have J3 : Inv X pins σ' H' { s' with heap := h3 } := J.landed nb fl3.1 (up.trans up3) os ag
    obtain ⟨oe3, vs3, he3, hz3, hd3⟩ := fl3.there
    have notFr : ∀ {h : Heap} {o : Obj} {vs : Array Value}, h.FunFrames B (X.env :: X.outer) → h.get? a = some o → o.data = .fields vs → a ∉ frs (X.env :: X.outer) := fun {h o vs} ff e dd hm => by
      obtain ⟨_, o', e', hnf⟩ := ff.mem hm
      rw [e] at e'; cases e'
      exact hnf _ dd
    have nfr := notFr fl3.2.2.1 he3 hd3
    have nL : a ≠ X.env.locals := fun z => nfr (List.mem_filterMap.mpr ⟨X.env, List.mem_cons_self, by rw [hf, z]⟩)
    have nF : a ∉ X.fs := fun hm => by
      obtain ⟨e, he, q⟩ := List.mem_filterMap.mp hm
      exact nfr (List.mem_filterMap.mpr ⟨e, List.mem_cons_of_mem _ he, q⟩)
    have S3 := J3.suite he3 hd3 na nL nF
    have go : ∀ {hds' : List ExceptHandler} {l' : Clauses}, HdsAs X n hds' l' → wAsM X.K i D l' cls d σ' H' →
        wpAny (model X.prog X.w) X.A (handleBy (.ref a) X.env hds') (SP X pins D) X.xe { s' with heap := h3 } := by
      intro hds' l' hk
      induction hk with
      | nil => intro w; exact False.elim w
      | @cons x c ts b₀ suite np pos' hds2 l2 hc hsu r ih =>
        intro w
        obtain ⟨b, hb1, hyes, hno⟩ := w
        refine wpAny_handleBy_cons (codeAny_handlers_test ?_) (by intro q; cases q)
        have LT : PySem.W.Looks (model X.prog X.w) h3 (typeOf (.ref a)) cls := fun A Q E s k q => wpAny_typeOf_ref (k _ _ he3) (by rw [hz3.1]; exact q)
        have LM := PySem.W.exm_one (M := model X.prog X.w) (J3.kIn) LT hb1
        have test : ∀ {Q : Value → Shared → Prop} {E : Value → Shared → Prop}, Q c { s' with heap := h3 } → wpAny (model X.prog X.w) (X.A.mark (some (.ref a))) (eval (.Name x np) X.env) Q E { s' with heap := h3 } := fun {Q E} q => by
          obtain ⟨hg, hdbg, hm | ⟨hm, hv, hnn⟩⟩ := hc
          · exact ld_glob (X := X.suite a ((a, oe3) :: (X.pn ++ pins))) S3 hg hm q hdbg
          · exact ld_blt (X := X.suite a ((a, oe3) :: (X.pn ++ pins))) S3 hg hm hv q hnn hdbg
        refine test (LM.here ?_)
        cases b with
        | true =>
          refine codeAny_handlers_suite_as ?_
          refine HandSPX.lands_againZ fl3 fun h4 fl4 up4 => ?_
          have J4 : Inv X pins σ' H' { s' with heap := h4 } := J.landed nb fl4.1 ((up.trans up3).trans up4) os ag
          obtain ⟨oe4, vs4, he4, hz4, hd4⟩ := fl4.there
          have S4 := J4.suite he4 hd4 na nL nF
          refine store_ok (X := X.suite a ((a, oe4) :: (X.pn ++ pins))) (v := .ref a) S4 hN hi hloc rfl (fun s5 S5 => ?_) (.inr hln)
          refine wpAny_mono ((hsu a oe4 cls d (X.pn ++ pins) hz4 ⟨_, hd4⟩).run [] s5 _ H' _ S5 (hyes rfl (by rw [J.len]; exact (List.getElem?_eq_some_iff.mp hi).1) a na)) (fun f s6 hsp => ?_) (fun _ _ z => False.elim z)
          have end_ : ∀ {σ6 : L2.St} {H6 : Hp} {Q : Shared → Prop}, Inv (X.suite a ((a, oe4) :: (X.pn ++ pins))) [] σ6 H6 s6 → (∀ s7, Inv X pins (σ6.set i none) H6 s7 → Q s7) →
              wpAny (model X.prog X.w) X.A (do bindName X.env n .none; unbindBehindTheSuite X.env n pos') (fun _ s7 => Q s7) X.xe s6 := fun {σ6 H6 Q} S6 hq => gone_ok (S6.unsuite ok) hN hi hln hq
          cases f with
          | next =>
            obtain ⟨σ6, H6, S6, q6⟩ := hsp
            exact end_ S6 fun s7 J7 => ⟨_, _, J7, q6⟩
          | brk =>
            obtain ⟨σ6, H6, S6, q6⟩ := hsp
            exact end_ S6 fun s7 J7 => ⟨_, _, J7, q6⟩
          | cont =>
            obtain ⟨σ6, H6, S6, q6⟩ := hsp
            exact end_ S6 fun s7 J7 => ⟨_, _, J7, q6⟩
          | ret u =>
            obtain ⟨v6, σ6, H6, S6, r6, q6⟩ := hsp
            exact end_ S6 fun s7 J7 => ⟨_, _, _, J7, r6, q6⟩
        | false =>
          show wpAny _ X.A (handleBy (.ref a) X.env hds2) _ _ _
          exact ih (hno rfl)
    exact go hh w
  · cases f with
    | next =>
      obtain ⟨σ', H', J', q⟩ := hsp
      exact wpAny_execs_nil ⟨σ', H', J'.ofTry ok, q⟩
    | brk =>
      obtain ⟨σ', H', J', q⟩ := hsp
      exact ⟨σ', H', J'.ofTry ok, q⟩
    | cont =>
      obtain ⟨σ', H', J', q⟩ := hsp
      exact ⟨σ', H', J'.ofTry ok, q⟩
    | ret u =>
      obtain ⟨v, σ', H', J', r, q⟩ := hsp
      exact ⟨v, σ', H', J'.ofTry ok, r, q⟩
end
/-! ### told: try: return ("value", deed()) / except C as why: return ("C", why.f, ..) -/
/-- one clause: the class, what it is called, its fields in the order in which they are told -/
abbrev TTab := List (Addr × Str × List Str)
/-- what the clauses make of an exception -/
def wTold (K : PySem.W.Frag) (Q : VK) : TTab → Value → Option Addr → Hp → Prop
  | [], _, _, _ => False
  | (C, x, fs) :: r, cls, d, H => ∃ b, PySem.W.exmOne K cls (.ref C) = some b ∧
      (b = true → cls = .ref C ∧ ∃ (dd : Addr) (l : List (Str × V)) (vs : List V), d = some dd ∧ H dd = some (.xd l) ∧ (fs.map fun f => l.lookup f) = vs.map some ∧ vs.length ≤ 100 ∧ ∀ t, H t = none → Q (.ref t) (upd H t (.tup (.str x :: vs)))) ∧
      (b = false → wTold K Q r cls d H)
def TTold (K : PySem.W.Frag) (tab : TTab) : (XK → Hp → VK → Prop) → Hp → VK → Prop := fun tl H Q =>
  tl (fun cls d H' => wTold K Q tab cls d H') H (fun v H' => ([.str "value", v] : List V).length ≤ sizeLine ∧ ∀ t, H' t = none → Q (.ref t) (upd H' t (.tup [.str "value", v])))
/-- what the top says of a class that is caught -/
structure XRd (K : PySem.W.Frag) (mg : Str → Option Value) (x : Str) (C : Addr) (fs : List Str) : Prop where
  g : mg x = some (.ref C)
  t : XfC K C
  no : ∀ f ∈ fs, PySem.W.findIn K (.ref C) f = some none
/-- the clauses of such a def, n the name in them -/
inductive ToldHs (K : PySem.W.Frag) (mg : Str → Option Value) (sg : Scope) (n : Str) : List ExceptHandler → TTab → Prop
  | nil : ToldHs K mg sg n [] []
  | one {x f : Str} {C : Addr} {hds : List ExceptHandler} {l : TTab} {j k : Nat} {p1 p2 p3 p4 p5 p6 p7 : Pos} (h : XRd K mg x C [f]) (hg : sg.names.lookup x = some .globalImplicit) (hd : (x == ("__debug__" : Str)) = false) (r : ToldHs K mg sg n hds l) :
      ToldHs K mg sg n (.ExceptHandler (some (.Name x p1)) (some n) [.Return (some (.Tuple [.Constant (.str x) j p2, .Attribute (.Name n p3) f p4] k p5)) p6] p7 :: hds) ((C, x, [f]) :: l)
  | two {x f f2 : Str} {C : Addr} {hds : List ExceptHandler} {l : TTab} {j k : Nat} {p1 p2 p3 p4 p5 p6 p7 p8 p9 : Pos} (h : XRd K mg x C [f, f2]) (hg : sg.names.lookup x = some .globalImplicit) (hd : (x == ("__debug__" : Str)) = false) (r : ToldHs K mg sg n hds l) :
      ToldHs K mg sg n (.ExceptHandler (some (.Name x p1)) (some n) [.Return (some (.Tuple [.Constant (.str x) j p2, .Attribute (.Name n p3) f p4, .Attribute (.Name n p8) f2 p9] k p5)) p6] p7 :: hds) ((C, x, [f, f2]) :: l)
/-- the suites' readings -/
def tSuite1 (i : Nat) (C : Addr) (y f : Str) : Addr → Value → Option Addr → TS := fun a cls d => tRet (tTup (tCons (tC (.str y)) (tCons (tXf a cls d C f (tVar i)) tNil)))
def tSuite2 (i : Nat) (C : Addr) (y f f2 : Str) : Addr → Value → Option Addr → TS := fun a cls d => tRet (tTup (tCons (tC (.str y)) (tCons (tXf a cls d C f (tVar i)) (tCons (tXf a cls d C f2 (tVar i)) tNil))))
def clausesOf (i : Nat) : TTab → Clauses
  | [] => []
  | (C, y, [f]) :: r => (.ref C, tSuite1 i C y f) :: clausesOf i r
  | (C, y, [f, f2]) :: r => (.ref C, tSuite2 i C y f f2) :: clausesOf i r
  | _ :: r => clausesOf i r
theorem tabOk {K : PySem.W.Frag} {mg : Str → Option Value} {sg : Scope} {n : Str} {X : Cx} {i : Nat} (hK : X.K = K) (hmg : X.mg = mg) (hsg : X.env.scope = sg) (hgl : X.env.scope.kind = .function) (hi : X.N[i]? = some n) (hv : Vis sg n) (hdn : (n == ("__debug__" : Str)) = false) (hcn : (n == ("__classdict__" : Str)) = false) :
    ∀ {hds : List ExceptHandler} {tab : TTab}, ToldHs K mg sg n hds tab → HdsAs X n hds (clausesOf i tab) := by
  subst hK hmg hsg
  intro hds tab hh
  have pv' : ∀ (a : Addr) (oe : Obj) (pn : List (Addr × Obj)) (p : Pos), PE (X.suite a ((a, oe) :: pn)) (.Name n p) (tVar i) := fun a oe pn p => pe_var hi hv hdn hcn
  induction hh with
  | nil => exact .nil
  | @one x f C hds l j k p1 p2 p3 p4 p5 p6 p7 h hg hd r ih =>
    refine .cons ⟨hg, hd, .inl h.g⟩ (fun a oe cls d pn hz hf => ?_) ih
    exact pss_one (ps_ret (pe_tup (pa_cons pe_str (pa_cons (pe_xf h.t (h.no f (by simp)) hz hf (pv' a oe pn _)) pa_nil))))
  | @two x f f2 C hds l j k p1 p2 p3 p4 p5 p6 p7 p8 p9 h hg hd r ih =>
    refine .cons ⟨hg, hd, .inl h.g⟩ (fun a oe cls d pn hz hf => ?_) ih
    exact pss_one (ps_ret (pe_tup (pa_cons pe_str (pa_cons (pe_xf h.t (h.no f (by simp)) hz hf (pv' a oe pn _)) (pa_cons (pe_xf h.t (h.no f2 (by simp)) hz hf (pv' a oe pn _)) pa_nil)))))
/-- one or two fields -/
def tabWf : TTab → Prop
  | [] => True
  | (_, _, fs) :: r => (fs.length = 1 ∨ fs.length = 2) ∧ tabWf r
theorem map1 {α β : Type} {f : α → β} {x : β} : ∀ {l : List α}, [x] = l.map f → ∃ a, l = [a] ∧ x = f a
  | [], h => by simp at h
  | [a], h => ⟨a, rfl, by simpa using h⟩
  | _ :: _ :: _, h => by simp at h
theorem map2 {α β : Type} {f : α → β} {x y : β} : ∀ {l : List α}, [x, y] = l.map f → ∃ a b, l = [a, b] ∧ x = f a ∧ y = f b
  | [], h => by simp at h
  | [a], h => by simp at h
  | [a, b], h => ⟨a, b, rfl, by simpa using h⟩
  | _ :: _ :: _ :: _, h => by simp at h
theorem told_w {K : PySem.W.Frag} {Q : VK} {D : Ends} {i : Nat} {cls : Value} {d : Option Addr} {σ : L2.St} {H : Hp} (hQ : D.rt = Q) : ∀ (tab : TTab), tabWf tab → wTold K Q tab cls d H → wAsM K i D (clausesOf i tab) cls d σ H
  | [], _, h => h
  | (C, y, fs) :: r, hw, h => by
    obtain ⟨b, e1, e2, e3⟩ := h
    have get : i < σ.length → ∀ a : Addr, (σ.set i (some (V.ref a)))[i]? = some (some (V.ref a)) := fun hi a => by rw [List.getElem?_set_self hi]
    match fs, hw with
    | [f], hw =>
      refine ⟨b, e1, fun hb hi a ha => ?_, fun hb => told_w hQ r hw.2 (e3 hb)⟩
      obtain ⟨ec, dd, l, vs, ed, eh, em, hl, q⟩ := e2 hb
      obtain ⟨v, rfl, ev⟩ := map1 em
      refine ⟨.ref a, get hi a, rfl, ec, dd, l, v, ed, eh, ev, ?_, fun t ht => ?_⟩
      · rw [sizeLine_eq]; show 2 ≤ 16777216; decide
      · show D.rt _ _
        rw [hQ]; exact q t ht
    | [f, f2], hw =>
      refine ⟨b, e1, fun hb hi a ha => ?_, fun hb => told_w hQ r hw.2 (e3 hb)⟩
      obtain ⟨ec, dd, l, vs, ed, eh, em, hl, q⟩ := e2 hb
      obtain ⟨v, v2, rfl, ev, ev2⟩ := map2 em
      refine ⟨.ref a, get hi a, rfl, ec, dd, l, v, ed, eh, ev, .ref a, get hi a, rfl, ec, dd, l, v2, ed, eh, ev2, ?_, fun t ht => ?_⟩
      · rw [sizeLine_eq]; show 3 ≤ 16777216; decide
      · show D.rt _ _
        rw [hQ]; exact q t ht
    | [], hw => exact absurd hw.1 (by simp)
    | _ :: _ :: _ :: _, hw => exact absurd hw.1 (by simp)
theorem told_gives {X : Cx} {x a n q : Str} {sg : Scope} {g : Addr} {cdg : Value} {j k : Nat} {p1 p2 p3 p4 p5 p6 : Pos} {h₀ : ExceptHandler} {hds : List ExceptHandler} {tab : TTab}
    (ha : ToldHs X.K X.mg sg n (h₀ :: hds) tab) (hw : tabWf tab) (hk : sg.kind = .function) (hv : Vis sg n) (hln : sg.names.lookup n = some .local) (hne : a ≠ n) (hdn : (n == ("__debug__" : Str)) = false) (hcn : (n == ("__classdict__" : Str)) = false) :
    LamX.GivesTo X [a, n] x sg g cdg [.Try [.Return (some (.Tuple [.Constant (.str "value") j p1, .Call (.Name a p2) [] [] p3] k p4)) p5] (h₀ :: hds) [] [] p6] a q (TTold X.K tab) := by
  intro f c' s H Q tl act hc h
  refine ⟨_, pss_one (ps_try_asM (X := (cxOf C8.CX0 X.prog X.w X.K X.mg X.base [a, n] x sg g cdg X.A X.stack s H C8.E0).nox) (i := 1) (l := clausesOf 1 tab)
      (tb := fun W D σ H => ∃ Ech : XK, (∀ cls d σ' H', Ech cls d H' → W cls d σ' H') ∧ σ[0]? = some (some (.ref f)) ∧ H c' = some (LamX.CodeO c' q) ∧ tl Ech H (fun v H' => ([.str "value", v] : List V).length ≤ sizeLine ∧ ∀ t, H' t = none → D.rt (.ref t) (upd H' t (.tup [.str "value", v]))))
      rfl rfl (show ([a, n] : List Str).Nodup by simp [hne]) rfl hln (fun W pn xe tk _ => ?_) (tabOk rfl rfl rfl hk rfl hv hdn hcn ha)), ?_⟩
  · refine ⟨fun pins s' σ H' D I h' => ?_⟩
    obtain ⟨Ech, hW, h1, h2, h3⟩ := h'
    have hp := act W pn xe Ech p2 p3 tk hW
    have hq := pss_one (ps_ret (pos := p5) (pe_tup (pos := p4) (x1 := k) (pa_cons (pe_str (x := "value") (j := j) (pos := p1)) (pa_cons hp pa_nil))))
    exact hq.run pins s' σ H' D I ⟨h1, h2, h3⟩
  · refine ⟨fun cls d H' => wTold X.K Q tab cls d H', fun cls d σ' H' w => told_w (σ := σ') rfl tab hw w, rfl, hc, h⟩
/-! ### as data -/
def toldTab : List (Str × List Str) := [("BadValue", ["at"]), ("BadText", ["at"]), ("Unknown", ["name"]), ("NoChance", ["word"]), ("Crowded", ["first", "last"]), ("NoDay", ["name"]), ("Missing", ["at"]), ("TakenName", ["name"]), ("Short", ["rows"])]
def toldOk (x : Str) (fs : List Str) (n : Nat) : Bool := (toldTab.any fun p => decide (p.1 = x) && decide (p.2 = fs.reverse)) && (decide fs.Nodup && decide (n = fs.length))
def eTold (m : SE) : SE := fun ds h => match m ds h with
  | .ok v h' => .ok (.tup [.str "value", v]) h'
  | .ex x fs vs h' => if toldOk x fs vs.length = true then .ok (.tup (.str x :: vs.reverse)) h' else .bad
  | .bad => .bad
def exmAll (K : PySem.W.Frag) : TTab → Bool
  | [] => true
  | (C, _, _) :: r => decide (PySem.W.exmOne K (.ref C) (.ref C) = some true) && (r.all (fun p => decide (PySem.W.exmOne K (.ref p.1) (.ref C) = some false)) && exmAll K r)
theorem told_hit {K : PySem.W.Frag} {Q : VK} {C dd : Addr} {x : Str} {fs : List Str} {l : List (Str × V)} {vs : List V} {H : Hp} (hd : H dd = some (.xd l)) (hm : (fs.map fun f => l.lookup f) = vs.map some) (hl : vs.length ≤ 100) (q : ∀ t, H t = none → Q (.ref t) (upd H t (.tup (.str x :: vs)))) :
    ∀ tab : TTab, exmAll K tab = true → (C, x, fs) ∈ tab → wTold K Q tab (.ref C) (some dd) H
  | [], _, h => by simp at h
  | (C0, x0, fs0) :: r, he, h => by
    unfold exmAll at he
    simp only [Bool.and_eq_true, decide_eq_true_eq, List.all_eq_true] at he
    rcases List.mem_cons.mp h with h | h
    · cases h
      exact ⟨true, he.1, fun _ => ⟨rfl, dd, l, vs, rfl, hd, hm, hl, q⟩, (fun z => by cases z)⟩
    · exact ⟨false, he.2.1 _ h, (fun z => by cases z), fun _ => told_hit hd hm hl q r he.2.2 h⟩
theorem lookup_zip : ∀ {fs : List Str} {vs : List V}, fs.Nodup → fs.length = vs.length → (fs.map fun f => (fs.zip vs).lookup f) = vs.map some
  | [], [], _, _ => rfl
  | [], _ :: _, _, h => by simp at h
  | _ :: _, [], _, h => by simp at h
  | f :: fs, v :: vs, hn, hl => by
    obtain ⟨h1, h2⟩ := List.nodup_cons.mp hn
    have ih := lookup_zip (fs := fs) (vs := vs) h2 (by simpa using hl)
    simp only [List.map_cons, List.zip_cons_cons, List.lookup_cons_self, List.cons.injEq, true_and]
    rw [← ih]
    refine List.map_congr_left fun g hg => ?_
    rw [lookup_put]
    exact if_neg fun (e : g = f) => h1 (by rw [← e]; exact hg)
/-- the def of the text that calls what it got -/
structure TellTxt (K : PySem.W.Frag) (mg : Str → Option Value) (st : Stmt) : Prop where
  D : DefAt K mg "_law_told" "_law_told" st ["deed"]
  S : FnScope ["deed", "why"] ["deed"] (defScope st)
  k : (defScope st).kind = .function
  vd : Vis (defScope st) "deed"
  vw : (defScope st).names.lookup ("why" : Str) = some .local
  ex : ∃ (tab : TTab) (j k : Nat) (p1 p2 p3 p4 p5 p6 : Pos) (h₀ : ExceptHandler) (hds : List ExceptHandler),
    defBody st = [.Try [.Return (some (.Tuple [.Constant (.str "value") j p1, .Call (.Name "deed" p2) [] [] p3] k p4)) p5] (h₀ :: hds) [] [] p6] ∧ ToldHs K mg (defScope st) "why" (h₀ :: hds) tab ∧
    tab.map (·.2) = toldTab ∧ exmAll K tab = true
theorem toldHs_g {K : PySem.W.Frag} {mg : Str → Option Value} {sg : Scope} {n : Str} {hds : List ExceptHandler} {tab : TTab} (h : ToldHs K mg sg n hds tab) : tabWf tab := by
  induction h with
  | nil => trivial
  | one h hg hd r ih => exact ⟨.inl rfl, ih⟩
  | two h hg hd r ih => exact ⟨.inr rfl, ih⟩
theorem toldHs_m {K : PySem.W.Frag} {mg : Str → Option Value} {sg : Scope} {n : Str} {hds : List ExceptHandler} {tab : TTab} (h : ToldHs K mg sg n hds tab) : ∀ q ∈ tab, mg q.2.1 = some (.ref q.1) := by
  induction h with
  | nil => intro q hq; simp at hq
  | one h hg hd r ih =>
    intro q hq
    rcases List.mem_cons.mp hq with rfl | hq
    · exact h.g
    · exact ih q hq
  | two h hg hd r ih =>
    intro q hq
    rcases List.mem_cons.mp hq with rfl | hq
    · exact h.g
    · exact ih q hq
/-! ### a lambda is made: nothing that was tracked is lost -/
section
variable {X : Cx} {pins : List (Addr × Obj)} {σ : L2.St} {H : Hp} {s : Shared}
theorem lam_make3 {T : List (Addr × Str)} {c P : Addr} {params : Arguments} {body : Expr} {scope : Scope} {pos : Pos} {E : Value → Shared → Prop} {Q : Value → Shared → Prop} (I : Inv X pins σ H s) (TB : LamX.TabB X.base X.mg c P) (hcode : X.env.code = .ref c)
    (hm : (P, X.env.qual ++ "<lambda>") ∈ T) (hu : ∀ p ∈ T, p.1 = P → p.2 = X.env.qual ++ "<lambda>") (hT : LamX.Tabs T H) (hdef : defaultsOf params X.env = ([], [])) (hfree : ∀ y ∈ scope.names, y.2 = .free → ∃ c, X.env.cells.lookup y.1 = some c)
    (h : ∀ (f c' : Addr) (pm ctv : Value) (H1 : Hp) (s' : Shared), Inv X pins σ H1 s' → LamX.ExtN H H1 → (∀ b, H1 b = none → H b = none) → LamX.Tabs T H1 →
      s'.heap.get? f = some (PySem.W.kla_obj "<lambda>" (X.env.qual ++ "<lambda>") params body scope (cloFrom X.env.cells scope.names []) pm c' ctv) → H1 f = none → f ∉ frs X.stack → H1 c' = some (LamX.CodeO c' (X.env.qual ++ "<lambda>")) → Q (.ref f) s') :
    wpAny (model X.prog X.w) X.A (eval (.Lambda params body scope pos) X.env) Q E s := by
  obtain ⟨ps, hP, ht, ha⟩ := hT _ hm
  refine PySem.W.kla_eval hdef ?_
  have bP : s.heap.BuiltinsAt X.mg P := TB.bm.keeps I.bk
  have hP' : s.heap.get? P = some { cls := .none, data := .fields ps } := I.hok P _ hP
  have nofr : ∀ f, s.heap.objs.size ≤ f → f ∉ frs X.stack := fun f hf z => by
    rcases List.mem_cons.mp (I.stkSub _ z) with e | e
    · have h1 := I.lt
      rw [← e] at h1
      exact Nat.lt_irrefl _ (Nat.lt_of_lt_of_le h1 hf)
    · exact I.nofs hf e
  cases hc : codeAmong pos ps.toList with
  | none =>
    refine PySem.W.kla_makeFunction (mg := X.mg) (c := c) (P := P) (ps := ps) (closure_ok hfree) I.ok.glob (I.mod.glob.keeps I.bk) hcode (TB.code.keeps I.bk) hP' ht hc TB.gP bP fun c' ctv h' tk hx hge hlt hrec htb => ?_
    obtain ⟨c2, oc, vs, t, e2, hoc, hd, hv⟩ := hrec
    cases e2
    have hsz : s.heap.objs.size ≤ h'.objs.size := Nat.le_trans hge (Nat.le_of_lt hlt)
    have nC : H c' = none := I.hok.fresh hge
    have I1 := LamX.inv_table (t' := tk) (more := #[rawInt pos.line, rawInt pos.col, .ref c']) (h' := h'.push (PySem.W.kla_obj "<lambda>" (X.env.qual ++ "<lambda>") params body scope (cloFrom X.env.cells scope.names []) ((X.mg "__name__").getD .none) c' ctv)) I hP
      (fun b o hb e => Heap.get?_push_of_some _ (hx b o hb e)) (Heap.get?_push_of_some _ htb) hge ⟨oc, vs, t, Heap.get?_push_of_some _ hoc, hd, hv⟩
    have hE : LamX.ExtN H (upd (upd H P (.tbl (ps ++ #[rawInt pos.line, rawInt pos.col, .ref c']))) c' (LamX.CodeO c' (X.env.qual ++ "<lambda>"))) := fun b o e n => by
      rw [upd_ne (ne_of_none e nC), upd_ne (fun z => n ps (Option.some.inj (e.symm.trans (by rw [z]; exact hP))))]
      exact e
    have hDom : ∀ b, upd (upd H P (.tbl (ps ++ #[rawInt pos.line, rawInt pos.col, .ref c']))) c' (LamX.CodeO c' (X.env.qual ++ "<lambda>")) b = none → H b = none := fun b z => by
      by_cases h1 : b = c'
      · rw [h1, upd_same] at z; cases z
      · rw [upd_ne h1] at z
        by_cases h2 : b = P
        · rw [h2, upd_same] at z; cases z
        · rw [upd_ne h2] at z; exact z
    have eL : (ps ++ #[rawInt pos.line, rawInt pos.col, .ref c']).toList = ps.toList ++ [rawInt pos.line, rawInt pos.col, .ref c'] := by simp
    refine h h'.objs.size c' ((X.mg "__name__").getD .none) ctv _ _ I1 hE hDom (fun p hp => ?_) (Heap.get?_push_size _ rfl) ?_ (nofr _ hsz) upd_same
    · by_cases hb : p.1 = P
      · rw [hu p hp hb, hb]
        refine ⟨_, by rw [upd_ne (ne_of_none hP nC), upd_same], by rw [eL]; exact PySem.TriplesOk_snoc _ _ _ _ ht, fun p' cv hcv => ?_⟩
        rw [eL] at hcv
        rcases LamX.among_app _ ht hcv with z | z
        · obtain ⟨c0, e1, e2⟩ := ha p' cv z
          exact ⟨c0, e1, hE _ _ e2 LamX.codeO_ne⟩
        · exact ⟨c', z, upd_same⟩
      · obtain ⟨ps', a1, a2, a3⟩ := hT p hp
        refine ⟨ps', by rw [upd_ne (ne_of_none a1 nC), upd_ne hb]; exact a1, a2, fun p' cv hcv => ?_⟩
        obtain ⟨c0, e1, e2⟩ := a3 p' cv hcv
        exact ⟨c0, e1, hE _ _ e2 LamX.codeO_ne⟩
    · have n1 : h'.objs.size ≠ c' := Nat.ne_of_gt hlt
      have n2 : h'.objs.size ≠ P := Nat.ne_of_gt (Nat.lt_of_lt_of_le (Heap.lt_size hP') hsz)
      rw [upd_ne n1, upd_ne n2]
      exact I.hok.fresh hsz
  | some cv =>
    obtain ⟨c', e, hco⟩ := ha pos cv hc
    subst e
    refine PySem.W.kla_makeFunctionHit (mg := X.mg) (c := c) (P := P) (ps := ps) (closure_ok hfree) I.ok.glob (I.mod.glob.keeps I.bk) hcode (TB.code.keeps I.bk) hP' ht hc bP fun ctv h' tk hx hsz => ?_
    have I1 : Inv X pins σ H { s with heap := h'.push (PySem.W.kla_obj "<lambda>" (X.env.qual ++ "<lambda>") params body scope (cloFrom X.env.cells scope.names []) ((X.mg "__name__").getD .none) c' ctv), toks := tk } := I.kept fun b o e => Heap.get?_push_of_some _ (hx b o e)
    exact h h'.objs.size c' ((X.mg "__name__").getD .none) ctv H _ I1 (LamX.ExtN.refl H) (fun _ z => z) hT (Heap.get?_push_size _ rfl) (I.hok.fresh hsz) (nofr _ hsz) hco
def tLam3 (T : List (Addr × Str)) (TT : (XK → Hp → VK → Prop) → Hp → VK → Prop) (t : XK → TE) : TE := fun σ H Q => LamX.Tabs T H ∧ ∀ H1, LamX.ExtN H H1 → (∀ b, H1 b = none → H b = none) → LamX.Tabs T H1 → TT (fun E H' Q' => t E σ H' Q') H1 Q
theorem pe_lamcall3 {T : List (Addr × Str)} {TT : (XK → Hp → VK → Prop) → Hp → VK → Prop} {x a : Str} {g c P : Addr} {k : Nat} {pg : Arguments} {bg : List Stmt} {sg : Scope} {dV kV doc pm cdv ct oc : Value} {an od : Option Addr} {osl : Array (Option Value)} {Ng : List Str}
    {params : Arguments} {body : Expr} {scope : Scope} {t : XK → TE} {p lpos pos : Pos} (hg : Gl X x) (hm : X.mg x = some (.ref g)) (hk : PySem.W.keepIn X.K (.ref g) = true)
    (lk : X.K.lookup g = some ⟨oc, od, .func (PySem.W.fnOf x x pg bg sg dV kV doc pm an cdv ct), osl⟩) (hcg : PySem.W.codeIn X.K cdv x = true) (hb : L2.Binds X.K (PySem.W.fnOf x x pg bg sg dV kV doc pm an cdv ct) [a] []) (Sg : FnScope Ng [a] sg) (hNg : Ng[0]? = some a) (hva : Vis sg a)
    (hG : LamX.GivesTo X Ng x sg g cdv bg a (X.env.qual ++ "<lambda>") TT)
    (TB : LamX.TabB X.base X.mg c P) (hcode : X.env.code = .ref c) (hmT : (P, X.env.qual ++ "<lambda>") ∈ T) (hu : ∀ p ∈ T, p.1 = P → p.2 = X.env.qual ++ "<lambda>") (hr : Room (k + 2) X.A) (L : LamX.LamS X.env.scope scope) (hdef : defaultsOf params X.env = ([], []))
    (hbind : ∀ (q : Str) (cl : List (Str × Addr)) (pm cv ctv : Value), bindArgs (PySem.W.kla_fn "<lambda>" q params body scope cl pm cv ctv) ⟨[], []⟩ = pure [])
    (hbody : ∀ (A : Around) (outer : List Env) (s : Shared) (H : Hp) (E : XK) (f c' : Addr), Room k (A.deeper (LamX.lamEnv X scope s.heap.objs.size f c')) → PE (LamX.lamCx X A outer s H E scope f c') body (t E))
    (hdb : (x == ("__debug__" : Str)) = false := by decide) (hd : (a == ("__debug__" : Str)) = false := by decide) (hcd : (a == ("__classdict__" : Str)) = false := by decide) :
    PE X (.Call (.Name x p) [.Lambda params body scope lpos] [] pos) (tLam3 T TT t) := by
  refine ⟨fun pins s σ H Q I h => ?_⟩
  obtain ⟨hT, h⟩ := h
  refine wpAny_Call_Name_kw (ld_glob I hg hm ?_ hdb)
  refine PySem.W.callWith_K (h₀ := X.base) I.ok.mod.kin hk ?_ (by rfl) (by rfl)
  show wpAny _ _ (spliced ((false, eval (.Lambda params body scope lpos) X.env) :: backTo pos (starEach [] X.env))) _ _ s
  refine Calls.spliced_cons (lam_make3 I TB hcode hmT hu hT hdef (L.has I.ok) fun f c' pm' ctv H1 s' I1 eN eD T1 hf hfn hfr hco => ?_)
  refine Calls.spliced_nil ⟨I1.kIn, ?_⟩
  have rc : codeAny (model X.prog X.w) X.A (.call (.ref g) ⟨[.ref f], []⟩) (CR C8.CX0 X.stack X.prog X.w H1 s' Q C8.E0) s' := by
    refine LamX.run_ofS (N := Ng) (ps := [a]) (us := [.ref f]) (vs := [.ref f]) lk hcg Sg hr I1.env0 (hb s' [.ref f] I1.kIn rfl) (.cons rfl .nil) rfl fun hr' => ?_
    obtain ⟨t', ht', hq'⟩ := hG f c' s' H1 Q (fun E H' Q' => t E σ H' Q') (fun W pn xe E p1 p2 tk hW => LamX.pe_act (i := 0) I1 L hf hfn hfr (hbind _ _ _ _ _) tk hW hr' (fun A outer s H hr2 => hbody A outer s H E f c' hr2) hNg hva hd hcd) hco (h H1 eN eD T1)
    exact ⟨t', ht'.nox, hq'⟩
  refine wpAny_call (codeAny_mono rc fun r s2 hq => ?_)
  cases r with
  | error e => exact (show False from hq).elim
  | ok fl =>
    cases fl with
    | ret u => exact I1.after hq
    | next => exact False.elim hq
    | brk => exact False.elim hq
    | cont => exact False.elim hq
end
section
variable {X : Cx} {W : WX} {k : Nat} {st : Stmt} {c P : Addr} {params : Arguments} {body : Expr} {scope : Scope} {m : SE} {p lpos pos : Pos}
/-- the same world over another heap -/
def _root_.Mp.Wo.at (ω : Wo) (H : Hp) : Wo := { ω with H := H }
/-- the reading of a told exception -/
theorem told_read {K : PySem.W.Frag} {mg : Str → Option Value} {tab : TTab} {ω : Wo} {h : Hc} {x : Str} {fs : List Str} {vs : List D} {cls : Value} {dx : Option Addr} {Q : VK} {σ : L2.St} (ht : tab.map (·.2) = toldTab) (he : exmAll K tab = true) (hg : ∀ q ∈ tab, mg q.2.1 = some (.ref q.1))
    (ok : toldOk x fs vs.length = true) (r : Rel K ω h) (rx : RelX K mg ω x fs vs cls dx) (q : Post K mg W0 σ ω (RelD K) Q (.ok (.tup (.str x :: vs.reverse)) h)) : wTold K Q tab cls dx ω.H := by
  obtain ⟨C, dd, us, rfl, rfl, gC, hd, hl, rl⟩ := rx
  unfold toldOk at ok
  simp only [Bool.and_eq_true, List.any_eq_true, decide_eq_true_eq] at ok
  obtain ⟨⟨p0, hp, e1, e2⟩, nd, ln⟩ := ok
  rw [← ht] at hp
  obtain ⟨q0, hq, e3⟩ := List.mem_map.mp hp
  have gq := hg q0 hq
  have ex : q0.2.1 = x := by rw [e3, e1]
  rw [ex, gC] at gq
  have eC : C = q0.1 := by injection gq with z; injection z
  have mem : (C, x, fs.reverse) ∈ tab := by
    have : q0 = (C, x, fs.reverse) := by
      rw [eC, ← ex, ← e2, ← e3]
    rw [← this]; exact hq
  have lz := lookup_zip nd hl
  refine told_hit (vs := us.reverse) hd ?_ ?_ (fun t hn => ?_) tab he mem
  · rw [List.map_reverse, lz, List.map_reverse]
  · rw [List.length_reverse, ← hl]
    have : fs.length ≤ 2 := by
      have : fs.reverse ∈ toldTab.map (·.2) := by
        rw [← ht]
        exact List.mem_map.mpr ⟨_, List.mem_map.mpr ⟨_, mem, rfl⟩, rfl⟩
      have a : ∀ l ∈ toldTab.map (·.2), l.length ≤ 2 := by decide +kernel
      have := a _ this
      rwa [List.length_reverse] at this
    omega
  · refine q (.ref t) (ω.up t (.tup (.str x :: us.reverse))) (Ext.up hn) (r.up hn) ?_
    unfold RelD
    refine ⟨t, _, rfl, .t upd_same, monoL r (Ext.up hn) _ _ (RelL.cons str_rd rl.reverse)⟩
theorem de_told (T : TellTxt X.K X.mg st) (TB : LawTab X.K X.mg X.base c P) (hcode : X.env.code = .ref c) (hq : X.env.qual ++ "<lambda>" = ("law.<locals>.<lambda>" : Str)) (hr : Room (k + 2) X.A) (L : LamX.LamS X.env.scope scope) (hg : Gl X "_law_told")
    (hdef : defaultsOf params X.env = ([], []))
    (hbind : ∀ (q : Str) (cl : List (Str × Addr)) (pm cv ctv : Value), bindArgs (PySem.W.kla_fn "<lambda>" q params body scope cl pm cv ctv) ⟨[], []⟩ = pure [])
    (hbody : ∀ (A : Around) (outer : List Env) (s : Shared) (H : Hp) (E : XK) (f c' : Addr), Room k (A.deeper (LamX.lamEnv X scope s.heap.objs.size f c')) → DE (LamX.lamCx X A outer s H E scope f c') (WF E) body m) :
    DE X W (.Call (.Name "_law_told" p) [.Lambda params body scope lpos] [] pos) (eTold m) := by
  obtain ⟨⟨g, fd, gm, F, bd⟩, S, sk, vd, vw, tab, j, kk, p1, p2, p3, p4, p5, p6, h₀, hds, eb, hh, ht, he⟩ := T
  obtain ⟨oc, od, kV, doc, pm, an, cdv, ct, osl, rfl, lk, hcd⟩ := F.ex
  have hG : LamX.GivesTo X ["deed", "why"] "_law_told" (defScope st) g cdv (defBody st) "deed" (X.env.qual ++ "<lambda>") (TTold X.K tab) := by
    rw [eb]
    exact told_gives hh (toldHs_g hh) sk (.inl vw) vw (by decide) (by decide) (by decide)
  have hgm := toldHs_m hh
  have eT : (P, X.env.qual ++ "<lambda>") ∈ tabT X.K := by rw [hq]; exact tab_law TB.ht
  refine de_of (pe_lamcall3 (T := tabT X.K) (t := fun E => tE X (WF E) m) hg gm F.kp lk hcd bd S rfl vd hG TB.tb hcode eT (fun q hq' e => by rw [tab_uniq q hq' _ eT e]) hr L hdef hbind (fun A outer s H E f c' hr' => hbody A outer s H E f c' hr') (by decide) (by decide) (by decide)) fun σ H Q ⟨ω, h, ds, e1, r, s, pp⟩ => ?_
  subst e1
  refine ⟨r.tabs, fun H1 hE hD hT => ?_⟩
  have ex : Ext ω (ω.at H1) := ⟨Nat.le_refl _, fun _ _ => rfl, fun _ z => z, fun _ z => .inl z, fun i a b => absurd b (Nat.not_lt.mpr a), fun q z => hD q z, fun q o hq nt _ => hE q o hq nt⟩
  have hc : ∀ i, i < ω.n → (ω.at H1).H (ω.β i) = ω.H (ω.β i) := fun i hi => by
    obtain ⟨o, e, m⟩ := r.mut hi
    show H1 _ = _
    rw [e]
    exact hE _ _ e fun ps z => by rw [z] at m; exact m
  have r1 : Rel X.K (ω.at H1) h := r.ext0 ex rfl (fun _ z => z) hc hT
  refine ⟨ω.at H1, h, ds, rfl, r1, monoS r ex s, ?_⟩
  have pp1 := Post.mono pp ex
  unfold eTold at pp1
  cases q : m ds h with
  | ok v h' =>
    rw [q] at pp1
    intro u ω' e' r' rv
    refine ⟨by rw [sizeLine_eq]; show 2 ≤ 16777216; decide, fun t hn => ?_⟩
    refine pp1 (.ref t) (ω'.up t (.tup [.str "value", u])) (e'.trans (Ext.up hn)) (r'.up hn) ?_
    unfold RelD
    exact ⟨t, _, rfl, .t upd_same, monoL r' (Ext.up hn) _ _ (RelL.cons str_rd (RelL.cons rv RelL.nil))⟩
  | ex x fs vs h' =>
    rw [q] at pp1
    simp only at pp1
    obtain ⟨ok, pp1⟩ := pp1.if_
    intro cls dx ω' e' r' rx
    exact told_read (σ := σ) ht he hgm ok r' rx (Post.mono pp1 e')
  | bad => rw [q] at pp1; exact False.elim pp1
end
/-! ### the law's def, its code object known -/
def DefAtC (K : PySem.W.Frag) (mg : Str → Option Value) (x qual : Str) (st : Stmt) (ps : List Str) (c : Addr) : Prop := ∃ (f : Addr) (fd : FuncData), mg x = some (.ref f) ∧ Fun K x qual st f fd ∧ Binds K fd ps [] ∧ fd.code = .ref c
section
variable {P : Program} {w : World} {K : PySem.W.Frag} {mg : Str → Option Value} {base : Heap}
theorem fn_okC {x qual : Str} {st : Stmt} {f c : Addr} {fd : FuncData} {N ps : List Str} {k : Nat} {m : SS} (F : Fun K x qual st f fd) (hc : fd.code = .ref c) (S : FnScope N ps (defScope st))
    (hb : ∀ (A : Around) (outer : List Env) (s : Shared) (H : Hp) (E : XK), Room k (A.deeper (envOfC qual (defScope st) s.heap.objs.size f (.ref c))) →
      DSs (cxOf (L2.CX P w) P w K mg base N qual (defScope st) f (.ref c) A outer s H E) (WF E) (defBody st) m) :
    FnOk P w K mg base (L2.CX P w) (k + 1) f fd ps (spD K mg ps.length (runB N.length m)) := by
  obtain ⟨oc, od, kV, doc, pm, an, cdv, ct, osl, rfl, lk, hcd⟩ := F.ex
  have hc' : cdv = .ref c := hc
  subst hc'
  refine fn_of lk hcd S (fun vs H Q E h => h.1) fun A outer s H vs Q E hr h => ?_
  refine ⟨_, hb A outer s H E hr, ?_⟩
  obtain ⟨hl, ω, h, ds, e1, r, rl, p⟩ := h
  subst e1
  have e2 : N.length - ds.length = N.length - vs.length := by rw [rl.len]
  refine ⟨ω, h, ds.map some ++ List.replicate (N.length - ds.length) none, rfl, r, by rw [e2]; exact rl.slots, ?_⟩
  unfold runB at p
  cases q : m (ds.map some ++ List.replicate (N.length - ds.length) none) h with
  | nx ds' h' => rw [q] at p; exact fun σ' ω' e r' s' => p _ ω' e r' (by unfold RelD; rfl)
  | rt d h' => rw [q] at p; exact fun v ω' e r' s' => p _ ω' e r' s'
  | bk ds' h' => rw [q] at p; exact False.elim p
  | ct ds' h' => rw [q] at p; exact False.elim p
  | ex x fs vs' ds' h' => rw [q] at p; exact fun c d σ' ω' e r' s' rx => p c d ω' e r' rx
  | bad => rw [q] at p; exact False.elim p
theorem DefAtC.good {x qual : Str} {st : Stmt} {ps N : List Str} {k : Nat} {m : SS} {c : Addr} (D : DefAtC K mg x qual st ps c) (S : FnScope N ps (defScope st))
    (hb : ∀ (f : Addr) (A : Around) (outer : List Env) (s : Shared) (H : Hp) (E : XK), Room k (DefX P w K mg base N qual st f (.ref c) A outer s H E).A → DSs (DefX P w K mg base N qual st f (.ref c) A outer s H E) (WF E) (defBody st) m) :
    Good P w K mg base x (k + 1) ps (runB N.length m) := by
  obtain ⟨f, fd, g, F, b, hc⟩ := D
  exact ⟨f, fd, g, F.kp, b, fun_lk F, fn_okC F hc S fun A outer s H E hr => hb f A outer s H E hr⟩
end
end Mp
/-! LayZ: further words. -/
namespace Mp
open PySem PySem.Spec PyProof.Rows L2
section
variable {X : Cx} {W : WX} {o i e o2 i2 : Expr} {mo mi me mo2 mi2 : SE} {as : SA} {pos posA p1 p2 : Pos} {k : Nat} {es : List Expr}
/-! ### xs[i], ys[j] = a, b -/
def sSw (as : SA) (mo mi mo2 mi2 : SE) : SS := fun ds h => sBd (as ds h) ds fun xs h1 => match xs with
  | [x, y] => sBd (mo ds h1) ds fun o h2 => sBd (mi ds h2) ds fun i h3 => match setF o i x h3 with
    | some h4 => sBd (mo2 ds h4) ds fun o2 h5 => sBd (mi2 ds h5) ds fun i2 h6 => match setF o2 i2 y h6 with
      | some h7 => .nx ds h7
      | none => .bad
    | none => .bad
  | _ => .bad
/-! ### xs[i] op= e, d[k] op= e -/
def sAugS (fget fop : D → D → Hc → R D) (fset : D → D → D → Hc → Option Hc) (mo mi me : SE) : SS := fun ds h => sBd (mo ds h) ds fun o h1 => sBd (mi ds h1) ds fun i h2 => sBd (fget o i h2) ds fun x h3 => sBd (me ds h3) ds fun y h4 => sBd (fop x y h4) ds fun z h5 => match fset o i z h5 with
  | some h6 => .nx ds h6
  | none => .bad
def ixlF (x y : D) (h : Hc) : R D := match rdlD h x, y with
  | some xs, .int i => match atI xs i with
    | some d => .ok d h
    | none => .bad
  | _, _ => .bad
end
/-! ### xs + ys, that is then changed -/
def addC (x y : D) (h : Hc) : R D := match lstD h x, lstD h y with
  | some xs, some ys => if xs.length + ys.length ≤ lim then .ok (.ref h.length) (h ++ [.lst (xs ++ ys)]) else .bad
  | _, _ => .bad
/-! ### what is never reached -/
section
variable {X : Cx} {W : WX} {e tg : Expr} {es : List Expr}
def eBad : SE := fun _ _ => .bad
def bBad : SB := fun _ _ => .bad
def iBad : SI := fun _ _ => .bad
def aBad : SA := fun _ _ => .bad
end
end Mp
/-! LayW: a, b, c = ..; {k: v}; xs.index(x); d.get(..). -/
namespace Mp
open PySem PySem.Spec PyProof.Rows L2
section
variable {X : Cx} {W : WX} {e o k v : Expr} {mo me mx : SE} {as : SA} {pos apos cpos : Pos}
/-! ### a, b, c = x, y, z -/
def sPar3 (i j l : Nat) (as : SA) : SS := fun ds h => sBd (as ds h) ds fun xs h1 => match xs with
  | [x, y, z] => .nx (((ds.set i (some x)).set j (some y)).set l (some z)) h1
  | _ => .bad
/-! ### {k: v} of plain words -/
structure Pl (X : Cx) (e : Expr) (g : Sl → Option D) : Prop where
  ex : ∃ t : TE, PE X e t ∧ ∀ (σ : L2.St) (ω : Wo) (ds : Sl) (d : D), RelS X.K ω ds σ → g ds = some d → ∃ v, RelD X.K ω d v ∧ ∀ (H : Hp) (Q : VK), Q v H → t σ H Q
def gVar (i : Nat) : Sl → Option D := fun ds => match ds[i]? with
  | some (some d) => some d
  | _ => none
def gC (d : D) : Sl → Option D := fun _ => some d
theorem pl_var {i : Nat} (h : PE X e (tVar i)) : Pl X e (gVar i) := ⟨tVar i, h, fun σ ω ds d s q => by
  unfold gVar at q
  split at q
  · rename_i d' q'
    cases q
    obtain ⟨v, e2, rd⟩ := s.2 i d q'
    exact ⟨v, rd, fun H Q z => ⟨v, e2, z⟩⟩
  · cases q⟩
theorem pl_c {v : V} {d : D} (h : PE X e (tC v)) (hd : ∀ ω, RelD X.K ω d v) : Pl X e (gC d) := ⟨tC v, h, fun σ ω ds d s q => by
  cases q
  exact ⟨v, hd ω, fun H Q z => z⟩⟩
theorem pl_int {i : Int} {j : Nat} : Pl X (.Constant (.int i) j pos) (gC (.int i)) := pl_c pe_int fun _ => by unfold RelD; rfl
def eDct1 (gk gv : Sl → Option D) : SE := fun ds h => match gk ds, gv ds with
  | some x, some y => match keyD x with
    | some kk => .ok (.ref h.length) (h ++ [.dct [kk] [y]])
    | none => .bad
  | _, _ => .bad
/-! ### xs.index(i), of ints -/
def allI : List D → Bool
  | [] => true
  | .int _ :: r => allI r
  | _ => false
def idxI : List D → Int → Option Nat
  | .int a :: r, i => if a = i then some 0 else (idxI r i).map (· + 1)
  | _, _ => none
def idxF (x : D) (as : List D) (h : Hc) : R D := match lstD h x, as with
  | some xs, [.int i] => if allI xs = true then (match idxI xs i with
      | some j => .ok (.int (j : Nat)) h
      | none => .bad) else .bad
  | _, _ => .bad
end
end Mp
/-! LayS: how the mirrors are reckoned. -/
namespace Mp
open PySem PySem.Spec PyProof.Rows L2
@[simp] theorem lim_eq : lim = 1000000 := Eq.trans rfl rfl
section
variable (i j : Nat) (ds : Sl) (h : Hc) (d x y : D) (f : D → D → Hc → R D) (m ma mb : SE) (t u : SB) (as : SA) (a b : SS)
@[simp] theorem eVar_s : eVar i ds h = match ds[i]? with
  | some (some d) => .ok d h
  | _ => .bad := Eq.trans rfl rfl
@[simp] theorem eC_s : eC d ds h = .ok d h := Eq.trans rfl rfl
@[simp] theorem eOp_s : eOp f ma mb ds h = (ma ds h).bd fun x h1 => (mb ds h1).bd fun y h2 => f x y h2 := Eq.trans rfl rfl
@[simp] theorem isBl_bl (b : Bool) : isBl (.bl b) = some b := Eq.trans rfl rfl
@[simp] theorem bEx_s : bEx m ds h = (m ds h).bd fun x h1 => match isBl x with
  | some b => .ok b h1
  | none => .bad := Eq.trans rfl rfl
@[simp] theorem aNil_s : aNil ds h = .ok [] h := Eq.trans rfl rfl
@[simp] theorem aCons_s : aCons m as ds h = (m ds h).bd fun x h1 => (as ds h1).bd fun xs h2 => .ok (x :: xs) h2 := Eq.trans rfl rfl
@[simp] theorem eCell_s : eCell as ds h = (as ds h).bd fun xs h1 => if xs.length ≤ 1000000 then .ok (.ref h1.length) (h1 ++ [.lst xs]) else .bad := Eq.trans rfl rfl
@[simp] theorem eCB_s (g : List D → Hc → R D) : eCB g as ds h = (as ds h).bd fun xs h1 => g xs h1 := Eq.trans rfl rfl
@[simp] theorem eCall_s (g : Fn) : eCall g as ds h = (as ds h).bd fun xs h1 => callL g xs h1 := Eq.trans rfl rfl
@[simp] theorem eBM_s (T : String) (g : D → List D → Hc → R D) : eBM T g m as ds h = (m ds h).bd fun x h1 => if kindOk h1 T x = true then (as ds h1).bd fun xs h2 => g x xs h2 else .bad := Eq.trans rfl rfl
@[simp] theorem eSl_s (g : D → Option Int → Option Int → Hc → R D) (lo hi : Option SE) : eSl g m lo hi ds h = (m ds h).bd fun x h1 => (optI lo ds h1).bd fun l h2 => (optI hi ds h2).bd fun u h3 => g x l u h3 := Eq.trans rfl rfl
@[simp] theorem optI_none : optI none ds h = .ok none h := Eq.trans rfl rfl
@[simp] theorem optI_some : optI (some m) ds h = (m ds h).bd fun d h1 => match d with
    | .int i => .ok (some i) h1
    | _ => .bad := Eq.trans rfl rfl
/-! ### statements -/
def O.sq (o : O) (b : SS) : O := match o with
  | .nx ds h => b ds h
  | o => o
@[simp] theorem sq_nx : (O.nx ds h).sq b = b ds h := Eq.trans rfl rfl
@[simp] theorem sq_rt : (O.rt d h).sq b = .rt d h := Eq.trans rfl rfl
@[simp] theorem sq_bk : (O.bk ds h).sq b = .bk ds h := Eq.trans rfl rfl
@[simp] theorem sSeq_s : sSeq a b ds h = (a ds h).sq b := by
  unfold sSeq O.sq; cases a ds h <;> rfl
@[simp] theorem sNext_s : sNext ds h = .nx ds h := Eq.trans rfl rfl
@[simp] theorem sRet_s : sRet m ds h = sBd (m ds h) ds fun d h1 => .rt d h1 := Eq.trans rfl rfl
@[simp] theorem sDrop_s : sDrop m ds h = sBd (m ds h) ds fun _ h1 => .nx ds h1 := Eq.trans rfl rfl
@[simp] theorem sIf_s : sIf t a b ds h = sBd (t ds h) ds fun c h1 => if c = true then a ds h1 else b ds h1 := Eq.trans rfl rfl
@[simp] theorem sSet_s : sSet i m ds h = sBd (m ds h) ds fun d h1 => .nx (ds.set i (some d)) h1 := Eq.trans rfl rfl
@[simp] theorem sPut_s (g : D → D → D → Hc → Option Hc) (me mo mi : SE) : sPut g me mo mi ds h = sBd (me ds h) ds fun x h1 => sBd (mo ds h1) ds fun o h2 => sBd (mi ds h2) ds fun i h3 => match g o i x h3 with
  | some h4 => .nx ds h4
  | none => .bad := Eq.trans rfl rfl
@[simp] theorem sFor_s (mi : SI) (p : Pt) : sFor mi p b ds h = sBd (mi ds h) ds fun it h1 => fl it.chk p b it.items ds h1 := Eq.trans rfl rfl
@[simp] theorem iSeq_s : iSeq m ds h = (m ds h).bd fun d h1 => match seqD h1 d with
  | some xs => .ok ⟨xs, chkQ d xs⟩ h1
  | none => .bad := Eq.trans rfl rfl
@[simp] theorem chkQ_lst (xs : List D) : chkQ (.lst xs) xs = fun _ => true := funext fun _ => chkQ_of (Eq.trans rfl rfl)
def rg1F (xs : List D) (h : Hc) : R ItD := match xs with
  | [.int j] => if -(2 ^ 62) ≤ j ∧ j < 2 ^ 62 then .ok ⟨upFrom 0 j.toNat, fun _ => true⟩ h else .bad
  | _ => .bad
def rg2F (xs : List D) (h : Hc) : R ItD := match xs with
  | [.int i, .int j] => if -(2 ^ 62) ≤ i ∧ i < 2 ^ 62 ∧ -(2 ^ 62) ≤ j ∧ j < 2 ^ 62 then .ok ⟨upFrom i (j - i).toNat, fun _ => true⟩ h else .bad
  | _ => .bad
@[simp] theorem iRg1_s : iRg1 as ds h = (as ds h).bd rg1F := Eq.trans rfl rfl
/-- a number that a walk of a range can take -/
def rgOk (j : Int) : Bool := decide (-4611686018427387904 ≤ j) && decide (j < 4611686018427387904)
theorem rgOk_spec {j : Int} : rgOk j = true ↔ -(2 ^ 62) ≤ j ∧ j < 2 ^ 62 := by
  unfold rgOk
  simp only [Bool.and_eq_true, decide_eq_true_eq]
  have : (2 : Int) ^ 62 = 4611686018427387904 := by decide +kernel
  rw [this]
@[simp] theorem rg1F_int (j : Int) : rg1F [.int j] h = if rgOk j = true then .ok ⟨upFrom 0 j.toNat, fun _ => true⟩ h else .bad := by
  unfold rg1F
  by_cases q : rgOk j = true
  · have := rgOk_spec.mp q
    simp only [q, this, and_self, if_true]
  · have : ¬ (-(2 ^ 62) ≤ j ∧ j < 2 ^ 62) := fun z => q (rgOk_spec.mpr z)
    simp only [q, this, if_false, Bool.false_eq_true]
@[simp] theorem seqD_lst (xs : List D) : seqD h (.lst xs) = some xs := Eq.trans rfl rfl
@[simp] theorem seqD_ref : seqD h (.ref i) = match h[i]? with
    | some (.lst xs) => some xs
    | _ => none := Eq.trans rfl rfl
@[simp] theorem rdlD_lst (xs : List D) : rdlD h (.lst xs) = some xs := Eq.trans rfl rfl
@[simp] theorem rdlD_scr (xs : List D) : rdlD h (.scr xs) = some xs := Eq.trans rfl rfl
@[simp] theorem rdlD_ref : rdlD h (.ref i) = match h[i]? with
    | some (.lst xs) => some xs
    | _ => none := Eq.trans rfl rfl
@[simp] theorem bindP_n : bindP h (.n i) d ds = some (ds.set i (some d)) := by unfold bindP; rfl
/-! ### turns of a loop, its body as it is -/
section
variable {chk : Hc → Bool} {p : Pt} {b : SS} {d : D} {r : List D} {ds ds1 ds' : Sl} {h h' : Hc} {i : Nat}
end
/-! ### runs -/
def O.fin : O → R D
  | .nx _ h' => .ok .non h'
  | .rt d h' => .ok d h'
  | .ex x fs vs _ h' => .ex x fs vs h'
  | _ => .bad
@[simp] theorem fin_rt : (O.rt d h).fin = .ok d h := Eq.trans rfl rfl
theorem runB_s (n : Nat) (xs : List D) : runB n a xs h = (a (xs.map some ++ List.replicate (n - xs.length) none) h).fin := by
  unfold runB O.fin; cases a _ h <;> rfl
end
/-! ### values -/
section
variable (h : Hc) (i j : Int) (s t : Str) (b c : Bool)
@[simp] theorem eq_int (neg : Bool) : eqG neg (.int i) (.int j) h = .ok (.bl (if neg then !decide (i = j) else decide (i = j))) h := Eq.trans rfl rfl
@[simp] theorem flat_int : flat (.int i) = true := by unfold flat; rfl
@[simp] theorem flat_ref (n : Nat) : flat (.ref n) = false := by unfold flat; rfl
@[simp] theorem flat_lst (xs : List D) : flat (.lst xs) = flatL xs := by conv => lhs; unfold flat
@[simp] theorem flat_scr (xs : List D) : flat (.scr xs) = flatL xs := by conv => lhs; unfold flat
@[simp] theorem flatL_nil : flatL [] = true := by unfold flatL; rfl
@[simp] theorem flatL_cons (x : D) (xs : List D) : flatL (x :: xs) = (flat x && flatL xs) := by conv => lhs; unfold flatL
@[simp] theorem flatL_ints (ns : List Int) : flatL (ns.map D.int) = true := by induction ns <;> simp_all
@[simp] theorem flatC_lst (xs : List D) : flatC (.lst xs) = flatL xs := Eq.trans rfl rfl
@[simp] theorem lenF_lst (xs : List D) : lenF [.lst xs] h = .ok (.int xs.length) h := Eq.trans rfl rfl
@[simp] theorem ixF_lst (xs : List D) : ixF (.lst xs) (.int i) h = match atI xs i with
    | some d => .ok d h
    | none => .bad := Eq.trans rfl rfl
theorem atI_of {α : Type} {xs : List α} {i : Int} (h0 : 0 ≤ i) (h1 : i < xs.length) : atI xs i = xs[i.toNat]? := by
  unfold atI ixN
  rw [if_pos h0, if_pos h1]; rfl
@[simp] theorem atI_0 {α : Type} (x : α) (xs : List α) : atI (x :: xs) 0 = some x := by rw [atI_of (by omega) (by simp only [List.length_cons]; omega)]; rfl
theorem mulOk_r (h1 : -18446744073709551616 < j) (h2 : j < 18446744073709551616) : mulOk i j = true := by unfold mulOk; simp; exact .inl (.inr ⟨h1, h2⟩)
theorem divOk_of (h0 : j ≠ 0) (h1 : -(2 ^ 64) < j) (h2 : j < 2 ^ 64) : divOk j = true := by
  unfold divOk
  simp only [Bool.and_eq_true, decide_eq_true_eq]
  refine ⟨h0, ?_⟩
  have : j.natAbs < 2 ^ 64 := by omega
  have := (Nat.log2_lt (n := j.natAbs) (k := 64) (by omega)).mpr this
  omega
end
/-! ### kinds -/
@[simp] theorem rgOk_4 : rgOk 4 = true := by decide +kernel
@[simp] theorem rgOk_60 : rgOk 60 = true := by decide +kernel
/-! ### truth and comprehensions -/
section
variable (h : Hc) (b : Bool) (i : Int) (xs : List D) (ds : Sl)
end
/-- each with its own -/
def All2 {α β : Type} (P : α → β → Prop) : List α → List β → Prop
  | [], [] => True
  | a :: as, b :: bs => P a b ∧ All2 P as bs
  | _, _ => False
/-! ### what LayH brings -/
section
variable (h : Hc) (i j : Int) (xs : List D) (ds : Sl)
end
/-! ### calls -/
theorem refsOf_flat : ∀ {as : List D}, flatL as = true → refsOf as = []
  | [], _ => rfl
  | d :: ds, hf => by
    simp at hf
    have := refsOf_flat hf.2
    cases d <;> first | exact this | simp at hf
theorem renL_flat {rs : List Nat} : ∀ {as : List D}, flatL as = true → renL rs as = some as
  | [], _ => rfl
  | d :: ds, hf => by
    simp at hf
    have h2 := renL_flat (rs := rs) hf.2
    have h1 : renD rs d = some d := by
      cases d <;> first | (unfold renD; simp [hf.1]; done) | (simp at hf; done)
    unfold renL
    rw [h1, h2]
theorem frzD_flat {rs : List Nat} {h : Hc} {n : Nat} {d : D} (hf : flat d = true) : frzD rs h n d = some d := by
  cases n <;> simp [frzD, hf]
/-- no cell is passed -/
theorem call_pure {m : Fn} {as : List D} {d0 d : D} {h' : Hc} (ha : flatL as = true) (hm : m as [] = .ok d0 h') (hd : frzD [] h' 8 d0 = some d) (h : Hc) : callL m as h = .ok d h := by
  unfold callL
  rw [refsOf_flat ha, renL_flat ha]
  simp [cellsAt, hm, hd, wb]
theorem call_flat {m : Fn} {as : List D} {d : D} {h' : Hc} (ha : flatL as = true) (hm : m as [] = .ok d h') (hd : flat d = true) (h : Hc) : callL m as h = .ok d h := call_pure ha hm (frzD_flat hd) h
/-- a list that was made within is handed back -/
theorem frz_cell {rs : List Nat} {h : Hc} {n i : Nat} {xs : List D} (hi : rs.length ≤ i) (e : h[i]? = some (.lst xs)) (hf : flatL xs = true) : frzD rs h (n + 2) (.ref i) = some (.lst xs) := by
  have go : ∀ ys : List D, flatL ys = true → frzD.frzL (frzD rs h (n + 1)) ys = some ys := by
    intro ys
    induction ys with
    | nil => intro _; rfl
    | cons y ys ih =>
      intro hy
      simp at hy
      unfold frzD.frzL
      rw [frzD_flat hy.1, ih hy.2]
  unfold frzD
  simp only [flat_ref, Bool.false_eq_true, if_false]
  rw [if_neg (Nat.not_lt.mpr hi), e]
  simp only
  rw [go xs hf]; rfl
/-- the law's defs that draw: the second argument is the cell of the place -/
theorem call_spot {m : Fn} {R rest : List D} {i : Nat} {h h' : Hc} {k k' : Int} {d0 d : D} (hR : flatL R = true) (hr : flatL rest = true) (hi : h[i]? = some (.lst [.int k])) (hm : m (.lst R :: .ref 0 :: rest) [.lst [.int k]] = .ok d0 h') (h0 : h'[0]? = some (.lst [.int k']))
    (hd : ∀ j, frzD [j] h' 8 d0 = some d) : callL m (.lst R :: .ref i :: rest) h = .ok d (h.set i (.lst [.int k'])) := by
  have e1 : refsOf (.lst R :: .ref i :: rest) = [i] := by
    show refsOf (.ref i :: rest) = [i]
    unfold refsOf
    rw [refsOf_flat hr]; simp
  have e2 : renL [i] (.lst R :: .ref i :: rest) = some (.lst R :: .ref 0 :: rest) := by
    unfold renL
    have a1 : renD [i] (.lst R) = some (.lst R) := by unfold renD; simp [hR]
    have a2 : renL [i] (.ref i :: rest) = some (.ref 0 :: rest) := by
      unfold renL
      rw [renL_flat hr]
      have : renD [i] (.ref i) = some (.ref 0) := by unfold renD; simp [List.findIdx?_cons]
      rw [this]
    rw [a1, a2]
  obtain ⟨t, ht⟩ : ∃ t, h' = .lst [.int k'] :: t := by
    cases h' with
    | nil => simp at h0
    | cons c t => simp at h0; exact ⟨t, by rw [h0]⟩
  unfold callL
  rw [e1, e2]
  simp only [cellsAt, hi]
  simp only [List.all_cons, List.all_nil, flatC_lst, flatL_cons, flat_int, flatL_nil, Bool.and_true, Bool.and_self, if_true, hm, hd i]
  subst ht
  simp [wb]
/-! ### what LayX, LayY bring -/
section
variable (h h' : Hc) (ds ds' : Sl) (d v : D) (x : Str) (fs : List Str) (vs : List D) (m : SE) (as : SA) (a b : SS)
theorem seq_nx (e : a ds h = .nx ds' h') : sSeq a b ds h = b ds' h' := by rw [sSeq_s, e, sq_nx]
end
end Mp
/-! LayV: name = {k: v for ..} on one line. -/
namespace Mp
open PySem PySem.Spec PyProof.Rows L2
section
variable {X : Cx} {W : WX}
/-- in each block of a comprehension -/
abbrev InBlk (X : Cx) (scope : Scope) (P : Cx → Prop) : Prop := ∀ (s : Shared) (H : Hp) (C : Addr) (cl : List (Str × Addr)) (fp : List Addr), P (X.blk s H scope (compEnvC scope cl C X.env) fp)
theorem swD_true {kx vx : Expr} {gs : List Comprehension} {scope : Scope} {pos py : Pos} {y : Str} {l : Nat} {env : Env} (hk : env.scope.kind = .function) (hy : env.scope.names.lookup y = some .local) (hl : (py.line == pos.line) = true)
    (ha : (scope.names.any fun (n, k) => n == y && (k == .local || k == .cell)) = false) : swapsWith (.DictComp kx vx gs scope pos) (some (.Name y py)) l env = pure true := by
  have k1 : env.kindOf y = some .local := hy
  have k2 : env.blockKind = .function := by unfold Env.blockKind; rw [hk]; rfl
  unfold swapsWith
  simp only [k2, k1, ha, Expr.pos, hl]
  rfl
end
/-! a def under a second name of its module -/
def DefAs (K : PySem.W.Frag) (mg : Str → Option Value) (y x qual : Str) (st : Stmt) (ps : List Str) : Prop := ∃ (f : Addr) (fd : FuncData), mg y = some (.ref f) ∧ Fun K x qual st f fd ∧ Binds K fd ps []
section
variable {P : Program} {w : World} {K : PySem.W.Frag} {mg : Str → Option Value} {base : Heap} {y x qual : Str} {st : Stmt} {ps N : List Str} {k j : Nat} {m : SS}
end
end Mp
namespace Mp
open PySem PySem.Spec PyProof.Rows L2
/-! list(d) of a dict: its keys -/
def kD : Key → D
  | .inl i => .int i
  | .inr x => .str x
def listDF (xs : List D) (h : Hc) : R D := match xs with
  | [d] => match dctD h d with
    | some (ks, _) => .ok (.lst (ks.map kD)) h
    | none => .bad
  | _ => .bad
end Mp
/-! LayU: three sequences walked side by side, each a list or a tuple. -/
namespace Mp
open PySem PySem.Spec PyProof.Rows L2
/-- three sequences, their items in new triples -/
def ItT3 (t1 t2 t3 : Bool) (K : PySem.W.Frag) (a b c : Addr) : It where
  go i H := ∃ (xs ys zs : List V) (x y z : V), SqX t1 K H a xs ∧ SqX t2 K H b ys ∧ SqX t3 K H c zs ∧ xs[i]? = some x ∧ ys[i]? = some y ∧ zs[i]? = some z
  yld i H v H' := ∃ T x y z, v = .ref T ∧ H T = none ∧ H' = upd H T (.tup [x, y, z]) ∧ (∀ xs, SqX t1 K H a xs → xs[i]? = some x) ∧ (∀ ys, SqX t2 K H b ys → ys[i]? = some y) ∧ ∀ zs, SqX t3 K H c zs → zs[i]? = some z
  stop i H := ∃ xs ys zs : List V, SqX t1 K H a xs ∧ SqX t2 K H b ys ∧ SqX t3 K H c zs ∧ (xs.length ≤ i ∨ ys.length ≤ i ∨ zs.length ≤ i)
section
variable {prog : Program} {w : World} {A : Around}
end
/-- zip of three sequences -/
def iZpB3 (K : PySem.W.Frag) (ta : TA) : TI := fun σ H R => ta σ H fun vs H1 => ∃ t1 t2 t3 a b c xs ys zs, vs = [.ref a, .ref b, .ref c] ∧ SqX t1 K H1 a xs ∧ SqX t2 K H1 b ys ∧ SqX t3 K H1 c zs ∧ R (ItT3 t1 t2 t3 K a b c) H1
/-- the triples -/
def zipD3 : List D → List D → List D → List D
  | x :: xs, y :: ys, z :: zs => .tup [x, y, z] :: zipD3 xs ys zs
  | _, _, _ => []
def chkZ3 (d : D) (xs : List D) (e : D) (ys : List D) (f : D) (zs : List D) : Hc → Bool := fun h => chkQ d xs h && chkQ e ys h && chkQ f zs h
def zp3F (xs : List D) (h : Hc) : R ItD := match xs with
  | [d, e, f] => match seqD h d, seqD h e, seqD h f with
    | some us, some ws, some ts => .ok ⟨zipD3 us ws ts, chkZ3 d us e ws f ts⟩ h
    | _, _, _ => .bad
  | _ => .bad
def iZip3 (as : SA) : SI := fun ds h => (as ds h).bd zp3F
section
variable {K : PySem.W.Frag} {ω : Wo} {h : Hc} {d e f : D}
end
section
variable {X : Cx} {W : WX} {e : Expr} {as : SA}
end
end Mp
/-! LayT: x in a list, the items data of any depth. -/
namespace Mp
open PySem PySem.Spec PyProof.Rows L2
def inZ (neg : Bool) (x y : D) (h : Hc) : R D := if scalD x = true then inG neg x y h else match toPyR h x, toPyR h y with
  | some d, some (.list ds) => if SeqAt.shaped d = true ∧ SeqAt.shaped (.list ds) = true then .ok (.bl (if neg then !(ds.any fun z => PyData.eqv z d) else ds.any fun z => PyData.eqv z d)) h else .bad
  | _, _ => .bad
def rInZ (K : PySem.W.Frag) (neg : Bool) : R2 := fun x y H Q => rInA K neg x y H Q ∨ ∃ d ds, Dp K H x d ∧ Dp K H y (.list ds) ∧ SeqAt.shaped d = true ∧ SeqAt.shaped (.list ds) = true ∧ Q (.bl (if neg then !(ds.any fun z => PyData.eqv z d) else ds.any fun z => PyData.eqv z d)) H
section
variable {X : Cx}
theorem hu_of65 {k : Nat} (hr : Room k X.A) : X.A.units + 65 < cLine := by have := hr.un; omega
end
end Mp
/-! LayR: max(xs, default=d), xs a list of ints. -/
namespace Mp
open PySem PySem.Spec PyProof.Rows L2
theorem reads_ints41 (h : Heap) : ∀ {vs : List Value} {xs : List Int}, IntsAre vs xs → ReadsAll h vs (xs.map PyData.int) [] := by
  intro vs xs x
  exact ints_readAll h x
theorem alike_ints (xs : List Int) : PySem.W.AlikeAll (xs.map PyData.int) := by
  refine ⟨fun x hx y hy => ?_, fun x hx => ?_⟩
  · obtain ⟨i, _, rfl⟩ := List.mem_map.mp hx
    obtain ⟨j, _, rfl⟩ := List.mem_map.mp hy
    rfl
  · obtain ⟨i, _, rfl⟩ := List.mem_map.mp hx
    intro z
    cases z
theorem depth_ints : ∀ xs : List Int, PyData.depthAll (xs.map PyData.int) = 0
  | [] => rfl
  | x :: r => by
    rw [List.map_cons, PyData.depthAll, depth_ints r]
    rfl
def rMaxD (K : PySem.W.Frag) : List V → List V → Hp → VK → Prop := fun vs zs H Q => ∃ (a : Addr) (ns : List Int) (z : V), vs = [V.ref a] ∧ zs = [z] ∧ SqL K H a (ns.map V.int) ∧ (ns = [] → Q z H) ∧ ∀ n r, ns = n :: r → Q (V.int (r.foldl max n)) H
section
variable {X : Cx}
theorem cr_maxD (hc : X.calm = true) (hu : X.A.units + 65 < cLine) : CallRK X (.builtin "max") [Str.ofString "default"] (rMaxD X.K) := by
  intro pins s σ H vs zs us ws Q I r rz h
  obtain ⟨a, ns, z, rfl, rfl, hs, q0, q1⟩ := h
  obtain rfl := Vals.ref1 r
  obtain ⟨w1, rfl, e1⟩ := vals1 rz
  obtain ⟨its, rv, hl, hz⟩ := I.list hs
  have hr : ReadsAll s.heap its.toArray.toList (ns.map PyData.int) [] := by
    rw [List.toList_toArray]
    exact reads_ints41 s.heap rv.ints
  refine PySem.W.max_list_default (I.ok.hd hc) hl.isList hr (alike_ints ns) (by rw [depth_ints]; omega) (fun he h' tk hk => ?_) fun y ys i v h' tk bs he hv hrd hk => ?_
  · have : ns = [] := by simpa using he
    exact ⟨z, H, I.kept hk, e1, q0 this⟩
  · cases ns with
    | nil => simp at he
    | cons n r =>
      rw [List.map_cons] at he
      injection he with e2 e3
      subst e2 e3
      rw [PySem.W.maxD_ints] at hrd
      obtain ⟨t, rfl⟩ : ∃ t, v = .int (r.foldl max n) t := by
        cases hrd
        exact ⟨_, rfl⟩
      exact ⟨.int (r.foldl max n), H, I.kept hk, ⟨t, rfl⟩, q1 n r rfl⟩
def mxdF (x d : D) (h : Hc) : R D := match rdlD h x with
  | some ys => match intsD ys with
    | some [] => .ok d h
    | some (n :: r) => .ok (.int (r.foldl max n)) h
    | none => .bad
  | none => .bad
variable {W : WX} {e ed : Expr} {ma md : SE} {p pos kp : Pos}
theorem de_maxD (hc : X.calm = true) (hu : X.A.units + 65 < cLine) (hg : Gl X "max") (hm : X.mg "max" = none) (hv : bootBuiltins "max" = some (.builtin "max")) (ha : DE X W e ma) (hd : DE X W ed md)
    (hs : starEach [e] X.env = (false, eval e X.env) :: starEach [] X.env := by rfl)
    (he : backTo pos (starEach [e] X.env) = (false, eval e X.env) :: backTo pos (starEach [] X.env) := by rfl) (hpl : (backTo pos (starEach [e] X.env)).any (·.1) = false := by rfl)
    (hall : (backToKw pos (keywordEach [⟨some "default", ed, kp⟩] X.env)).all (·.1.isSome) = true := by rfl) (hnone : (backToKw pos (keywordEach [⟨some "default", ed, kp⟩] X.env)).any (·.1.isNone) = false := by rfl) (hks : (backToKw pos (keywordEach [⟨some "default", ed, kp⟩] X.env)).filterMap (·.1) = [Str.ofString "default"] := by rfl) :
    DE X W (.Call (.Name "max" p) [e] [⟨some "default", ed, kp⟩] pos) (eOp mxdF ma md) :=
  de_of (pe_callBK (cr_maxD hc hu) hg hm hv (pa_cons ha pa_nil hs) (pk_cons hd pk_nil) (by decide) (by decide) he hpl hall hnone hks) fun σ H Q ⟨ω, h, ds, e1, r, s, p⟩ => by
    subst e1
    refine ⟨ω, h, ds, rfl, r, s, p.bd fun x h1 v ω1 e1 r1 d1 p1 => ⟨ω1, h1, ds, rfl, r1, monoS r e1 s, p1.bd fun y h2 u ω2 e2 r2 d2 p2 => ?_⟩⟩
    unfold mxdF at p2
    split at p2
    · rename_i ys q
      obtain ⟨a, us, rfl, f2, f3⟩ := rdlD_rel r2 q (mono r1 e2 _ _ d1)
      split at p2
      · rename_i q2
        rw [intsD_eq q2] at f3
        rw [f3.ints] at f2
        exact ⟨a, [], u, rfl, rfl, f2, fun _ => p2.here r2 d2, (fun n r z => nomatch z)⟩
      · rename_i n rr q2
        rw [intsD_eq q2] at f3
        rw [f3.ints] at f2
        refine ⟨a, n :: rr, u, rfl, rfl, f2, (fun z => nomatch z), fun n' r' z => ?_⟩
        injection z with z1 z2
        subst z1 z2
        exact p2.here r2 int_rd
      · exact False.elim p2
    · exact False.elim p2
end
end Mp
/-! LayM: sorted(xs, key=f), f a lambda over what the def around it holds. -/
namespace Mp
open PySem PySem.Spec PyProof.Rows L2
/-- what a key makes of an item, the heap as it was or longer -/
structure KeyCall (X : Cx) (σ : L2.St) (ω0 : Wo) (h : Hc) (f : Value) (pf : List (Addr × Obj)) (g : D → Option D) : Prop where
  run : ∀ (pins : List (Addr × Obj)) (s : Shared) (ω : Wo) (x : D) (v : V) (u : Value) (k : D), Ext ω0 ω → Rel X.K ω h → L2.Inv X pins σ ω.H s → (∀ p ∈ pf, p ∈ pins) → RelD X.K ω x v → RelV v u → g x = some k →
    wpAny (model X.prog X.w) X.A.in1.in1 (PySem.call f [u]) (EP X pins σ fun kv H' => ∃ ω', ω'.H = H' ∧ Ext ω ω' ∧ Rel X.K ω' h ∧ RelD X.K ω' k kv) (fun _ _ => False) s
/-- data of the layer as data of the library, no cells -/
inductive KeysOk (g : D → Option D) : List D → List D → List PyData → Prop
  | nil : KeysOk g [] [] []
  | cons {x k : D} {d : PyData} {xs ks : List D} {ds : List PyData} (e1 : g x = some k) (e2 : toPy k = some d) (r : KeysOk g xs ks ds) : KeysOk g (x :: xs) (k :: ks) (d :: ds)
/-- out, sorted by the keys -/
def byKeys (xs : List D) (ds : List PyData) : List D := ((xs.zip ds).mergeSort (PySem.W.dataLe false Prod.snd)).map (·.1)
end Mp
/-! LayN: sorted(xs, key=lambda y: body), the lambda over names of the def around it. -/
namespace Mp
open PySem PySem.Spec PyProof.Rows L2
/-- nothing is raised -/
abbrev E00 : XK := fun _ _ _ => False
/-- a def's own code object and its table -/
structure LamTab (K : PySem.W.Frag) (mg : Str → Option Value) (base : Heap) (x : Str) (c P : Addr) : Prop where
  tb : LamX.TabB base mg c P
  hm : (P, lamQual x) ∈ tabT K
def capD (ds : Sl) (j : Nat) : Option D := match ds[j]? with
  | some (some d) => if flat d = true then some d else none
  | _ => none
/-- the lambda's slots -/
def lamSl (n : Nat) (js : List Nat) (ds : Sl) (y : D) : Sl := some y :: (js.map (capD ds) ++ List.replicate (n - 1 - js.length) none)
def lamRun (n : Nat) (js : List Nat) (m : SE) (ds : Sl) (y : D) : Option D := if flat y = true then match m (lamSl n js ds y) [] with
  | .ok k [] => if flat k = true then some k else none
  | _ => none
  else none
abbrev lamNF (q : Str) (params : Arguments) (scope : Scope) (cl : List (Str × Addr)) (c' : Addr) : NdefX.NF := ⟨"<lambda>", q, params, [], scope, cl, c'⟩
abbrev klX (P : Program) (w : World) (K : PySem.W.Frag) (mg : Str → Option Value) (base : Heap) (N : List Str) (F : NdefX.NF) (f : Addr) (A : Around) (outer : List Env) (s : Shared) (H : Hp) : Cx := NdefX.ncx (L2.CX P w) P w K mg base N F f A outer s H E00
/-- what the lambda takes from the def around it is held there -/
structure FreeS (sc scope : Scope) : Prop where
  free : ∀ y ∈ scope.names, y.2 = NameKind.free → sc.names.lookup y.1 = some .cell ∨ sc.names.lookup y.1 = some .free
def freeSB (sc scope : Scope) : Bool := scope.names.all fun y => !decide (y.2 = NameKind.free) || decide (sc.names.lookup y.1 = some .cell) || decide (sc.names.lookup y.1 = some .free)
section
variable {X : Cx} {σ : L2.St} {ω0 : Wo} {h : Hc} {ds : Sl} {f c' : Addr} {pm ctv : Value} {k : Nat} {N fr : List Str} {js : List Nat} {p : Str} {params : Arguments} {body : Expr} {scope : Scope} {m : SE}
end
def keysL (g : D → Option D) : List D → Option (List D × List PyData)
  | [] => some ([], [])
  | x :: r => match g x with
    | some k => match toPy k, keysL g r with
      | some d, some (ks, ds) => some (k :: ks, d :: ds)
      | _, _ => none
    | none => none
def tupNE : PyData → Bool
  | .tuple (_ :: _) => true
  | _ => false
def plainK : PyData → Bool
  | .none => false
  | .tuple _ => false
  | _ => true
/-- these can be sorted -/
def sortB (ds : List PyData) : Bool := ds.all (fun d => ds.all fun e => PySem.W.alike d e) && (ds.all tupNE || ds.all plainK) && ds.all fun d => decide (d.depth ≤ 50)
def eSortL (ma : SE) (n : Nat) (js : List Nat) (m : SE) : SE := fun ds h => (ma ds h).bd fun x h1 => match rdlD h1 x with
  | some xs => match keysL (lamRun n js m ds) xs with
    | some (_, pds) => if sortB pds = true then .ok (.lst (byKeys xs pds)) h1 else .bad
    | none => .bad
  | none => .bad
section
variable {X : Cx} {W : WX} {k : Nat} {N fr : List Str} {js : List Nat} {x0 p : Str} {c P : Addr} {params : Arguments} {body e : Expr} {scope : Scope} {ma m : SE} {p1 lpos kp pos : Pos}
end
theorem tabIn_none {K : PySem.W.Frag} {x : Str} (h : PySem.W.nsIn K mainGlobals x = some none) : PySem.W.tabIn K x = none := by
  unfold PySem.W.tabIn
  rw [h]
theorem lam_two {A : Str → Prop} (h1 : A "_masks") (h2 : A "purchases") : ∀ x ∈ lamNames, A x := fun x hx => by
  rcases List.mem_cons.mp hx with z | z
  · rw [z]; exact h1
  · rw [List.mem_singleton.mp z]; exact h2
end Mp
/-! LayP: sorted(xs), the items data of one kind. -/
namespace Mp
open PySem PySem.Spec PyProof.Rows L2
def rSortZ (K : PySem.W.Frag) : List V → Hp → VK → Prop := fun vs H Q => ∃ (a : Addr) (xs : List V) (ds : List PyData), vs = [.ref a] ∧ SqL K H a xs ∧ DpAll K H xs ds ∧ PySem.W.AllAlike ds ∧ PySem.W.Sortable ds ∧ (∀ d ∈ ds, d.depth ≤ 50) ∧
  ∀ p, H p = none → Q (.ref p) (upd H p (.lst (((xs.zip ds).mergeSort (PySem.W.dataLe false Prod.snd)).map (·.1))))
def sortZF (xs : List D) (h : Hc) : R D := match xs with
  | [d] => match rdlD h d with
    | some ys => match toPyL ys with
      | some pds => if sortB pds = true then .ok (.lst (byKeys ys pds)) h else .bad
      | none => .bad
    | none => .bad
  | _ => .bad
end Mp
/-! LayQ: starred members of a display. -/
namespace Mp
open PySem PySem.Spec PyProof.Rows L2
def aStar (m : SE) (as : SA) : SA := fun ds h => (m ds h).bd fun x h1 => match seqD h1 x with
  | some xs => (as ds h1).bd fun ys h2 => .ok (xs ++ ys) h2
  | none => .bad
section
variable {X : Cx} {W : WX} {e : Expr} {es : List Expr} {m : SE} {as : SA} {p : Pos}
end
end Mp
/-! LayO: < of any data of one kind. -/
namespace Mp
open PySem PySem.Spec PyProof.Rows L2
def rLtZ (K : PySem.W.Frag) : R2 := fun x y H Q => ∃ da db, Dp K H x da ∧ Dp K H y db ∧ PySem.W.alike da db = true ∧ da ≠ .none ∧ min da.depth db.depth ≤ 50 ∧ Q (.bl (PySem.W.dataLt da db)) H
theorem op_ltZ {X : Cx} (hu : X.A.units + 64 < cLine) : OpR X (compareOp .Lt) (rLtZ X.K) := by
  intro pins s σ H x y v u Q I rx ry h
  obtain ⟨da, db, d1, d2, al, nn, dp, q⟩ := h
  obtain ⟨as, r1⟩ := Dp.reads I _ _ _ d1 rx
  obtain ⟨bs, r2⟩ := Dp.reads I _ _ _ d2 ry
  exact PySem.W.rcLt_alike da db X.A s v u as bs r1 r2 al nn (by omega) _ _ _ _ (fin_bl I q rfl)
def notNone : PyData → Bool
  | .none => false
  | _ => true
def ltZF (x y : D) (h : Hc) : R D := match toPyR h x, toPyR h y with
  | some a, some b => if (PySem.W.alike a b && notNone a && decide (min a.depth b.depth ≤ 50)) = true then .ok (.bl (PySem.W.dataLt a b)) h else .bad
  | _, _ => .bad
theorem opd_ltZ {X : Cx} : OpD X (rLtZ X.K) ltZF := fun W σ ω h x y v u Q r rx ry p => by
  unfold ltZF at p
  cases q1 : toPyR h x with
  | none => rw [q1] at p; exact False.elim p
  | some a =>
    cases q2 : toPyR h y with
    | none => rw [q1, q2] at p; exact False.elim p
    | some b =>
      rw [q1, q2] at p
      simp only at p
      obtain ⟨hs, p⟩ := p.if_
      simp only [Bool.and_eq_true, decide_eq_true_eq] at hs
      exact ⟨a, b, toPyR_rel r q1 rx, toPyR_rel r q2 ry, hs.1.1, fun e => by rw [e] at hs; exact absurd hs.1.2 (by decide), hs.2, p.here r bl_rd⟩
end Mp
/-! LayIn: x in (a tuple of any data). -/
namespace Mp
open PySem PySem.Spec PyProof.Rows L2
def inY (neg : Bool) (x y : D) (h : Hc) : R D := if scalD x = true then inG neg x y h else match toPyR h x, toPyR h y with
  | some d, some (.tuple ds) => if SeqAt.shaped d = true ∧ SeqAt.shaped (.tuple ds) = true then .ok (.bl (if neg then !(ds.any fun z => PyData.eqv z d) else ds.any fun z => PyData.eqv z d)) h else .bad
  | _, _ => .bad
def rInT (K : PySem.W.Frag) (neg : Bool) : R2 := fun x y H Q => ∃ d ds, Dp K H x d ∧ Dp K H y (.tuple ds) ∧ SeqAt.shaped d = true ∧ SeqAt.shaped (.tuple ds) = true ∧ Q (.bl (if neg then !(ds.any fun z => PyData.eqv z d) else ds.any fun z => PyData.eqv z d)) H
section
variable {X : Cx}
end
end Mp
/-! LayTd: dicts whose keys are tuples of ints; calls over the caller's cells. -/
namespace Mp
open PySem PySem.Spec PyProof.Rows L2
abbrev Kt := List Key
def intKs : List D → Option Kt
  | [] => some []
  | .int i :: r => (intKs r).map (Sum.inl i :: ·)
  | _ => none
def keyT : D → Option Kt
  | .tup (d :: ds) => intKs (d :: ds)
  | _ => none
def lkT : List Kt → List D → Kt → Option D
  | k :: ks, d :: ds, j => if k = j then some d else lkT ks ds j
  | _, _, _ => none
def hasT (ks : List Kt) (j : Kt) : Bool := ks.any fun k => decide (k = j)
theorem hasT_nil (j : Kt) : hasT [] j = false := Eq.trans rfl rfl
theorem hasT_cons (k : Kt) (ks : List Kt) (j : Kt) : hasT (k :: ks) j = (decide (k = j) || hasT ks j) := Eq.trans rfl rfl
def insT (ks : List Kt) (ds : List D) (j : Kt) (x : D) : List Kt × List D :=
  if hasT ks j = true then (ks, List.zipWith (fun k d => if k = j then x else d) ks ds) else (ks ++ [j], ds ++ [x])
section
variable {K : PySem.W.Frag} {ω ω' : Wo} {h h' : Hc} {d : D} {v : V}
theorem intKs_rel : ∀ {ds : List D} {vs : List V} {k : Kt}, intKs ds = some k → RelL K ω ds vs → vs = k.map kV ∧ (vs = [] ∨ keyV vs = true)
  | [], vs, k, e, r => by
    cases e
    exact ⟨r.inv0, .inl r.inv0⟩
  | d :: ds, vs, k, e, r => by
    obtain ⟨v, ws, rfl, r1, r2⟩ := r.inv
    cases d <;> try (simp [intKs] at e; done)
    rename_i i
    unfold intKs at e
    obtain ⟨k', e1, rfl⟩ := Option.map_eq_some_iff.mp e
    obtain ⟨f1, f2⟩ := intKs_rel e1 r2
    rw [rd_int r1]
    refine ⟨by rw [f1]; rfl, .inr ?_⟩
    rcases f2 with f2 | f2
    · rw [f2]; rfl
    · cases ws with
      | nil => rfl
      | cons w ws => exact f2
theorem keyT_rel {k : Kt} (e : keyT d = some k) (x : RelD K ω d v) : ∃ b, v = .ref b ∧ ω.H b = some (.tup (k.map kV)) := by
  cases d <;> try (simp [keyT] at e; done)
  rename_i ds
  cases ds with
  | nil => simp [keyT] at e
  | cons d ds =>
    have e' : intKs (d :: ds) = some k := e
    unfold RelD at x
    obtain ⟨p, vs, rfl, sq, rl⟩ := x
    obtain ⟨f1, f2⟩ := intKs_rel e' rl
    rcases f2 with f2 | f2
    · rw [f2] at rl
      have := rl.len
      simp at this
    · exact ⟨p, rfl, by rw [← f1]; exact sq.2 f2⟩
theorem lkT_rel : ∀ {ks : List Kt} {ds : List D} {vs : List V} {j : Kt}, RelL K ω ds vs → ks.length = vs.length → match lkT ks ds j with
    | some d => ∃ v, valV (ks.zip vs) j = some v ∧ RelD K ω d v
    | none => valV (ks.zip vs) j = none
  | [], ds, vs, j, r, e => by
    have : lkT [] ds j = none := by cases ds <;> rfl
    rw [this]; simp [valV]
  | k :: ks, [], vs, j, r, e => by rw [r.inv0] at e; simp at e
  | k :: ks, d :: ds, vs, j, r, e => by
    obtain ⟨v, ws, rfl, e2, e3⟩ := r.inv
    have ih := lkT_rel (j := j) e3 (by simpa using e)
    unfold lkT
    by_cases hk : k = j
    · simp only [if_pos hk]
      exact ⟨v, by rw [List.zip_cons_cons]; exact valV_pos hk, e2⟩
    · simp only [if_neg hk]
      have e4 : valV ((k :: ks).zip (v :: ws)) j = valV (ks.zip ws) j := by rw [List.zip_cons_cons]; exact valV_neg hk
      rw [e4]; exact ih
theorem any_zipT : ∀ {ks : List Kt} {vs : List V} {j : Kt}, ks.length = vs.length → ((ks.zip vs).any fun kv => decide (kv.1 = j)) = hasT ks j
  | [], vs, j, _ => by simp [hasT_nil]
  | k :: ks, [], j, e => by simp at e
  | k :: ks, v :: vs, j, e => by
    have ih := any_zipT (j := j) (ks := ks) (vs := vs) (by simpa using e)
    simp only [List.zip_cons_cons, List.any_cons, ih, hasT_cons]
theorem map_zipT {j : Kt} {u : V} : ∀ {ks : List Kt} {vs : List V}, ks.length = vs.length → ((ks.zip vs).map fun kv => if kv.1 = j then (kv.1, u) else kv) = ks.zip (List.zipWith (fun k v => if k = j then u else v) ks vs)
  | [], vs, _ => by simp
  | k :: ks, [], e => by simp at e
  | k :: ks, v :: vs, e => by
    simp only [List.zip_cons_cons, List.map_cons, List.zipWith_cons_cons, map_zipT (ks := ks) (vs := vs) (by simpa using e)]
    congr 1
    split <;> rfl
theorem rep_relT {j : Kt} {x : D} {u : V} (rx : RelD K ω x u) : ∀ {ks : List Kt} {ds : List D} {vs : List V}, RelL K ω ds vs → ks.length = vs.length → RelL K ω (List.zipWith (fun k d => if k = j then x else d) ks ds) (List.zipWith (fun k v => if k = j then u else v) ks vs)
  | [], ds, vs, r, e => by simpa using RelL.nil
  | k :: ks, [], vs, r, e => by rw [r.inv0] at e; simp at e
  | k :: ks, d :: ds, vs, r, e => by
    obtain ⟨v, ws, rfl, e2, e3⟩ := r.inv
    simp only [List.zipWith_cons_cons]
    refine RelL.cons ?_ (rep_relT rx e3 (by simpa using e))
    split
    · exact rx
    · exact e2
theorem putK_zipT {ks : List Kt} {ds : List D} {vs : List V} {j : Kt} {x : D} {u : V} (r : RelL K ω ds vs) (e : ks.length = vs.length) (rx : RelD K ω x u) :
    ∃ ws, putK (ks.zip vs) j u = (insT ks ds j x).1.zip ws ∧ (insT ks ds j x).1.length = ws.length ∧ RelL K ω (insT ks ds j x).2 ws := by
  unfold putK insT
  rw [any_zipT e]
  by_cases hj : hasT ks j = true
  · rw [if_pos hj, if_pos hj]
    exact ⟨_, map_zipT e, by simp [e], rep_relT rx r e⟩
  · rw [if_neg hj, if_neg hj]
    exact ⟨vs ++ [u], by rw [List.zip_append (by simpa using e)]; rfl, by simp [e], r.append (RelL.cons rx RelL.nil)⟩
end
section
variable {X : Cx} {W : WX} {K : PySem.W.Frag} {ω ω' : Wo} {h h' : Hc} {a b e o i : Expr} {m ma mb me mo mi : SE} {pos pos' : Pos} {d : D} {v : V}
def eDtt0 : SE := fun _ h => .ok (.ref h.length) (h ++ [.dtt [] []])
theorem cell_newT {q : Addr} {ks : List Kt} {xs : List D} {vs : List V} (r : Rel K ω h) (hq : ω.H q = none) (hl : ks.length = vs.length) (d : RelL K ω xs vs) :
    Rel K (ω.cell q (.dT (ks.zip vs))) (h ++ [.dtt ks xs]) ∧ RelD K (ω.cell q (.dT (ks.zip vs))) (.ref h.length) (.ref q) := by
  refine ⟨r.cell hq ⟨vs, upd_same, hl, monoL r (Ext.cell hq) _ _ d⟩, ?_⟩
  unfold RelD
  rw [← r.n]
  exact ⟨Nat.lt_succ_self _, by rw [Wo.cell_at]⟩
theorem de_dtt0 : DE X W (.Dict [] [] pos) eDtt0 := de_of pe_dnewT fun σ H Q ⟨ω, h, ds, e1, r, s, p⟩ => by
  subst e1
  intro q hq
  have z := cell_newT (ks := []) (xs := []) (vs := []) r hq rfl RelL.nil
  exact p (.ref q) (ω.cell q (.dT [])) (Ext.cell hq) z.1 z.2
def dttD (h : Hc) : D → Option (List Kt × List D)
  | .ref i => match h[i]? with
    | some (.dtt ks ds) => some (ks, ds)
    | _ => none
  | _ => none
theorem dttD_rel {ks : List Kt} {ds : List D} (r : Rel K ω h) (e : dttD h d = some (ks, ds)) (x : RelD K ω d v) : ∃ p vs, v = .ref p ∧ ω.H p = some (.dT (ks.zip vs)) ∧ ks.length = vs.length ∧ RelL K ω ds vs := by
  cases d <;> try (simp [dttD] at e; done)
  rename_i i
  unfold dttD at e
  cases q : h[i]? with
  | none => simp [q] at e
  | some c =>
    cases c with
    | dtt ks' ds' =>
      simp [q] at e
      obtain ⟨rfl, rfl⟩ := e
      unfold RelD at x
      obtain ⟨vs, e1, e2, e3⟩ := r.cel i _ q
      exact ⟨_, vs, x.2, e1, e2, e3⟩
    | _ => simp [q] at e
def dgtT (x y : D) (h : Hc) : R D := match dttD h x, keyT y with
  | some (ks, ds), some k => match lkT ks ds k with
    | some d => .ok d h
    | none => .bad
  | _, _ => .bad
def dinT (neg : Bool) (y x : D) (h : Hc) : R D := match dttD h x, keyT y with
  | some (ks, _), some k => .ok (.bl (if neg then !hasT ks k else hasT ks k)) h
  | _, _ => .bad
theorem lkT_isSome : ∀ {ks : List Kt} {vs : List V} {k : Kt}, ks.length = vs.length → (valV (ks.zip vs) k).isSome = hasT ks k := fun {ks vs k} e => by
  rw [← valV_any, any_zipT e]
theorem din_wT (neg : Bool) : ∀ σ H Q, tE X W (eOp (dinT neg) ma mb) σ H Q → (if neg then tDNotIn (tE X W ma) (tE X W mb) σ H Q else tDIn (tE X W ma) (tE X W mb) σ H Q) := fun σ H Q ⟨ω, h, ds, e1, r, s, p⟩ => by
  subst e1
  cases neg with
  | false =>
    refine ⟨ω, h, ds, rfl, r, s, p.bd fun x h1 v ω1 e1 r1 d1 p1 => ⟨ω1, h1, ds, rfl, r1, monoS r e1 s, p1.bd fun y h2 u ω2 e2 r2 d2 p2 => ?_⟩⟩
    unfold dinT at p2
    split at p2
    · rename_i ks xs k q1 q2
      obtain ⟨p, vs, rfl, f2, f3, f4⟩ := dttD_rel r2 q1 d2
      obtain ⟨b, rfl, hb⟩ := keyT_rel q2 (mono r1 e2 _ _ d1)
      refine ⟨_, _, rfl, DGet.t (k := k) f2 hb, p2 _ ω2 (Ext.refl _) r2 ?_⟩
      rw [lkT_isSome f3]
      exact bl_rd
    · exact False.elim p2
  | true =>
    refine ⟨ω, h, ds, rfl, r, s, p.bd fun x h1 v ω1 e1 r1 d1 p1 => ⟨ω1, h1, ds, rfl, r1, monoS r e1 s, p1.bd fun y h2 u ω2 e2 r2 d2 p2 => ?_⟩⟩
    unfold dinT at p2
    split at p2
    · rename_i ks xs k q1 q2
      obtain ⟨p, vs, rfl, f2, f3, f4⟩ := dttD_rel r2 q1 d2
      obtain ⟨b, rfl, hb⟩ := keyT_rel q2 (mono r1 e2 _ _ d1)
      refine ⟨_, _, rfl, DGet.t (k := k) f2 hb, p2 _ ω2 (Ext.refl _) r2 ?_⟩
      rw [lkT_isSome f3]
      exact bl_rd
    · exact False.elim p2
theorem dt_dinT (hu : X.A.units + 1 < cLine) (ha : DE X W a ma) (hb : DE X W b mb) (hm : behindInMarks .In b = false := by rfl) : DT X W (.Compare a [.In] [b] pos) (bEx (eOp (dinT false) ma mb)) :=
  dt_of (pt_cmp (pc_din hu ha hb) hm) fun σ H Q h => din_wT false σ H _ (tBw σ H Q h)
theorem dt_dninT (hu : X.A.units + 1 < cLine) (ha : DE X W a ma) (hb : DE X W b mb) (hm : behindInMarks .NotIn b = false := by rfl) : DT X W (.Compare a [.NotIn] [b] pos) (bEx (eOp (dinT true) ma mb)) :=
  dt_of (pt_cmp (pc_dnotin hu ha hb) hm) fun σ H Q h => din_wT true σ H _ (tBw σ H Q h)
def putT (o i x : D) (h : Hc) : Option Hc := match o, keyT i with
  | .ref j, some k => match h[j]? with
    | some (.dtt ks ds) => if ks.length < lim then some (h.set j (.dtt (insT ks ds k x).1 (insT ks ds k x).2)) else none
    | _ => none
  | _, _ => none
theorem rd_celT {j : Nat} {ks : List Kt} {xs : List D} {v : V} (r : Rel K ω h) (x : RelD K ω (.ref j) v) (q : h[j]? = some (.dtt ks xs)) : ∃ vs, j < ω.n ∧ v = .ref (ω.β j) ∧ ω.H (ω.β j) = some (.dT (ks.zip vs)) ∧ ks.length = vs.length ∧ RelL K ω xs vs := by
  unfold RelD at x
  obtain ⟨vs, e1, e2, e3⟩ := r.cel j _ q
  exact ⟨vs, x.1, x.2, e1, e2, e3⟩
theorem put_dtt {j : Nat} {ks ls : List Kt} {xs ys : List D} {vs : List V} (r : Rel K ω h) (q : h[j]? = some (.dtt ks xs)) (hl : ls.length = vs.length) (y : RelL K ω ys vs) :
    Ext ω (ω.up (ω.β j) (.dT (ls.zip vs))) ∧ Rel K (ω.up (ω.β j) (.dT (ls.zip vs))) (h.set j (.dtt ls ys)) := by
  have hi : j < ω.n := by rw [r.n]; exact (List.getElem?_eq_some_iff.mp q).1
  obtain ⟨_, ho, _⟩ := r.cel j _ q
  have e := Ext.put (o := .dT (ls.zip vs)) hi ho
  exact ⟨e, r.put hi ho ⟨vs, upd_same, hl, monoL r e _ _ y⟩⟩
theorem putT_rel {ov iv xv : V} {oD iD xD : D} (r : Rel K ω h) (ro : RelD K ω oD ov) (ri : RelD K ω iD iv) (rx : RelD K ω xD xv) (e : putT oD iD xD h = some h') :
    ∃ p H4, ov = .ref p ∧ DPut ω.H p iv xv H4 ∧ ∃ ω', ω'.H = H4 ∧ Ext ω ω' ∧ Rel K ω' h' := by
  unfold putT at e
  split at e
  · rename_i j k q1
    split at e
    · rename_i ks xs q2
      split at e
      · rename_i hl
        cases e
        obtain ⟨vs, e0, e1, e2, e3, e4⟩ := rd_celT r ro q2
        obtain ⟨ws, f1, f2, f3⟩ := putK_zipT (j := k) (x := xD) e4 e3 rx
        obtain ⟨g1, g2⟩ := put_dtt r q2 f2 f3
        obtain ⟨b, rfl, hb⟩ := keyT_rel q1 ri
        refine ⟨_, _, e1, ?_, _, rfl, g1, g2⟩
        rw [← f1]
        refine DPut.t e2 hb ?_
        rw [List.length_zip, ← e3, Nat.min_self]
        exact lim_lt hl
      · cases e
    · cases e
  · cases e
theorem ds_dputT (hu : X.A.units + 1 < cLine) (ho : DE X W o mo) (hi : DE X W i mi) (he : DE X W e me) (hs : swapsWith e (some (.Subscript o i pos')) pos.line X.env = pure false := by rfl) : DS X W (.Assign [.Subscript o i pos'] e pos) (sPut putT me mo mi) :=
  ds_of (ps_dput hu ho hi he hs) fun E σ H ⟨ω, h, ds, e1, r, s, p⟩ => by
    subst e1
    refine ⟨ω, h, ds, rfl, r, s, PostO.bd r s p fun x h1 v ω1 e1 r1 d1 s1 p1 => ⟨ω1, h1, ds, rfl, r1, s1, PostO.bd r1 s1 p1 fun o h2 u ω2 e2 r2 d2 s2 p2 => ⟨ω2, h2, ds, rfl, r2, s2, PostO.bd r2 s2 p2 fun i h3 w ω3 e3 r3 d3 s3 p3 => ?_⟩⟩⟩
    cases q : putT o i x h3 with
    | none => rw [q] at p3; exact False.elim p3
    | some h4 =>
      rw [q] at p3
      obtain ⟨p, H4, rfl, z1, ω4, rfl, z3, z4⟩ := putT_rel r3 (mono r2 e3 _ _ d2) d3 (mono r1 (e2.trans e3) _ _ d1) q
      exact ⟨_, _, rfl, z1, p3 σ ω4 z3 z4 (monoS r3 z3 s3)⟩
/-! ### calls over the caller's cells -/
variable {es : List Expr} {as : SA} {m : Fn} {p : Pos} {x : Str} {ps : List Str} {k : Nat}
theorem dcG {m : Fn} (tk : Takes X W) (G : Good X.prog X.w X.K X.mg X.base x k ps m) (hr : Room k X.A) (hg : Gl X x) (hn : (e :: es).length = ps.length) (hl : ∀ ds h xs h', as ds h = .ok xs h' → xs.length = (e :: es).length) (ha : DA X W (e :: es) as)
    (hdb : (x == ("__debug__" : Str)) = false := by decide) (he : starEach (e :: es) X.env = (false, eval e X.env) :: starEach es X.env := by rfl) (hpl : (backTo pos (starEach es X.env)).any (·.1) = false := by rfl) : DE X W (.Call (.Name x p) (e :: es) [] pos) (eCallG m as) := by
  obtain ⟨f, fd, g, kp, b, _, F⟩ := G
  exact de_callG tk F hr hg g kp b hn hl ha hdb he hpl
end
/-! ### min(xs, default=d) -/
def rMinD (K : PySem.W.Frag) : List V → List V → Hp → VK → Prop := fun vs zs H Q => ∃ (a : Addr) (ns : List Int) (z : V), vs = [V.ref a] ∧ zs = [z] ∧ SqL K H a (ns.map V.int) ∧ (ns = [] → Q z H) ∧ ∀ n r, ns = n :: r → Q (V.int (r.foldl min n)) H
section
variable {X : Cx}
def mndF (x d : D) (h : Hc) : R D := match rdlD h x with
  | some ys => match intsD ys with
    | some [] => .ok d h
    | some (n :: r) => .ok (.int (r.foldl min n)) h
    | none => .bad
  | none => .bad
variable {W : WX} {e ed : Expr} {ma md : SE} {p pos kp : Pos}
end
end Mp
/-! LaySa: sets of ints: set(a list). -/
namespace Mp
open PySem PySem.Spec PyProof.Rows L2
/-- the set object that has just been made -/
abbrev nset (w : World) : Obj := { cls := .type "set", dict := none, data := .set #[] 0 (.fresh 0 0 (!w.params.followText "set-order")) }
section
variable {P : Program} {w : World} {A : Around} {E : Value → Shared → Prop} {s : Shared}
end
end Mp
/-! LaySb: a set's sorted list (any number of members). -/
namespace Mp
open PySem PySem.Spec PyProof.Rows L2
section
variable {P : Program} {w : World} {A : Around} {E : Value → Shared → Prop} {s : Shared}
end
section
variable {X : Cx}
def rSortedSetN (w : World) : List V → Hp → VK → Prop := fun vs H Q => ∃ (a : Addr) (S : Int → Bool) (n : Nat), vs = [V.ref a] ∧ H a = some (SetO w a S n) ∧ n ≤ lim ∧
  ∀ (ns : List Int) (p : Addr), ns.Pairwise (· < ·) → (∀ k : Int, k ∈ ns ↔ S k = true) → H p = none → Q (.ref p) (upd H p (.lst (ns.map V.int)))
/-- set(xs), xs a list of ints -/
def rSetL (w : World) (K : PySem.W.Frag) : List V → Hp → VK → Prop := fun vs H Q => ∃ (a : Addr) (ns : List Int), vs = [V.ref a] ∧ SqL K H a (ns.map V.int) ∧ ns.length < 1000 ∧
  ∀ (p : Addr) (n : Nat), n ≤ ns.length → H p = none → Q (.ref p) (upd H p (SetO w p (fun j => decide (j ∈ ns)) n))
end
end Mp
/-! LaySc: set comprehensions of ints with two clauses. -/
namespace Mp
open PySem PySem.Spec PyProof.Rows L2
section
variable {X : Cx}
end
section
variable {prog : Program} {w : World} {A : Around} {R : Result → Shared → Prop} {s : Shared} {elt tz0 iz0 tz1 iz1 : Expr} {ifsz0 ifsz1 : List Expr} {scope : Scope} {pos : Pos} {it acc : Value} {env : Env}

end
section
variable {X : Cx}
/-- what {elt for .. for ..}, elt an int, asks -/
def tSc2 (w : World) (wi : TI) (g : TG) (tt : TT) (wiz1 : TI) (gz1 : TG) (ttz1 : TT) (te : TE) (vs vsz1 : List Nat) : TE := fun σ H Q => wi σ H fun J Hz1 => ∀ D, Hz1 D = none → ∃ W : Nat → Nat → Hp → Prop, (∃ m, W 0 m (upd Hz1 D (SetO w D (fun _ => false) 0))) ∧ ∀ i m H, W i m H →
  (J.stop i H ∧ Q (.ref D) H) ∨ (J.go i H ∧ ∃ Nx : Hp → Prop, (∀ H', Nx H' → ∃ m', m' < m ∧ W (i + 1) m' H') ∧ ∀ x H', J.yld i H x H' → g x (wipe σ vs) H' fun σz2 Hz2 => wipe σz2 vs = wipe σ vs ∧ tt σz2 Hz2 fun b Hz3 =>
    if b = true then wiz1 σz2 Hz3 fun Jz1 Hz4 => ∃ Wz1 : Nat → Nat → Hp → Prop, (∃ m, Wz1 0 m Hz4) ∧ ∀ j k H, Wz1 j k H →
      (Jz1.stop j H ∧ Nx H) ∨ (Jz1.go j H ∧ ∃ Nxz1 : Hp → Prop, (∀ H', Nxz1 H' → ∃ k', k' < k ∧ Wz1 (j + 1) k' H') ∧ ∀ x H', Jz1.yld j H x H' → gz1 x (wipe σz2 vsz1) H' fun σz3 Hz5 => wipe σz3 vsz1 = wipe σz2 vsz1 ∧ ttz1 σz3 Hz5 fun b Hz6 =>
        if b = true then te σz3 Hz6 fun y Hz7 => ∃ (k : Int) (S : Int → Bool) (n : Nat), y = .int k ∧ Hz7 D = some (SetO w D S n) ∧ n + 1 < scanBound ∧ Nxz1 (upd Hz7 D (SetO w D (fun j => S j || decide (j = k)) (if S k = true then n else n + 1))) else Nxz1 Hz6)
    else Nx Hz3)
end
end Mp
/-! LaySd: sorted(set(a list of ints)), sorted({a | b for a in xs for b in ys}) over data. -/
namespace Mp
open PySem PySem.Spec PyProof.Rows L2
/-- a number put into a rising row, once -/
def insU (k : Int) : List Int → List Int
  | [] => [k]
  | a :: r => if k < a then k :: a :: r else if k = a then a :: r else a :: insU k r
def sdF (ns : List Int) : List Int := ns.foldr insU []
section
variable {X : Cx} {W : WX}
/-- sorted(set(xs)) -/
def ssF (xs : List D) (h : Hc) : R D := match xs with
  | [d] => match rdlD h d with
    | some ys => match intsD ys with
      | some ns => if ns.length < 1000 then .ok (.lst ((sdF ns).map .int)) h else .bad
      | none => .bad
    | none => .bad
  | _ => .bad
def eSS (m : SE) : SE := fun ds h => (m ds h).bd fun x h1 => ssF [x] h1
/-! ### two clauses -/
def prs2 (ns ms : List Int) : List Int := ns.flatMap fun a => ms.map fun b => Builtin.bitOr a b
def dl (l : List Int) : Nat := (sdF l).length
def tS2 (w : World) (K : PySem.W.Frag) (i j ia ib : Nat) : TE := fun σ H Q => ∃ la lb ns ms, σ[i]? = some (some (.ref la)) ∧ σ[j]? = some (some (.ref lb)) ∧ SqL K H la (ns.map V.int) ∧ SqL K H lb (ms.map V.int) ∧ dl (prs2 ns ms) < 2000 ∧ ia < σ.length ∧ ib < σ.length ∧
  ∀ D n, n < 2000 → H D = none → Q (.ref D) (upd H D (SetO w D (fun k => decide (k ∈ prs2 ns ms)) n))
/-- sorted({a | b for a in xs for b in ys}), xs and ys in slots -/
def eS2 (i j ia ib : Nat) : SE := fun ds h => match ds[i]?, ds[j]? with
  | some (some x), some (some y) => match rdlD h x, rdlD h y with
    | some xs, some ys => match intsD xs, intsD ys with
      | some ns, some ms => if dl (prs2 ns ms) < 2000 ∧ ia < ds.length ∧ ib < ds.length then .ok (.lst ((sdF (prs2 ns ms)).map .int)) h else .bad
      | _, _ => .bad
    | _, _ => .bad
  | _, _ => .bad
end
end Mp
/-! LaySe: sorted(xs, key=f), f a def of the module. -/
namespace Mp
open PySem PySem.Spec PyProof.Rows L2
/-- f's value at a flat datum, by its mirror over no cells -/
def defRun (m : Fn) (y : D) : Option D := if flat y = true then match m [y] [] with
  | .ok k [] => if flat k = true then some k else none
  | _ => none
  else none
section
variable {X : Cx} {σ : L2.St} {ω0 : Wo} {h : Hc} {f : Addr} {fd : FuncData} {k : Nat} {m : Fn} {ps : List Str}
end
def eSortD (ma : SE) (m : Fn) : SE := fun ds h => (ma ds h).bd fun x h1 => match rdlD h1 x with
  | some xs => match keysL (defRun m) xs with
    | some (_, pds) => if sortB pds = true then .ok (.lst (byKeys xs pds)) h1 else .bad
    | none => .bad
  | none => .bad
section
variable {X : Cx} {W : WX} {k : Nat} {x : Str} {ps : List Str} {m : Fn} {e : Expr} {ma : SE} {p1 p2 kp pos : Pos}
end
end Mp
/-! LaySf: sets of texts. -/
namespace Mp
open PySem PySem.Spec PyProof.Rows L2
def keyTx (e : Int × Value) : Str := match e.2 with | .str k _ => k | _ => Str.empty
def GoodTx (w : World) (e : Int × Value) : Prop := ∃ k tk, e.2 = Value.str k tk ∧ e.1 = hashStr w k

/-- the set of texts at a -/
def SetTx (w : World) (h : Heap) (a : Addr) (S : Str → Bool) (n : Nat) : Prop :=
  ∃ o es ep t, h.get? a = some o ∧ o.ExactSet ∧ o.data = .set es ep t ∧ (∀ e ∈ es.toList, GoodTx w e) ∧ (es.toList.map keyTx).Nodup ∧ (∀ k, S k = true ↔ k ∈ es.toList.map keyTx) ∧
    es.size < scanBound ∧ t.fits es.size = true ∧ es.size = n ∧ Ris t.place.toList ∧ (w.params.followText "set-order" = true ∨ t.led = true)

section
variable {P : Program} {w : World} {h h' : Heap} {a : Addr} {S : Str → Bool} {n : Nat}

end

section
variable {P : Program} {w : World} {A : Around} {E : Value → Shared → Prop} {s : Shared} {a : Addr} {S : Str → Bool} {n : Nat}
end
end Mp
/-! LaySg: set(a tuple of texts), sorted(it). -/
namespace Mp
open PySem PySem.Spec PyProof.Rows L2
section
variable {P : Program} {w : World} {A : Around} {E : Value → Shared → Prop} {s : Shared}
end
/-! ### as tracked things -/
def SetTO (w : World) (a : Addr) (S : Str → Bool) (n : Nat) : HO := .ext fun h => SetTx w h a S n
section
variable {X : Cx} {W : WX}
def rSetT (w : World) (K : PySem.W.Frag) : List V → Hp → VK → Prop := fun vs H Q => ∃ (a : Addr) (ns : List Str), vs = [V.ref a] ∧ SqT K H a (ns.map V.str) ∧ ns.length < 64 ∧
  ∀ (p : Addr) (n : Nat), n ≤ ns.length → H p = none → Q (.ref p) (upd H p (SetTO w p (fun j => decide (j ∈ ns)) n))
def rSortedSetT (w : World) : List V → Hp → VK → Prop := fun vs H Q => ∃ (a : Addr) (S : Str → Bool) (n : Nat), vs = [V.ref a] ∧ H a = some (SetTO w a S n) ∧ n < 64 ∧
  ∀ (ns : List Str) (p : Addr), sortedS ns = true → ns.Nodup → (∀ k, k ∈ ns ↔ S k = true) → H p = none → Q (.ref p) (upd H p (.lst (ns.map V.str)))
/-! ### as data -/
def udS : List Str → List Str
  | [] => []
  | w :: r => if w ∈ udS r then udS r else w :: udS r
def ssT (xs : List D) (h : Hc) : R D := match xs with
  | [.tup ds] => match strsD ds with
    | some ns => if ns.length < 64 then .ok (.lst ((isort leS (udS ns)).map .str)) h else .bad
    | none => .bad
  | _ => .bad
def eST (m : SE) : SE := fun ds h => (m ds h).bd fun x h1 => ssT [x] h1
end
end Mp
/-! LaySh: min(xs, key=f), f a def of the module. -/
namespace Mp
open PySem PySem.Spec PyProof.Rows L2
/-- the first of the best -/
def bestAt (ds : List PyData) : Nat → Nat
  | 0 => 0
  | j + 1 => if PySem.W.dataLt (ds.getD (j + 1) .none) (ds.getD (bestAt ds j) .none) = true then j + 1 else bestAt ds j
structure KeyCall1 (X : Cx) (σ : L2.St) (ω0 : Wo) (h : Hc) (f : Value) (g : D → Option D) : Prop where
  run : ∀ (pins : List (Addr × Obj)) (s : Shared) (ω : Wo) (x : D) (v : V) (u : Value) (k : D), Ext ω0 ω → Rel X.K ω h → L2.Inv X pins σ ω.H s → RelD X.K ω x v → RelV v u → g x = some k →
    wpAny (model X.prog X.w) X.A.in1 (PySem.call f [u]) (EP X pins σ fun kv H' => ∃ ω', ω'.H = H' ∧ Ext ω ω' ∧ Rel X.K ω' h ∧ RelD X.K ω' k kv) (fun _ _ => False) s
/-- behind the turn j: b the best so far -/
def MSt (X : Cx) (pins : List (Addr × Obj)) (σ : L2.St) (ω0 : Wo) (h : Hc) (It S l : Addr) (xs ks : List D) (j b : Nat) (vb kb : Value) (s : Shared) : Prop :=
  ∃ ω c, Ext ω0 ω ∧ Rel X.K ω h ∧ L2.Inv X pins σ ω.H s ∧ FpOk X pins ω.H It ∧ FpOk X pins ω.H S ∧ s.heap.IsListIter It l j ∧ s.heap.get? S = some { cls := .type "list", dict := none, data := .seq #[vb, kb] c, slots := #[] } ∧
    (∃ d v, xs[b]? = some d ∧ RelD X.K ω d v ∧ RelV v vb) ∧ ∃ d v, ks[b]? = some d ∧ RelD X.K ω d v ∧ RelV v kb
section
variable {X : Cx} {pins : List (Addr × Obj)} {σ : L2.St} {ω0 : Wo} {h : Hc} {It S l : Addr} {xs ks : List D} {ds : List PyData} {dl : D} {f : Addr} {g : D → Option D} {R : Result → Shared → Prop}
end
end Mp
/-! LaySi: min(xs, key=f), xs.extend(ys) over data. -/
namespace Mp
open PySem PySem.Spec PyProof.Rows L2
def eMinD (ma : SE) (m : Fn) : SE := fun ds h => (ma ds h).bd fun x h1 => match rdlD h1 x with
  | some xs => match keysL (defRun m) xs with
    | some (_, pds) => if sortB pds = true ∧ 0 < xs.length then (match xs[bestAt pds (xs.length - 1)]? with | some d => .ok d h1 | none => .bad) else .bad
    | none => .bad
  | none => .bad
section
variable {X : Cx} {W : WX} {k : Nat} {x : Str} {ps : List Str} {m : Fn} {e : Expr} {ma : SE} {p1 p2 kp pos : Pos}
/-! ### xs.extend(ys) -/
def extF (o : D) (xs : List D) (h : Hc) : R D := match o, xs with
  | .ref i, [.lst zs] => match h[i]? with
    | some (.lst ys) => if ys.length + zs.length < lim then .ok .non (h.set i (.lst (ys ++ zs))) else .bad
    | _ => .bad
  | _, _ => .bad
end
end Mp
/-! LayLt: list comprehensions with two clauses; the second source is a range or a tuple. -/
namespace Mp
open PySem PySem.Spec PyProof.Rows L2
section
variable {K : PySem.W.Frag} {ω ω' : Wo} {h h' : Hc} {ds : Sl} {σ : L2.St}
/-- a list at q that is not read as data -/
structure Hid (ω : Wo) (q : Addr) (vs : List V) : Prop where
  a : ω.A q
  b : ∀ i, i < ω.n → ω.β i ≠ q
  h : ω.H q = some (.lst vs)
theorem Hid.ne {q p : Addr} {vs : List V} {o : HO} (y : Hid ω q vs) (e : ω.H p = some o) (n : ∀ l, o ≠ .lst l) : p ≠ q := fun z => by
  rw [z, y.h] at e; cases e; exact n _ rfl
theorem Hid.ext {q : Addr} {vs : List V} (y : Hid ω q vs) (e : Ext ω ω') : Hid ω' q vs := by
  refine ⟨e.a _ y.a, fun j hj z => ?_, e.keep _ _ y.h (by intro _ z; cases z) (.inl fun j hj => y.b j hj)⟩
  by_cases hj2 : j < ω.n
  · rw [e.b j hj2] at z; exact y.b j hj2 z
  · have := e.nw j (Nat.not_lt.mp hj2) hj
    rw [z, y.h] at this; cases this
/-- without it the data mean the same -/
theorem dropD {q : Addr} {us : List V} (y : Hid ω q us) : (∀ d v, RelD K ω d v → RelD K (ω.drop q) d v) ∧ ∀ ds vs, RelL K ω ds vs → RelL K (ω.drop q) ds vs := by
  have stT : ∀ p vs', SqQ K ω.H p vs' → SqQ K (ω.drop q).H p vs' := fun p vs' ⟨x, z⟩ => by
    refine ⟨?_, fun k => by rw [Wo.drop_ne (y.ne (z k) (by intro l z; cases z))]; exact z k⟩
    rcases x with (x | ⟨o, x⟩) | x
    · exact .inl (.inl (by rw [Wo.drop_ne (y.ne x (by intro l z; cases z))]; exact x))
    · exact .inl (.inr ⟨o, by rw [Wo.drop_ne (y.ne x (by intro l z; cases z))]; exact x⟩)
    · exact .inr x
  have stR : ∀ p o, ω.H p = some o → ¬ ω.A p → (ω.drop q).H p = some o ∧ ¬ (ω.drop q).A p := fun p o x n => by
    have ne : p ≠ q := fun e => n (e ▸ y.a)
    rw [Wo.drop_ne ne]; exact ⟨x, fun z => n z.1⟩
  have stK : ∀ p vs', LkL K ω p vs' → LkL K (ω.drop q) p vs' := fun p vs' x => by
    rcases x with ⟨o, x⟩ | x
    · exact .inl ⟨o, by rw [Wo.drop_ne (y.ne x (by intro l z; cases z))]; exact x⟩
    · exact .inr x
  have aux := @D.rec (motive_1 := fun d => ∀ v, RelD K ω d v → RelD K (ω.drop q) d v) (motive_2 := fun ds => ∀ vs, RelL K ω ds vs → RelL K (ω.drop q) ds vs)
      (fun v x => by unfold RelD at x ⊢; exact x) (fun b v x => by unfold RelD at x ⊢; exact x) (fun i v x => by unfold RelD at x ⊢; exact x) (fun s v x => by unfold RelD at x ⊢; exact x)
      (fun ds ih v x => by unfold RelD at x ⊢; obtain ⟨p, vs', e1, e2, e3⟩ := x; exact ⟨p, vs', e1, stT p vs' e2, ih _ e3⟩)
      (fun ds ih v x => by unfold RelD at x ⊢; obtain ⟨p, vs', e1, ⟨e2, n⟩, e3⟩ := x; exact ⟨p, vs', e1, stR _ _ e2 n, ih _ e3⟩)
      (fun ds ih v x => by unfold RelD at x ⊢; obtain ⟨p, vs', e1, e2, e3⟩ := x; exact ⟨p, vs', e1, stK _ _ e2, ih _ e3⟩)
      (fun ks ds ih v x => by unfold RelD at x ⊢; obtain ⟨p, vs', e1, ⟨e2, n⟩, e3, e4⟩ := x; exact ⟨p, vs', e1, stR _ _ e2 n, e3, ih _ e4⟩)
      (fun i v x => by unfold RelD at x ⊢; exact x) (fun t v x => by unfold RelD at x ⊢; exact x)
      (fun vs x => by unfold RelL at x ⊢; exact x)
      (fun d ds ih1 ih2 vs x => by unfold RelL at x ⊢; obtain ⟨v, ws', e1, e2, e3⟩ := x; exact ⟨v, ws', e1, ih1 _ e2, ih2 _ e3⟩)
  refine ⟨aux, fun ds => ?_⟩
  induction ds with
  | nil => intro vs x; unfold RelL at x ⊢; exact x
  | cons d ds ih => intro vs x; obtain ⟨v, ws', rfl, e2, e3⟩ := x.inv; exact RelL.cons (aux d v e2) (ih _ e3)
/-- and with it again -/
theorem undropD {q : Addr} : (∀ d v, RelD K (ω.drop q) d v → RelD K ω d v) ∧ ∀ ds vs, RelL K (ω.drop q) ds vs → RelL K ω ds vs := by
  have ne : ∀ p o, (ω.drop q).H p = some o → p ≠ q := fun p o e z => by rw [z, Wo.drop_eq] at e; cases e
  have at' : ∀ p o, (ω.drop q).H p = some o → ω.H p = some o := fun p o e => by rw [← Wo.drop_ne (ne p o e)]; exact e
  have stT : ∀ p vs', SqQ K (ω.drop q).H p vs' → SqQ K ω.H p vs' := fun p vs' ⟨x, z⟩ => by
    refine ⟨?_, fun k => at' _ _ (z k)⟩
    rcases x with (x | ⟨o, x⟩) | x
    · exact .inl (.inl (at' _ _ x))
    · exact .inl (.inr ⟨o, at' _ _ x⟩)
    · exact .inr x
  have stR : ∀ p o, (ω.drop q).H p = some o → ¬ (ω.drop q).A p → ω.H p = some o ∧ ¬ ω.A p := fun p o x n => ⟨at' _ _ x, fun z => n ⟨z, ne _ _ x⟩⟩
  have stK : ∀ p vs', LkL K (ω.drop q) p vs' → LkL K ω p vs' := fun p vs' x => by
    rcases x with ⟨o, x⟩ | x
    · exact .inl ⟨o, at' _ _ x⟩
    · exact .inr x
  have aux := @D.rec (motive_1 := fun d => ∀ v, RelD K (ω.drop q) d v → RelD K ω d v) (motive_2 := fun ds => ∀ vs, RelL K (ω.drop q) ds vs → RelL K ω ds vs)
      (fun v x => by unfold RelD at x ⊢; exact x) (fun b v x => by unfold RelD at x ⊢; exact x) (fun i v x => by unfold RelD at x ⊢; exact x) (fun s v x => by unfold RelD at x ⊢; exact x)
      (fun ds ih v x => by unfold RelD at x ⊢; obtain ⟨p, vs', e1, e2, e3⟩ := x; exact ⟨p, vs', e1, stT p vs' e2, ih _ e3⟩)
      (fun ds ih v x => by unfold RelD at x ⊢; obtain ⟨p, vs', e1, ⟨e2, n⟩, e3⟩ := x; exact ⟨p, vs', e1, stR _ _ e2 n, ih _ e3⟩)
      (fun ds ih v x => by unfold RelD at x ⊢; obtain ⟨p, vs', e1, e2, e3⟩ := x; exact ⟨p, vs', e1, stK _ _ e2, ih _ e3⟩)
      (fun ks ds ih v x => by unfold RelD at x ⊢; obtain ⟨p, vs', e1, ⟨e2, n⟩, e3, e4⟩ := x; exact ⟨p, vs', e1, stR _ _ e2 n, e3, ih _ e4⟩)
      (fun i v x => by unfold RelD at x ⊢; exact x) (fun t v x => by unfold RelD at x ⊢; exact x)
      (fun vs x => by unfold RelL at x ⊢; exact x)
      (fun d ds ih1 ih2 vs x => by unfold RelL at x ⊢; obtain ⟨v, ws', e1, e2, e3⟩ := x; exact ⟨v, ws', e1, ih1 _ e2, ih2 _ e3⟩)
  refine ⟨aux, fun ds => ?_⟩
  induction ds with
  | nil => intro vs x; unfold RelL at x ⊢; exact x
  | cons d ds ih => intro vs x; obtain ⟨v, ws', rfl, e2, e3⟩ := x.inv; exact RelL.cons (aux d v e2) (ih _ e3)
theorem dropR {q : Addr} {us : List V} (r : Rel K ω h) (y : Hid ω q us) : Rel K (ω.drop q) h := by
  refine ⟨r.n, r.inj, fun i hi => ⟨r.inA i hi, y.b i hi⟩, fun p hp => ?_, fun i c hi => ?_, tabs_keep r.tabs fun b u e nm => by rw [Wo.drop_ne (y.ne e (by rintro l rfl; exact nm trivial))]; exact e⟩
  · rw [Wo.drop_ne hp.2]; exact r.sub p hp.1
  · have hl : i < ω.n := by rw [r.n]; exact (List.getElem?_eq_some_iff.mp hi).1
    have x := r.cel i c hi
    show RelC K (ω.drop q) (ω.β i) c
    have key := dropD (K := K) y
    cases c with
    | lst xs => obtain ⟨vs', e1, e2⟩ := x; exact ⟨vs', (Wo.drop_ne (y.b i hl)).trans e1, key.2 _ _ e2⟩
    | dct ks xs => obtain ⟨vs', e1, e3, e2⟩ := x; exact ⟨vs', (Wo.drop_ne (y.b i hl)).trans e1, e3, key.2 _ _ e2⟩
    | dtt ks xs => obtain ⟨vs', e1, e3, e2⟩ := x; exact ⟨vs', (Wo.drop_ne (y.b i hl)).trans e1, e3, key.2 _ _ e2⟩
    | obj cls fs xs => obtain ⟨vs', ⟨cx, dx, e0, e1⟩, e3, e2⟩ := x; exact ⟨vs', ⟨cx, dx, e0, (Wo.drop_ne (y.b i hl)).trans e1⟩, e3, key.2 _ _ e2⟩
    | rng lo hi => exact (Wo.drop_ne (y.b i hl)).trans x
    | lkd ks xs => obtain ⟨vs', ⟨o, e1⟩, e3, e2⟩ := x; exact ⟨vs', ⟨o, (Wo.drop_ne (y.b i hl)).trans e1⟩, e3, key.2 _ _ e2⟩
    | lkt ks xs => obtain ⟨vs', ⟨o, e1⟩, e3, e2⟩ := x; exact ⟨vs', ⟨o, (Wo.drop_ne (y.b i hl)).trans e1⟩, e3, key.2 _ _ e2⟩
/-- data are as they were, whatever the hidden list holds -/
theorem monoH {q : Addr} {us : List V} (r : Rel K ω h) (y : Hid ω q us) (e : Ext (ω.drop q) (ω'.drop q)) (d : D) (v : V) (x : RelD K ω d v) : RelD K ω' d v :=
  undropD.1 _ _ (mono (dropR r y) e _ _ ((dropD y).1 _ _ x))
theorem monoHS {q : Addr} {us : List V} (r : Rel K ω h) (y : Hid ω q us) (e : Ext (ω.drop q) (ω'.drop q)) (x : RelS K ω ds σ) : RelS K ω' ds σ :=
  ⟨x.1, fun i d hd => by obtain ⟨v, e1, e2⟩ := x.2 i d hd; exact ⟨v, e1, monoH r y e _ _ e2⟩⟩
end
/-- a source that stays as it is while one hidden list changes -/
def ItOkH (K : PySem.W.Frag) (ω : Wo) (it : ItD) (J : It) : Prop := ∀ (q : Addr) (us : List V), Hid ω q us → ∀ (i : Nat) (ω' : Wo) (h' : Hc), Ext (ω.drop q) (ω'.drop q) → Rel K ω' h' → it.chk h' = true →
  (∀ d, it.items[i]? = some d → J.go i ω'.H ∧ ∀ x H', J.yld i ω'.H x H' → H' = ω'.H ∧ RelD K ω' d x) ∧ (it.items[i]? = none → J.stop i ω'.H)
abbrev tIH (X : Cx) (W : WX) (m : SI) : TI := tOf X.K X.mg W (ItOkH X.K) m
abbrev DIH (X : Cx) (W : WX) (tg iter : Expr) (m : SI) : Prop := PI X tg iter (tIH X W m)
theorem dih_of {X : Cx} {W : WX} {tg iter : Expr} {mi : SI} {t1 : TI} (h : PI X tg iter t1) (hw : ∀ σ H R, tIH X W mi σ H R → t1 σ H R) : DIH X W tg iter mi := ⟨fun pins s σ H R I q => h.run pins s σ H R I (hw σ H R q)⟩
section
variable {K : PySem.W.Frag} {ω : Wo} {h : Hc}
theorem itOkH_rng {lo : Int} {n : Nat} : ItOkH K ω ⟨upFrom lo n, fun _ => true⟩ (Itr lo n) := fun q us y i ω' h' e r' hk => by
  unfold upFrom
  refine ⟨fun d hd => ?_, fun hn => ?_⟩
  · by_cases hi : i < n
    · have : d = .int (lo + (i : Int)) := by
        simp [List.getElem?_map, List.getElem?_range hi] at hd
        exact hd.symm
      subst this
      refine ⟨hi, fun y H' ⟨e6, e7⟩ => ⟨e6, ?_⟩⟩
      rw [e7]; exact int_rd
    · rw [List.getElem?_map, List.getElem?_eq_none (by simpa using Nat.not_lt.mp hi)] at hd; cases hd
  · simp only [List.getElem?_map, Option.map_eq_none_iff, List.getElem?_eq_none_iff, List.length_range] at hn
    exact hn
end
/-- the items of a tuple -/
def iTup (m : SE) : SI := fun ds h => (m ds h).bd fun d h1 => match d with
  | .tup xs => .ok ⟨xs, fun _ => true⟩ h1
  | _ => .bad
section
variable {X : Cx} {W : WX} {tg e : Expr} {m : SE} {as : SA}
theorem dih_rg1 (h : PI X tg e (iRng1 (tA X W as))) : DIH X W tg e (iRg1 as) := dih_of h fun σ H R ⟨ω, h, ds, e1, r, s, p⟩ => by
  subst e1
  refine ⟨ω, h, ds, rfl, r, s, Post.bd (show Post X.K X.mg W σ ω _ R ((as ds h).bd _) from p) fun xs h1 vs ω1 e1 r1 d1 p1 => ?_⟩
  split at p1
  · rename_i j
    obtain ⟨hc, p1⟩ := p1.if_
    obtain ⟨v, ws, rfl, e2, e3⟩ := d1.inv
    rw [e3.inv0, rd_int e2]
    exact ⟨j, rfl, hc.1, hc.2, p1 _ ω1 (Ext.refl _) r1 itOkH_rng⟩
  · exact False.elim p1
end
/-! ### the comprehension -/
def lcR2 (chk : Hc → Bool) (p : Pt) (own : List Nat) (mi1 : SI) (p1 : Pt) (own1 : List Nat) (c1 : SB) (m : SE) (ds : Sl) : List D → List D → Hc → R (List D)
  | [], acc, h => if chk h = true then .ok acc h else .bad
  | d :: r, acc, h => if chk h = true then (match bindP h p d (wipeD ds own) with
      | some ds1 => (mi1 ds1 h).nox.bd fun it1 h1 => (lcR it1.chk p1 own1 c1 m ds1 it1.items acc h1).bd fun acc' h' => lcR2 chk p own mi1 p1 own1 c1 m ds r acc' h'
      | none => .bad) else .bad
def eLt (mi : SI) (p : Pt) (own : List Nat) (mi1 : SI) (p1 : Pt) (own1 : List Nat) (c1 : SB) (m : SE) : SE := fun ds h => (mi ds h).bd fun it h1 => (lcR2 it.chk p own mi1 p1 own1 c1 m ds it.items [] h1).bd fun xs h2 => .ok (.lst xs) h2
abbrev cT : SB := fun _ h => .ok true h
section
variable {X : Cx} {W : WX} {tg iter tg1 iter1 elt : Expr} {ifs ifs1 : List Expr} {mi mi1 : SI} {p p1 : Pt} {own own1 : List Nat} {c1 : SB} {m : SE} {scope : Scope} {pos : Pos}
theorem up_ext {ω ω' : Wo} {q : Addr} {o : HO} (hD : ω.H q = none) (e : Ext ω ω') : Ext ω (ω'.up q o) := by
  refine ⟨e.n, e.b, e.a, e.aN, e.nw, fun a ha => ?_, fun a u ha nt hb => ?_⟩
  · have ha' : upd ω'.H q o a = none := ha
    by_cases z : a = q
    · rw [z, upd_same] at ha'; cases ha'
    · rw [upd_ne z] at ha'; exact e.dom a ha'
  · have z := ne_of_none ha hD
    show upd ω'.H q o a = some u
    rw [upd_ne z]; exact e.keep a u ha nt hb
theorem ltW {fin : List D → Hc → R D} (ho : ∀ i ∈ p.slots, i ∈ own) (ho1 : ∀ i ∈ p1.slots, i ∈ own1)
    (hfin : ∀ (σ : L2.St) (ω : Wo) (h : Hc) (q : Addr) (xs : List D) (vs : List V) (Q : VK), Rel X.K ω h → ω.H q = some (.lst vs) → ω.A q → (∀ i, i < ω.n → ω.β i ≠ q) → RelL X.K ω xs vs →
      Post X.K X.mg W σ (ω.drop q) (RelD X.K) Q (fin xs h) → Q (.ref q) ω.H) :
    ∀ σ H Q, tE X W (fun ds h => (mi ds h).bd fun it h1 => (lcR2 it.chk p own mi1 p1 own1 c1 m ds it.items [] h1).bd fin) σ H Q →
      tLc2 (tI X W mi) (tP X.K p) (tT X W0 cT) (tIH X W0 mi1) (tP X.K p1) (tT X W0 c1) (tE X W0 m) own own1 σ H Q := fun σ H Q ⟨ω, h, ds, e1, r, s, q⟩ => by
  subst e1
  refine ⟨ω, h, ds, rfl, r, s, q.bd fun it h1 J ω1 ex1 r1 ok p1' => ?_⟩
  intro Da hD
  have s1 := monoS r ex1 s
  have e0 : Ext ω1 { ω1 with A := fun q => ω1.A q ∨ q = Da, H := upd ω1.H Da (.lst []) } := by
    refine ⟨Nat.le_refl _, fun _ _ => rfl, fun _ z => .inl z, fun q z => ?_, fun i a b => absurd b (Nat.not_lt.mpr a), (Ext.up (o := .lst []) hD).dom, (Ext.up (o := .lst []) hD).keep⟩
    rcases z with z | z
    · exact .inl z
    · exact .inr (by rw [z]; exact hD)
  have nD : ∀ j, j < ω1.n → ω1.β j ≠ Da := fun j hj z => by
    obtain ⟨u, e, _⟩ := r1.mut hj
    rw [z, hD] at e; cases e
  refine ⟨fun i k H' => ∃ ω2 h2 acc vs, ω2.H = H' ∧ Ext ω1 ω2 ∧ Rel X.K ω2 h2 ∧ Hid ω2 Da vs ∧ RelL X.K ω2 acc vs ∧ k = (it.items.drop i).length ∧
      Post X.K X.mg W σ (ω2.drop Da) (RelD X.K) Q ((lcR2 it.chk p own mi1 p1 own1 c1 m ds (it.items.drop i) acc h2).bd fin), ⟨_, { ω1 with A := fun q => ω1.A q ∨ q = Da, H := upd ω1.H Da (.lst []) }, h1, [], [], rfl, e0, ?_, ⟨.inr rfl, nD, upd_same⟩, RelL.nil, rfl, ?_⟩, ?_⟩
  · refine r1.ext1 e0 rfl (fun q z w => ?_) (fun i hi => upd_ne (nD i hi)) (tabs_keep r1.tabs fun b u e _ => by
      show upd ω1.H Da (.lst []) b = some u
      rw [upd_ne (ne_of_none e hD)]; exact e)
    have w' : upd ω1.H Da (.lst []) q = none := w
    by_cases e : q = Da
    · rw [e, upd_same] at w'; cases w'
    · rw [upd_ne e] at w'
      rcases z with z | z
      · exact r1.sub q z w'
      · exact e z
  · refine Post.mono (r := (lcR2 it.chk p own mi1 p1 own1 c1 m ds it.items [] h1).bd fin) p1' ⟨Nat.le_refl _, fun _ _ => rfl, fun a ha => ⟨.inl ha, fun z => r1.free hD (z ▸ ha)⟩, fun a ha => ?_, fun i a b => absurd b (Nat.not_lt.mpr a), fun a ha => ?_, fun a o ha _ _ => ?_⟩
    · rcases ha.1 with z | z
      · exact .inl z
      · exact absurd z ha.2
    · by_cases z : a = Da
      · rw [z]; exact hD
      · rw [Wo.drop_ne z] at ha
        have ha' : upd ω1.H Da (.lst []) a = none := ha
        rw [upd_ne z] at ha'; exact ha'
    · have z := ne_of_none ha hD
      rw [Wo.drop_ne z]
      show upd ω1.H Da (.lst []) a = some o
      rw [upd_ne z]; exact ha
  · rintro i k H' ⟨ω2, h2, acc, vs, rfl, e2, r2, hy2, rl, hk, p2⟩
    cases q1 : it.items.drop i with
    | nil =>
      rw [q1] at p2
      unfold lcR2 at p2
      by_cases hck : it.chk h2 = true
      · rw [if_pos hck] at p2
        refine .inl ⟨(ok i ω2 h2 e2 r2 hck).2 (List.getElem?_eq_none (List.drop_eq_nil_iff.mp q1)), ?_⟩
        exact hfin σ ω2 h2 Da acc vs Q r2 hy2.h hy2.a hy2.b rl p2
      · rw [if_neg hck] at p2; exact False.elim p2
    | cons d rest =>
      rw [q1] at p2
      unfold lcR2 at p2
      by_cases hck : it.chk h2 = true
      · rw [if_pos hck] at p2
        have hd : it.items[i]? = some d := by
          have := congrArg (fun l => l[0]?) q1
          simpa using this
        have hrest : it.items.drop (i + 1) = rest := by
          have := congrArg List.tail q1
          simpa using this
        obtain ⟨go, yl⟩ := (ok i ω2 h2 e2 r2 hck).1 d hd
        refine .inr ⟨go, fun H3 => ∃ ω3 h3 acc vs, ω3.H = H3 ∧ Ext ω1 ω3 ∧ Rel X.K ω3 h3 ∧ Hid ω3 Da vs ∧ RelL X.K ω3 acc vs ∧ Post X.K X.mg W σ (ω3.drop Da) (RelD X.K) Q ((lcR2 it.chk p own mi1 p1 own1 c1 m ds rest acc h3).bd fin),
          fun H3 ⟨ω3, h3, acc', vs', a1, a2, a3, a4, a7, a8⟩ => ⟨rest.length, by rw [hk, q1]; exact Nat.lt_succ_self _, ω3, h3, acc', vs', a1, a2, a3, a4, a7, by rw [hrest], by rw [hrest]; exact a8⟩, fun x H' hy => ?_⟩
        obtain ⟨ω3, rfl, e3, r3, d3⟩ := yl x H' hy
        cases q2 : bindP h2 p d (wipeD ds own) with
        | none => rw [q2] at p2; exact False.elim p2
        | some ds3 =>
          rw [q2] at p2
          refine ⟨ω3, h2, wipeD ds own, d, ds3, rfl, r3, monoS r2 e3 (monoS r1 e2 s1 |>.wipe own), d3, q2, fun σ4 s4 hw => ⟨(hw own ho).trans (wipe_wipe own), ω3, h2, ds3, rfl, r3, s4, ?_⟩⟩
          intro b ω4 e4 r4 hb
          have hb' : true = b := hb
          subst hb'
          rw [if_pos rfl]
          have p3 := Post.mono p2 ((e3.trans e4).drop Da)
          simp only at p3
          rw [bd_bd] at p3
          refine ⟨ω4, h2, ds3, rfl, r4, monoS r3 e4 s4, Post.into p3 fun it1 h5 J1 ω5 e5 r5 ok1 p5 => ?_⟩
          have e25 := (e3.trans e4).trans e5
          have hy5 := hy2.ext e25
          have s5 := monoS r3 (e4.trans e5) s4
          refine ⟨fun j k1 H' => ∃ ω6 h6 acc vs, ω6.H = H' ∧ Ext ω1 ω6 ∧ Ext (ω5.drop Da) (ω6.drop Da) ∧ Rel X.K ω6 h6 ∧ Hid ω6 Da vs ∧ RelL X.K ω6 acc vs ∧ k1 = (it1.items.drop j).length ∧
              Post X.K X.mg W σ (ω6.drop Da) (RelD X.K) Q (((lcR it1.chk p1 own1 c1 m ds3 (it1.items.drop j) acc h6).bd fun acc' h' => lcR2 it.chk p own mi1 p1 own1 c1 m ds rest acc' h').bd fin),
            ⟨_, ω5, h5, acc, vs, rfl, e2.trans e25, Ext.refl _, r5, hy5, monoL r2 e25 _ _ rl, rfl, p5⟩, ?_⟩
          rintro j k1 H' ⟨ω6, h6, acc6, vs6, rfl, e16, e56, r6, hy6, rl6, hk1, p6⟩
          cases q3 : it1.items.drop j with
          | nil =>
            rw [q3] at p6
            unfold lcR at p6
            by_cases hck1 : it1.chk h6 = true
            · rw [if_pos hck1] at p6
              exact .inl ⟨(ok1 Da vs hy5 j ω6 h6 e56 r6 hck1).2 (List.getElem?_eq_none (List.drop_eq_nil_iff.mp q3)), ω6, h6, acc6, vs6, rfl, e16, r6, hy6, rl6, p6⟩
            · rw [if_neg hck1] at p6; exact False.elim p6
          | cons d1 rest1 =>
            rw [q3] at p6
            unfold lcR at p6
            by_cases hck1 : it1.chk h6 = true
            · rw [if_pos hck1] at p6
              have hd1 : it1.items[j]? = some d1 := by
                have := congrArg (fun l => l[0]?) q3
                simpa using this
              have hrest1 : it1.items.drop (j + 1) = rest1 := by
                have := congrArg List.tail q3
                simpa using this
              obtain ⟨go1, yl1⟩ := (ok1 Da vs hy5 j ω6 h6 e56 r6 hck1).1 d1 hd1
              refine .inr ⟨go1, fun H3 => ∃ ω7 h7 acc vs, ω7.H = H3 ∧ Ext ω1 ω7 ∧ Ext (ω5.drop Da) (ω7.drop Da) ∧ Rel X.K ω7 h7 ∧ Hid ω7 Da vs ∧ RelL X.K ω7 acc vs ∧
                  Post X.K X.mg W σ (ω7.drop Da) (RelD X.K) Q (((lcR it1.chk p1 own1 c1 m ds3 rest1 acc h7).bd fun acc' h' => lcR2 it.chk p own mi1 p1 own1 c1 m ds rest acc' h').bd fin),
                fun H3 ⟨ω7, h7, acc', vs', a1, a2, a2', a3, a4, a7, a8⟩ => ⟨rest1.length, by rw [hk1, q3]; exact Nat.lt_succ_self _, ω7, h7, acc', vs', a1, a2, a2', a3, a4, a7, by rw [hrest1], by rw [hrest1]; exact a8⟩, fun x1 H1' hy1 => ?_⟩
              obtain ⟨rfl, d6⟩ := yl1 x1 H1' hy1
              cases q4 : bindP h6 p1 d1 (wipeD ds3 own1) with
              | none => rw [q4] at p6; exact False.elim p6
              | some ds4 =>
                rw [q4] at p6
                refine ⟨ω6, h6, wipeD ds3 own1, d1, ds4, rfl, r6, (monoHS r5 hy5 e56 s5).wipe own1, d6, q4, fun σ5 s6 hw1 => ⟨(hw1 own1 ho1).trans (wipe_wipe own1), ω6, h6, ds4, rfl, r6, s6, ?_⟩⟩
                simp only at p6
                rw [bd_bd, bd_bd] at p6
                refine Post.into p6 fun b h7 b' ω7 e7 r7 hb p7 => ?_
                have hb' : b = b' := hb
                subst hb'
                have hy7 := hy6.ext e7
                cases b with
                | false => exact ⟨ω7, h7, acc6, vs6, rfl, e16.trans e7, e56.trans (e7.drop Da), r7, hy7, monoL r6 e7 _ _ rl6, by rw [bd_bd]; exact p7⟩
                | true =>
                  rw [if_pos rfl] at p7 ⊢
                  rw [bd_bd] at p7
                  refine ⟨ω7, h7, ds4, rfl, r7, monoS r6 e7 s6, Post.into p7 fun y h8 v ω8 e8 r8 hy' p8 => ?_⟩
                  have e68 := e7.trans e8
                  have hy8 := hy6.ext e68
                  have rl8 := monoL r6 e68 _ _ rl6
                  by_cases hl : acc6.length < lim
                  · rw [if_pos hl] at p8
                    obtain ⟨k1', k2, k3⟩ := hid (ws := vs6 ++ [v]) r8 hy8.a hy8.b hy8.h
                    refine ⟨vs6, hy8.h, by rw [← rl8.len]; exact lim_lt hl, ω8.up Da (.lst (vs6 ++ [v])), h8, acc6 ++ [y], vs6 ++ [v], rfl, up_ext hD (e16.trans e68), by rw [Wo.drop_up]; exact e56.trans (e68.drop Da), k1', ⟨hy8.a, hy8.b, upd_same⟩, k3 _ _ (rl8.append (RelL.cons hy' RelL.nil)), by rw [Wo.drop_up]; rw [bd_bd]; exact p8⟩
                  · rw [if_neg hl] at p8; exact False.elim p8
            · rw [if_neg hck1] at p6; exact False.elim p6
      · rw [if_neg hck] at p2; exact False.elim p2
theorem ds_setLt {i : Nat} {st : Stmt} (ho : ∀ i ∈ p.slots, i ∈ own) (ho1 : ∀ i ∈ p1.slots, i ∈ own1) (h : PS X st (tAsg (tLc2 (tI X W mi) (tP X.K p) (tT X W0 cT) (tIH X W0 mi1) (tP X.K p1) (tT X W0 c1) (tE X W0 m) own own1) (gName i))) :
    DS X W st (sSet i (eLt mi p own mi1 p1 own1 c1 m)) := ds_of h fun E σ H ⟨ω, h, ds, e1, r, s, q⟩ => by
  subst e1
  refine ltW (W := W) (fin := fun xs h => .ok (.lst xs) h) ho ho1 lc_fz σ ω.H _ ⟨ω, h, ds, rfl, r, s, ?_⟩
  exact PostO.bd r s q fun d h1 v ω' e r1 rd s1 p1 => p1 _ ω' (Ext.refl _) r1 (s1.set i rd)
end
end Mp
/-! LayOb: objects of own classes: making, fields, methods. -/
namespace Mp
open PySem PySem.Spec PyProof.Rows L2
/-- ~x -/
def invF : D → Hc → R D
  | .int i, h => .ok (.int (Builtin.bitNot i)) h
  | _, _ => .bad
/-- a class of the text -/
structure ObC (K : PySem.W.Frag) (mg : Str → Option Value) (cls : Str) (Ca : Addr) : Prop where
  at_ : clsAt K cls = some Ca
  cl : Cls K Ca
  mg_ : mg cls = some (.ref Ca)
/-- one of its fields -/
def FldK (K : PySem.W.Frag) (mg : Str → Option Value) (cls f : Str) : Prop := ∃ Ca, ObC K mg cls Ca ∧ NoAttr K Ca f
/-- one of its methods -/
def MetAt (K : PySem.W.Frag) (mg : Str → Option Value) (cls m qual : Str) (st : Stmt) (ps : List Str) : Prop := ∃ (Ca f : Addr) (fd : FuncData), ObC K mg cls Ca ∧ Meth K Ca m f ∧ Fun K m qual st f fd ∧ Binds K fd ps []
/-- its __init__ -/
def IniAt (K : PySem.W.Frag) (mg : Str → Option Value) (cls qual : Str) (st : Stmt) (ps : List Str) : Prop := ∃ (Ca f : Addr) (fd : FuncData), ObC K mg cls Ca ∧ Mk K Ca f ∧ Fun K "__init__" qual st f fd ∧ Binds K fd ps []
def GoodM (P : Program) (w : World) (K : PySem.W.Frag) (mg : Str → Option Value) (base : Heap) (cls m : Str) (k : Nat) (ps : List Str) (fn : Fn) : Prop :=
  ∃ (Ca f : Addr) (fd : FuncData), ObC K mg cls Ca ∧ Meth K Ca m f ∧ Binds K fd ps [] ∧ FnOk P w K mg base (L2.CX P w) k f fd ps (spD K mg ps.length fn)
def GoodI (P : Program) (w : World) (K : PySem.W.Frag) (mg : Str → Option Value) (base : Heap) (cls : Str) (k : Nat) (ps : List Str) (fn : Fn) : Prop :=
  ∃ (Ca f : Addr) (fd : FuncData), ObC K mg cls Ca ∧ Mk K Ca f ∧ Binds K fd ps [] ∧ FnOk P w K mg base (L2.CX P w) k f fd ps (spD K mg ps.length fn)
section
variable {P : Program} {w : World} {K : PySem.W.Frag} {mg : Str → Option Value} {base : Heap} {cls x qual : Str} {st : Stmt} {ps N : List Str} {k j : Nat} {m : SS}
end
/-! ### the fields over data -/
def lkS : List Str → List D → Str → Option D
  | k :: ks, d :: ds, j => if k = j then some d else lkS ks ds j
  | _, _, _ => none
def insS : List Str → List D → Str → D → List Str × List D
  | k :: ks, d :: ds, j, x => if k = j then (k :: ks, x :: ds) else (k :: (insS ks ds j x).1, d :: (insS ks ds j x).2)
  | _, _, j, x => ([j], [x])
section
variable {K : PySem.W.Frag} {ω ω' : Wo} {h h' : Hc} {d : D} {v : V}
/-- the instance that a value is -/
def objD (h : Hc) (cls : Str) : D → Option (List Str × List D)
  | .ref i => match h[i]? with
    | some (.obj c fs ds) => if c = cls then some (fs, ds) else none
    | _ => none
  | _ => none
def fldF (cls f : Str) (x : D) (h : Hc) : R D := match objD h cls x with
  | some (fs, ds) => match lkS fs ds f with
    | some d => .ok d h
    | none => .bad
  | none => .bad
def putS (cls f : Str) (o x : D) (h : Hc) : Option Hc := match o with
  | .ref j => match objD h cls (.ref j) with
    | some (fs, ds) => if fs.length < 1000 then some (h.set j (.obj cls (insS fs ds f x).1 (insS fs ds f x).2)) else none
    | none => none
  | _ => none
end
def sFldS (cls f : Str) (me mo : SE) : SS := fun ds h => sBd (me ds h) ds fun x h1 => sBd (mo ds h1) ds fun o h2 => match putS cls f o x h2 with
  | some h3 => .nx ds h3
  | none => .bad
section
variable {X : Cx} {W : WX} {e o : Expr} {m me mo : SE} {f cls : Str} {pos pos' : Pos}
end
/-! ### methods -/
section
variable {X : Cx} {CX : CXT} {k : Nat} {f Ca : Addr} {fd : FuncData} {ps : List Str} {sp : Sp} {E : L2.St → XK} {x m : Str} {p pos apos : Pos} {e o : Expr} {es : List Expr} {ta : TE} {t : TA}
def tMethS (Ca : Addr) (m : Str) (sp : Sp) (E : L2.St → XK) (ta : TE) (t : TA) : TE := fun σ H Q => ta σ H fun x H1 => ∃ a dx fs, x = .ref a ∧ H1 a = some (.ins Ca dx fs) ∧ fs.lookup m = none ∧
  t σ H1 fun vs H2 => sp (x :: vs) H2 Q (E σ)
def tMakeS (Ca : Addr) (sp : Sp) (E : L2.St → XK) (t : TA) : TE := fun σ H Q => t σ H fun vs H1 => ∀ x dx, H1 x = none → H1 dx = none → dx ≠ x →
  sp (.ref x :: vs) (upd (upd H1 dx (.own x)) x (.ins Ca dx [])) (fun v H2 => v = .non ∧ Q (.ref x) H2) (E σ)
end
/-- o.m(..) -/
def eMeth (cls m : Str) (fn : Fn) (mo : SE) (as : SA) : SE := fun ds h => (mo ds h).bd fun x h1 => match objD h1 cls x with
  | some (fs, xs) => if (lkS fs xs m).isNone = true then (as ds h1).bd fun ys h2 => fn (x :: ys) h2 else .bad
  | none => .bad
/-- C(..) -/
def eMake (cls : Str) (fn : Fn) (as : SA) : SE := fun ds h => (as ds h).bd fun xs h1 => (fn (.ref h1.length :: xs) (h1 ++ [.obj cls [] []])).bd fun v h2 => if isN v = true then .ok (.ref h1.length) h2 else .bad
section
variable {X : Cx} {W : WX} {e o : Expr} {es : List Expr} {m me mo : SE} {as : SA} {mn cls x : Str} {p pos apos : Pos} {fn : Fn} {k : Nat} {ps : List Str}
end
end Mp
/-! LayMn: min(x, y) of any two alike data. -/
namespace Mp
open PySem PySem.Spec PyProof.Rows L2
section
variable {prog : Program} {w : World} {A : Around} {E : Value → Shared → Prop} {s : Shared}
end
def rMin2Z (K : PySem.W.Frag) : List V → Hp → VK → Prop := fun xs H Q => ∃ x y da db, xs = [x, y] ∧ Dp K H x da ∧ Dp K H y db ∧ PySem.W.AlikeAll [da, db] ∧ PyData.depthAll [da, db] ≤ 50 ∧ Q (if PySem.W.dataLt db da = true then y else x) H
def alike2 (a b : PyData) : Bool := (PySem.W.alike a a && PySem.W.alike a b) && (PySem.W.alike b a && PySem.W.alike b b) && (notNone a && notNone b)
def min2F (xs : List D) (h : Hc) : R D := match xs with
  | [x, y] => match toPyR h x, toPyR h y with
    | some a, some b => if (alike2 a b && decide (PyData.depthAll [a, b] ≤ 50)) = true then .ok (if PySem.W.dataLt b a = true then y else x) h else .bad
    | _, _ => .bad
  | _ => .bad
end Mp
/-! LayRg: range objects as values; d.get(k). -/
namespace Mp
open PySem PySem.Spec PyProof.Rows L2
def rRngA : List V → Hp → VK → Prop := fun vs H Q => (∃ j, vs = [V.int j] ∧ ∀ p, H p = none → Q (.ref p) (upd H p (.rng 0 j))) ∨ ∃ i j, vs = [V.int i, V.int j] ∧ ∀ p, H p = none → Q (.ref p) (upd H p (.rng i j))
def rangeC (xs : List D) (h : Hc) : R D := match xs with
  | [.int j] => .ok (.ref h.length) (h ++ [.rng 0 j])
  | [.int i, .int j] => .ok (.ref h.length) (h ++ [.rng i j])
  | _ => .bad
section
variable {K : PySem.W.Frag} {ω : Wo} {h : Hc} {d : D} {v : V}
def rngD (h : Hc) : D → Option (Int × Int)
  | .ref i => match h[i]? with
    | some (.rng lo hi) => some (lo, hi)
    | _ => none
  | _ => none
end
/-! ### walked -/
def rgOk2 (lo hi : Int) : Prop := -(2 ^ 62) ≤ lo ∧ lo < 2 ^ 62 ∧ -(2 ^ 62) ≤ hi ∧ hi < 2 ^ 62
instance (lo hi : Int) : Decidable (rgOk2 lo hi) := by unfold rgOk2; infer_instance
def iRngV (te : TE) : TI := fun σ H R => te σ H fun x H1 => ∃ a lo hi, x = .ref a ∧ H1 a = some (.rng lo hi) ∧ rgOk2 lo hi ∧ R (Itr lo (hi - lo).toNat) H1
def iRgV (m : SE) : SI := fun ds h => (m ds h).bd fun d h1 => match rngD h1 d with
  | some (lo, hi) => if rgOk2 lo hi then .ok ⟨upFrom lo (hi - lo).toNat, fun _ => true⟩ h1 else .bad
  | none => .bad
section
variable {X : Cx} {W : WX} {tg e o i : Expr} {m mo mk : SE} {apos cpos : Pos}
end
/-! ### list(range) -/
def rListRg : List V → Hp → VK → Prop := fun vs H Q => ∃ a lo hi, vs = [V.ref a] ∧ H a = some (.rng lo hi) ∧ rgOk2 lo hi ∧ (hi - lo).toNat ≤ 1000000 ∧ ∀ l, H l = none → Q (.ref l) (upd H l (.lst ((List.range (hi - lo).toNat).map fun (i : Nat) => V.int (lo + (i : Int)))))
def listRF (xs : List D) (h : Hc) : R D := match xs with
  | [d] => match rngD h d with
    | some (lo, hi) => if rgOk2 lo hi ∧ (hi - lo).toNat ≤ 1000000 then .ok (.lst (upFrom lo (hi - lo).toNat)) h else .bad
    | none => .bad
  | _ => .bad
/-! ### d.get(k) -/
def getF (x y : D) (h : Hc) : R D := match dctD h x, keyD y with
  | some (ks, ds), some k => .ok ((lkD ks ds k).getD .non) h
  | _, _ => .bad
def getT (x y : D) (h : Hc) : R D := match dttD h x, keyT y with
  | some (ks, ds), some k => .ok ((lkT ks ds k).getD .non) h
  | _, _ => .bad
def eGetK (mo mk : SE) : SE := fun ds h => (mo ds h).bd fun x h1 => if (dctD h1 x).isSome = true then (mk ds h1).bd fun y h2 => getF x y h2 else .bad
def eGetT (mo mk : SE) : SE := fun ds h => (mo ds h).bd fun x h1 => if (dttD h1 x).isSome = true then (mk ds h1).bd fun y h2 => getT x y h2 else .bad
section
variable {X : Cx} {W : WX} {e o i : Expr} {m mo mk : SE} {apos cpos : Pos}
theorem de_getT (hu : X.A.units + 1 < cLine) (ho : DE X W o mo) (hk : DE X W i mk) (m : M1 X o "get" apos i cpos) : DE X W (.Call (.Attribute o "get" apos) [i] [] cpos) (eGetT mo mk) := de_of (pe_dget1 hu ho hk m) fun σ H Q ⟨ω, h, ds, e1, r, s, p⟩ => by
  subst e1
  refine ⟨ω, h, ds, rfl, r, s, Post.bd (show Post X.K X.mg W σ ω _ Q ((mo ds h).bd _) from p) fun x h1 v ω1 e1 r1 d1 p1 => ?_⟩
  obtain ⟨hs, p1⟩ := p1.if_
  obtain ⟨⟨ks, xs⟩, q1⟩ := Option.isSome_iff_exists.mp hs
  obtain ⟨a, vs, rfl, f2, f3, f4⟩ := dttD_rel r1 q1 d1
  refine ⟨a, rfl, .inr ⟨_, .inl f2⟩, ω1, h1, ds, rfl, r1, monoS r e1 s, p1.bd fun y h2 u ω2 e2 r2 d2 p2 => ?_⟩
  unfold getT at p2
  split at p2
  · rename_i ks xs k q3 q4
    obtain ⟨b, vs, e5, f2, f3, f4⟩ := dttD_rel r2 q3 (mono r1 e2 _ _ d1)
    cases e5
    have z := lkT_rel (j := k) f4 f3
    obtain ⟨b, rfl, hb⟩ := keyT_rel q4 d2
    refine ⟨_, DGet.t (k := k) f2 hb, ?_⟩
    cases q5 : lkT ks xs k with
    | none => rw [q5] at z p2; rw [z]; exact p2.here r2 non_rd
    | some d => rw [q5] at z p2; obtain ⟨w, z1, z2⟩ := z; rw [z1]; exact p2.here r2 z2
  · exact False.elim p2
end
end Mp
/-! LayLk: dicts that are walked (locked while a statement runs). -/
namespace Mp
open PySem PySem.Spec PyProof.Rows L2
def lockC : C → Option C
  | .dct ks ds => some (.lkd ks ds)
  | .dtt ks ds => some (.lkt ks ds)
  | _ => none
def unlkC : C → Option C
  | .lkd ks ds => some (.dct ks ds)
  | .lkt ks ds => some (.dtt ks ds)
  | _ => none
def unlk (i : Nat) (h : Hc) : Option Hc := match h[i]? with
  | some c => (unlkC c).map (h.set i ·)
  | none => none
def lkAt (m : SE) (ds : Sl) (h : Hc) : Option (Nat × C) := match m ds h with
  | .ok (.ref i) _ => match h[i]? with
    | some c => (lockC c).map (i, ·)
    | none => none
  | _ => none
def unlkO (i : Nat) : O → O
  | .nx ds h => match unlk i h with
    | some h2 => .nx ds h2
    | none => .bad
  | .rt d h => match unlk i h with
    | some h2 => .rt d h2
    | none => .bad
  | .bk ds h => match unlk i h with
    | some h2 => .bk ds h2
    | none => .bad
  | .ct ds h => match unlk i h with
    | some h2 => .ct ds h2
    | none => .bad
  | _ => .bad
/-- the statement b runs while the dict that m names is locked -/
def sLock (m : SE) (b : SS) : SS := fun ds h => match lkAt m ds h with
  | some (i, c) => unlkO i (b ds (h.set i c))
  | none => .bad
section
variable {K : PySem.W.Frag} {ω ω' : Wo} {h h' : Hc} {d : D} {v : V}
theorem lock_ok {i : Nat} {c c' : C} (r : Rel K ω h) (hi : h[i]? = some c) (hc : lockC c = some c') :
    ∃ u, ω.H (ω.β i) = some u ∧ Mut (some u) ∧ ¬ isFz u ∧ i < ω.n ∧ ((∃ kvs, u = .dK kvs) ∨ ∃ kvs, u = .dT kvs) ∧ ∀ od, Ext ω (ω.up (ω.β i) (.frz od u)) ∧ Rel K (ω.up (ω.β i) (.frz od u)) (h.set i c') := by
  have hl : i < ω.n := by rw [r.n]; exact (List.getElem?_eq_some_iff.mp hi).1
  have x := r.cel i c hi
  cases c with
  | dct ks xs =>
    cases hc
    obtain ⟨vs, e1, e3, e2⟩ := x
    refine ⟨_, e1, trivial, id, hl, .inl ⟨_, rfl⟩, fun od => ?_⟩
    have e := Ext.put (o := .frz od (.dK (ks.zip vs))) hl e1
    exact ⟨e, r.put hl e1 ⟨vs, ⟨od, upd_same⟩, e3, monoL r e _ _ e2⟩⟩
  | dtt ks xs =>
    cases hc
    obtain ⟨vs, e1, e3, e2⟩ := x
    refine ⟨_, e1, trivial, id, hl, .inr ⟨_, rfl⟩, fun od => ?_⟩
    have e := Ext.put (o := .frz od (.dT (ks.zip vs))) hl e1
    exact ⟨e, r.put hl e1 ⟨vs, ⟨od, upd_same⟩, e3, monoL r e _ _ e2⟩⟩
  | _ => cases hc
/-- a locked dict, unlocked: no data but its cell change -/
theorem unlk_data {p : Addr} {od : Obj} {u : HO} (hp : ω.H p = some (.frz od u)) (hu : (∃ kvs, u = .dK kvs) ∨ ∃ kvs, u = .dT kvs) :
    (∀ d v, RelD K ω d v → RelD K (ω.up p u) d v) ∧ ∀ ds vs, RelL K ω ds vs → RelL K (ω.up p u) ds vs := by
  have stR : ∀ q o, ω.H q = some o → (∀ a, o ≠ .frz a u) → (ω.up p u).H q = some o := fun q o x n => by
    show upd ω.H p u q = some o
    rw [upd_ne (fun e => by rw [e, hp] at x; cases x; exact n _ rfl)]; exact x
  have nt : ∀ l, u ≠ .tup l := fun l z => by rcases hu with ⟨k, e⟩ | ⟨k, e⟩ <;> rw [e] at z <;> cases z
  have nl : ∀ l, u ≠ .lst l := fun l z => by rcases hu with ⟨k, e⟩ | ⟨k, e⟩ <;> rw [e] at z <;> cases z
  have stT : ∀ q vs', SqQ K ω.H q vs' → SqQ K (ω.up p u).H q vs' := fun q vs' ⟨x, z⟩ => by
    refine ⟨?_, fun k => stR q _ (z k) (by intro a w; cases w)⟩
    rcases x with (x | ⟨o, x⟩) | x
    · exact .inl (.inl (stR q _ x (by intro a w; cases w)))
    · exact .inl (.inr ⟨o, stR q _ x (by intro a w; cases w; exact nt _ rfl)⟩)
    · exact .inr x
  have stK : ∀ q vs', LkL K ω q vs' → LkL K (ω.up p u) q vs' := fun q vs' x => by
    rcases x with ⟨o, x⟩ | x
    · exact .inl ⟨o, stR q _ x (by intro a w; cases w; exact nl _ rfl)⟩
    · exact .inr x
  have aux := @D.rec (motive_1 := fun d => ∀ v, RelD K ω d v → RelD K (ω.up p u) d v) (motive_2 := fun ds => ∀ vs, RelL K ω ds vs → RelL K (ω.up p u) ds vs)
      (fun v x => by unfold RelD at x ⊢; exact x) (fun b v x => by unfold RelD at x ⊢; exact x) (fun i v x => by unfold RelD at x ⊢; exact x) (fun s v x => by unfold RelD at x ⊢; exact x)
      (fun ds ih v x => by unfold RelD at x ⊢; obtain ⟨p, vs', e1, e2, e3⟩ := x; exact ⟨p, vs', e1, stT p vs' e2, ih _ e3⟩)
      (fun ds ih v x => by unfold RelD at x ⊢; obtain ⟨p, vs', e1, ⟨e2, n⟩, e3⟩ := x; exact ⟨p, vs', e1, ⟨stR _ _ e2 (by intro a w; cases w), n⟩, ih _ e3⟩)
      (fun ds ih v x => by unfold RelD at x ⊢; obtain ⟨p, vs', e1, e2, e3⟩ := x; exact ⟨p, vs', e1, stK _ _ e2, ih _ e3⟩)
      (fun ks ds ih v x => by unfold RelD at x ⊢; obtain ⟨p, vs', e1, ⟨e2, n⟩, e3, e4⟩ := x; exact ⟨p, vs', e1, ⟨stR _ _ e2 (by intro a w; cases w), n⟩, e3, ih _ e4⟩)
      (fun i v x => by unfold RelD at x ⊢; exact x) (fun t v x => by unfold RelD at x ⊢; exact x)
      (fun vs x => by unfold RelL at x ⊢; exact x)
      (fun d ds ih1 ih2 vs x => by unfold RelL at x ⊢; obtain ⟨v, ws', e1, e2, e3⟩ := x; exact ⟨v, ws', e1, ih1 _ e2, ih2 _ e3⟩)
  refine ⟨aux, fun ds => ?_⟩
  induction ds with
  | nil => intro vs x; unfold RelL at x ⊢; exact x
  | cons d ds ih => intro vs x; obtain ⟨v, ws', rfl, e2, e3⟩ := x.inv; exact RelL.cons (aux d v e2) (ih _ e3)
theorem unlk_ok {i : Nat} {h2 : Hc} {od : Obj} {u : HO} (r : Rel K ω h) (hl : i < ω.n) (hp : ω.H (ω.β i) = some (.frz od u)) (hu : (∃ kvs, u = .dK kvs) ∨ ∃ kvs, u = .dT kvs) (q : unlk i h = some h2) : Rel K (ω.up (ω.β i) u) h2 := by
  have key := unlk_data (K := K) hp hu
  unfold unlk at q
  cases q1 : h[i]? with
  | none => rw [q1] at q; cases q
  | some c =>
    rw [q1] at q
    obtain ⟨c', q2, rfl⟩ := Option.map_eq_some_iff.mp q
    refine ⟨by rw [List.length_set]; exact r.n, r.inj, r.inA, fun p hA z => ?_, fun j c2 hj => ?_, tabs_keep r.tabs fun b w e1 nm => by
      show upd ω.H (ω.β i) u b = some w
      rw [upd_ne (fun z => nm (by
        rw [z, hp] at e1; cases e1
        rcases hu with ⟨k, e⟩ | ⟨k, e⟩ <;> rw [e] <;> trivial))]; exact e1⟩
    · have z' : upd ω.H (ω.β i) u p = none := z
      by_cases e : p = ω.β i
      · rw [e, upd_same] at z'; cases z'
      · rw [upd_ne e] at z'; exact r.sub p hA z'
    · show RelC K (ω.up (ω.β i) u) (ω.β j) c2
      by_cases ej : j = i
      · subst ej
        rw [List.getElem?_set_self (by rw [← r.n]; exact hl)] at hj
        have e3 : c' = c2 := by simpa using hj
        subst e3
        have x := r.cel j c q1
        cases c with
        | lkd ks xs =>
          cases q2
          obtain ⟨vs, ⟨o, e1⟩, e3, e2⟩ := x
          have : HO.frz od u = .frz o (.dK (ks.zip vs)) := Option.some.inj (hp.symm.trans e1)
          cases this
          exact ⟨vs, upd_same, e3, key.2 _ _ e2⟩
        | lkt ks xs =>
          cases q2
          obtain ⟨vs, ⟨o, e1⟩, e3, e2⟩ := x
          have : HO.frz od u = .frz o (.dT (ks.zip vs)) := Option.some.inj (hp.symm.trans e1)
          cases this
          exact ⟨vs, upd_same, e3, key.2 _ _ e2⟩
        | _ => cases q2
      · rw [List.getElem?_set_ne (Ne.symm ej)] at hj
        have hlj : j < ω.n := by rw [r.n]; exact (List.getElem?_eq_some_iff.mp hj).1
        have ne : ω.β j ≠ ω.β i := fun z => ej (r.inj j i hlj hl z)
        have x := r.cel j c2 hj
        cases c2 with
        | lst xs => obtain ⟨vs', e1, e2⟩ := x; exact ⟨vs', (upd_ne ne).trans e1, key.2 _ _ e2⟩
        | dct ks xs => obtain ⟨vs', e1, e3, e2⟩ := x; exact ⟨vs', (upd_ne ne).trans e1, e3, key.2 _ _ e2⟩
        | dtt ks xs => obtain ⟨vs', e1, e3, e2⟩ := x; exact ⟨vs', (upd_ne ne).trans e1, e3, key.2 _ _ e2⟩
        | obj cls fs xs => obtain ⟨vs', ⟨cx, dx, e0, e1⟩, e3, e2⟩ := x; exact ⟨vs', ⟨cx, dx, e0, (upd_ne ne).trans e1⟩, e3, key.2 _ _ e2⟩
        | rng lo hi => exact (upd_ne ne).trans x
        | lkd ks xs => obtain ⟨vs', ⟨o, e1⟩, e3, e2⟩ := x; exact ⟨vs', ⟨o, (upd_ne ne).trans e1⟩, e3, key.2 _ _ e2⟩
        | lkt ks xs => obtain ⟨vs', ⟨o, e1⟩, e3, e2⟩ := x; exact ⟨vs', ⟨o, (upd_ne ne).trans e1⟩, e3, key.2 _ _ e2⟩
theorem unlk_ext {p : Addr} {od : Obj} {u : HO} {i : Nat} (hl : i < ω.n) (hp : ω.β i = p) (h0 : ω.H p = some u) (e : Ext (ω.up p (.frz od u)) ω') : Ext ω (ω'.up p u) where
  n := e.n
  b := e.b
  a := e.a
  aN := fun q z => by
    rcases e.aN q z with y | y
    · exact .inl y
    · have y' : upd ω.H p (.frz od u) q = none := y
      by_cases w : q = p
      · rw [w, upd_same] at y'; cases y'
      · rw [upd_ne w] at y'; exact .inr y'
  nw := fun j h1 h2 => by
    have y : upd ω.H p (.frz od u) (ω'.β j) = none := e.nw j h1 h2
    by_cases w : ω'.β j = p
    · rw [w, upd_same] at y; cases y
    · rw [upd_ne w] at y; exact y
  dom := fun q z => by
    have z' : upd ω'.H p u q = none := z
    by_cases w : q = p
    · rw [w, upd_same] at z'; cases z'
    · rw [upd_ne w] at z'
      have y : upd ω.H p (.frz od u) q = none := e.dom q z'
      rw [upd_ne w] at y; exact y
  keep := fun q o hq nt hb => by
    show upd ω'.H p u q = some o
    by_cases w : q = p
    · rw [w, upd_same, ← h0, ← w]; exact hq
    · rw [upd_ne w]
      exact e.keep q o (by show upd ω.H p (.frz od u) q = some o; rw [upd_ne w]; exact hq) nt hb
end
theorem ds_lock {X : Cx} {W : WX} {st : Stmt} {m : SE} {b : SS} (hd : DS X W st b) : DS X W st (sLock m b) := ds_of (ps_lock hd) fun E σ H ⟨ω, h, ds, e1, r, s, p⟩ => by
  subst e1
  unfold sLock at p
  cases q : lkAt m ds h with
  | none => rw [q] at p; exact False.elim p
  | some ic =>
    obtain ⟨i, c'⟩ := ic
    rw [q] at p
    have p : PostO X.K X.mg W ω E (unlkO i (b ds (h.set i c'))) := p
    unfold lkAt at q
    split at q <;> try (cases q; done)
    split at q <;> try (cases q; done)
    rename_i c hc
    obtain ⟨c2, q2, q3⟩ := Option.map_eq_some_iff.mp q
    cases q3
    obtain ⟨u, hu, mu, nf, hl, kind, lk⟩ := lock_ok r hc q2
    refine ⟨ω.β i, u, hu, mu, fun od => ?_⟩
    obtain ⟨e1, r1⟩ := lk od
    refine ⟨ω.up (ω.β i) (.frz od u), _, ds, rfl, r1, monoS r e1 s, ?_⟩
    -- behind the statement
    have back : ∀ {ω2 : Wo} {h' h2 : Hc}, Ext (ω.up (ω.β i) (.frz od u)) ω2 → Rel X.K ω2 h' → unlk i h' = some h2 →
        ω2.H (ω.β i) = some (.frz od u) ∧ Ext ω (ω2.up (ω.β i) u) ∧ Rel X.K (ω2.up (ω.β i) u) h2 ∧ (∀ d v, RelD X.K ω2 d v → RelD X.K (ω2.up (ω.β i) u) d v) := fun {ω2 h' h2} e2 r2 qu => by
      have a1 : ω2.H (ω.β i) = some (.frz od u) := e2.keep _ _ upd_same (by intro _ z; cases z) (.inr trivial)
      have bi : ω2.β i = ω.β i := e2.b i hl
      have r3 := unlk_ok r2 (Nat.lt_of_lt_of_le hl e2.n) (by rw [bi]; exact a1) kind qu
      rw [bi] at r3
      exact ⟨a1, unlk_ext hl rfl hu e2, r3, (unlk_data a1 kind).1⟩
    cases q4 : b ds (h.set i c') with
    | nx ds' h' =>
      rw [q4] at p
      cases q5 : unlk i h' with
      | none => simp only [unlkO, q5] at p; exact False.elim p
      | some h2 =>
        simp only [unlkO, q5] at p
        intro σ' ω2 e2 r2 s2
        obtain ⟨a1, a2, a3, a4⟩ := back e2 r2 q5
        exact ⟨a1, p σ' _ a2 a3 ⟨s2.1, fun j d hj => by obtain ⟨v, b1, b2⟩ := s2.2 j d hj; exact ⟨v, b1, a4 _ _ b2⟩⟩⟩
    | rt d h' =>
      rw [q4] at p
      cases q5 : unlk i h' with
      | none => simp only [unlkO, q5] at p; exact False.elim p
      | some h2 =>
        simp only [unlkO, q5] at p
        intro v ω2 e2 r2 s2
        obtain ⟨a1, a2, a3, a4⟩ := back e2 r2 q5
        exact ⟨a1, p v _ a2 a3 (a4 _ _ s2)⟩
    | bk ds' h' =>
      rw [q4] at p
      cases q5 : unlk i h' with
      | none => simp only [unlkO, q5] at p; exact False.elim p
      | some h2 =>
        simp only [unlkO, q5] at p
        intro σ' ω2 e2 r2 s2
        obtain ⟨a1, a2, a3, a4⟩ := back e2 r2 q5
        exact ⟨a1, p σ' _ a2 a3 ⟨s2.1, fun j d hj => by obtain ⟨v, b1, b2⟩ := s2.2 j d hj; exact ⟨v, b1, a4 _ _ b2⟩⟩⟩
    | ct ds' h' =>
      rw [q4] at p
      cases q5 : unlk i h' with
      | none => simp only [unlkO, q5] at p; exact False.elim p
      | some h2 =>
        simp only [unlkO, q5] at p
        intro σ' ω2 e2 r2 s2
        obtain ⟨a1, a2, a3, a4⟩ := back e2 r2 q5
        exact ⟨a1, p σ' _ a2 a3 ⟨s2.1, fun j d hj => by obtain ⟨v, b1, b2⟩ := s2.2 j d hj; exact ⟨v, b1, a4 _ _ b2⟩⟩⟩
    | ex x fs vs ds' h' => rw [q4] at p; exact False.elim p
    | bad => rw [q4] at p; exact False.elim p
/-! ### the keys of a locked dict -/
def kyD : Key → D
  | .inl i => .int i
  | .inr x => .str x
def ktD (k : Kt) : D := .tup (k.map kyD)
theorem kyD_rel {K : PySem.W.Frag} {ω : Wo} (k : Key) : RelD K ω (kyD k) (kV k) := by cases k <;> (unfold RelD kyD; rfl)
theorem kyL_rel {K : PySem.W.Frag} {ω : Wo} : ∀ k : Kt, RelL K ω (k.map kyD) (k.map kV)
  | [] => RelL.nil
  | a :: r => RelL.cons (kyD_rel a) (kyL_rel r)
def iKey (m : SE) : SI := fun ds h => (m ds h).bd fun d h1 => match d with
  | .ref i => match h1[i]? with
    | some (.lkd ks _) => .ok ⟨ks.map kyD, fun _ => true⟩ h1
    | some (.lkt ks _) => .ok ⟨ks.map ktD, fun _ => true⟩ h1
    | _ => .bad
  | _ => .bad
section
variable {K : PySem.W.Frag} {ω : Wo} {h : Hc}
theorem itOk_key {ks : List Key} {vs : List V} {a : Addr} {o : Obj} (e0 : ω.H a = some (.frz o (.dK (ks.zip vs)))) (hl : ks.length = vs.length) : ItOk K ω ⟨ks.map kyD, fun _ => true⟩ (Itk a o (ks.zip vs)) := fun i ω' h' e r' hk => by
  have e1 : ω'.H a = some (.frz o (.dK (ks.zip vs))) := e.keep _ _ e0 (by intro _ z; cases z) (.inr trivial)
  have zl : (ks.zip vs).length = ks.length := by rw [List.length_zip, ← hl, Nat.min_self]
  refine ⟨fun d hd => ?_, fun hn => ?_⟩
  · rw [List.getElem?_map] at hd
    obtain ⟨k, hk, rfl⟩ := Option.map_eq_some_iff.mp hd
    have hi : i < ks.length := (List.getElem?_eq_some_iff.mp hk).1
    refine ⟨⟨e1, by rw [zl]; exact hi⟩, fun x H' ⟨eH, k', v, hkv, ex⟩ => ⟨ω', eH.symm, Ext.refl _, r', ?_⟩⟩
    have := (List.getElem?_zip_eq_some.mp hkv).1
    rw [hk] at this
    cases this
    rw [ex]; exact kyD_rel _
  · rw [List.getElem?_map, Option.map_eq_none_iff, List.getElem?_eq_none_iff] at hn
    exact ⟨e1, by rw [zl]; exact hn⟩
theorem itOk_keyT {ks : List Kt} {vs : List V} {a : Addr} {o : Obj} (e0 : ω.H a = some (.frz o (.dT (ks.zip vs)))) (hl : ks.length = vs.length) : ItOk K ω ⟨ks.map ktD, fun _ => true⟩ (Itkt a o (ks.zip vs)) := fun i ω' h' e r' hk => by
  have e1 : ω'.H a = some (.frz o (.dT (ks.zip vs))) := e.keep _ _ e0 (by intro _ z; cases z) (.inr trivial)
  have zl : (ks.zip vs).length = ks.length := by rw [List.length_zip, ← hl, Nat.min_self]
  refine ⟨fun d hd => ?_, fun hn => ?_⟩
  · rw [List.getElem?_map] at hd
    obtain ⟨k, hk, rfl⟩ := Option.map_eq_some_iff.mp hd
    have hi : i < ks.length := (List.getElem?_eq_some_iff.mp hk).1
    refine ⟨⟨e1, by rw [zl]; exact hi⟩, fun x H' ⟨eH, k', v, q, hkv, ex, hq⟩ => ⟨ω', eH.symm, Ext.refl _, r', ?_⟩⟩
    have := (List.getElem?_zip_eq_some.mp hkv).1
    rw [hk] at this
    cases this
    rw [ex]
    unfold ktD RelD
    exact ⟨q, _, rfl, ⟨.inl (.inl hq), fun _ => hq⟩, kyL_rel _⟩
  · rw [List.getElem?_map, Option.map_eq_none_iff, List.getElem?_eq_none_iff] at hn
    exact ⟨e1, by rw [zl]; exact hn⟩
end
theorem di_key {X : Cx} {W : WX} {tg e : Expr} {m : SE} (he : DE X W e m) : DI X W tg e (iKey m) := di_of (pi_keys he) fun σ H R ⟨ω, h, ds, e1, r, s, p⟩ => by
  subst e1
  refine ⟨ω, h, ds, rfl, r, s, Post.bd (show Post X.K X.mg W σ ω (ItOk X.K) R ((m ds h).bd _) from p) fun d h1 v ω1 e1 r1 d1 p1 => ?_⟩
  split at p1
  · rename_i i
    unfold RelD at d1
    split at p1
    · rename_i ks xs q
      obtain ⟨vs, ⟨o, f1⟩, f2, f3⟩ := r1.cel i _ q
      exact ⟨_, o, d1.2, .inl ⟨_, f1, p1 _ ω1 (Ext.refl _) r1 (itOk_key f1 f2)⟩⟩
    · rename_i ks xs q
      obtain ⟨vs, ⟨o, f1⟩, f2, f3⟩ := r1.cel i _ q
      exact ⟨_, o, d1.2, .inr ⟨_, f1, p1 _ ω1 (Ext.refl _) r1 (itOk_keyT f1 f2)⟩⟩
    · exact False.elim p1
  · exact False.elim p1
/-! ### reading, locked or not -/
def dttL (h : Hc) : D → Option (List Kt × List D)
  | .ref i => match h[i]? with
    | some (.dtt ks ds) => some (ks, ds)
    | some (.lkt ks ds) => some (ks, ds)
    | _ => none
  | _ => none
section
variable {K : PySem.W.Frag} {ω : Wo} {h : Hc} {d : D} {v : V}
theorem dttL_rel {ks : List Kt} {ds : List D} (r : Rel K ω h) (e : dttL h d = some (ks, ds)) (x : RelD K ω d v) : ∃ p vs, v = .ref p ∧ L2.Rd ω.H p (.dT (ks.zip vs)) ∧ ks.length = vs.length ∧ RelL K ω ds vs := by
  cases d <;> try (simp [dttL] at e; done)
  rename_i i
  unfold dttL at e
  unfold RelD at x
  cases q : h[i]? with
  | none => simp [q] at e
  | some c =>
    cases c with
    | dtt ks' ds' =>
      simp [q] at e
      obtain ⟨rfl, rfl⟩ := e
      obtain ⟨vs, e1, e2, e3⟩ := r.cel i _ q
      exact ⟨_, vs, x.2, .inl e1, e2, e3⟩
    | lkt ks' ds' =>
      simp [q] at e
      obtain ⟨rfl, rfl⟩ := e
      obtain ⟨vs, ⟨o, e1⟩, e2, e3⟩ := r.cel i _ q
      exact ⟨_, vs, x.2, .inr ⟨o, e1⟩, e2, e3⟩
    | _ => simp [q] at e
end
def dgtL (x y : D) (h : Hc) : R D := match dttL h x, keyT y with
  | some (ks, ds), some k => match lkT ks ds k with
    | some d => .ok d h
    | none => .bad
  | _, _ => .bad
theorem de_dgetL {X : Cx} {W : WX} {a b : Expr} {ma mb : SE} {pos : Pos} (hu : X.A.units + 1 < cLine) (ha : DE X W a ma) (hb : DE X W b mb) (hs : NoSl b) : DE X W (.Subscript a b pos) (eOp dgtL ma mb) := de_of (pe_dget hu ha hb hs) fun σ H Q ⟨ω, h, ds, e1, r, s, p⟩ => by
  subst e1
  refine ⟨ω, h, ds, rfl, r, s, p.bd fun x h1 v ω1 e1 r1 d1 p1 => ⟨ω1, h1, ds, rfl, r1, monoS r e1 s, p1.bd fun y h2 u ω2 e2 r2 d2 p2 => ?_⟩⟩
  unfold dgtL at p2
  split at p2
  · rename_i ks xs k q1 q2
    obtain ⟨p, vs, rfl, f2, f3, f4⟩ := dttL_rel r2 q1 (mono r1 e2 _ _ d1)
    have z := lkT_rel (j := k) f4 f3
    split at p2
    · rename_i d q3
      rw [q3] at z
      obtain ⟨w, z1, z2⟩ := z
      obtain ⟨b, rfl, hb⟩ := keyT_rel q2 d2
      exact ⟨_, w, rfl, .inr ⟨_, k, b, f2, rfl, hb, z1.symm⟩, p2 w ω2 (Ext.refl _) r2 z2⟩
    · exact False.elim p2
  · exact False.elim p2
/-! ### {k: v} with a tuple key -/
end Mp
/-! LayDt: dict comprehensions whose keys are tuples of ints; the dict is a cell. -/
namespace Mp
open PySem PySem.Spec PyProof.Rows L2
theorem d_dictSetT {X : Cx} {pins : List (Addr × Obj)} {σ : L2.St} {H : Hp} {s : Shared} {E : Value → Shared → Prop} {Da b : Addr} {kvs : List (List Key × V)} {k : List Key} {v : V} {u r : Value} {Q : Unit → Shared → Prop} (hu : X.A.units + 1 < cLine) (I : Inv X pins σ H s) (hD : H Da = some (.dT kvs)) (hz : kvs.length < sizeLine)
    (eb : H b = some (.tup (k.map kV))) (ry : RelV (.ref b) u) (rv : RelV v r) (h : ∀ s', Inv X pins σ (upd H Da (.dT (putK kvs k v))) s' → Q () s') : wpAny (model X.prog X.w) X.A (dictSet Da u r) Q E s := by
  cases (show u = Value.ref b from ry)
  obtain ⟨z, hd, xs, rel, dd⟩ := L2.dt_of I.hok hD
  have hzx : xs.length ≤ sizeLine := by rw [← Paired.length rel]; exact z
  have hl : (putK kvs k v).length ≤ sizeLine := by have := length_putK kvs k v; omega
  refine wpAny_dictSet_heap (hsz := hzx) (show (tupleKind (mixKind X.prog X.w)).room X.A from Nat.lt_of_succ_lt hu) (key_of I.hok eb) dd fun h' dd' hs => h _ ?_
  obtain ⟨q, es, ep, hq, g2, g3, g4, _, g5⟩ := dd'
  refine d_write I (by rw [hD]; exact True.intro) hs ⟨q, hq⟩ ⟨hl, hd, _, (rel.put k eb rv).keeps fun c ys ec => ?_, q, es, ep, hq, g2, g3, g4, g5⟩
  rw [upd_ne (ne_of ec hD (fun z => nomatch z))]
  exact ec
section
variable {X : Cx}
/-- {k: v for target in iter if ..}, keys tuples: D the new dict -/
def tDt (wi : TI) (g : TG) (tt : TT) (tk tv : TE) (vs : List Nat) : TE := fun σ H Q => wi σ H fun J H1 => ∀ Da, H1 Da = none → ∃ Wz : Nat → Nat → Hp → Prop, (∃ m, Wz 0 m (upd H1 Da (.dT []))) ∧ ∀ i m H, Wz i m H →
  (J.stop i H ∧ Q (.ref Da) H) ∨ (J.go i H ∧ ∃ Nx : Hp → Prop, (∀ Hz', Nx Hz' → ∃ mz', mz' < m ∧ Wz (i + 1) mz' Hz') ∧ ∀ x Hz', J.yld i H x Hz' → g x (wipe σ vs) Hz' fun σ2 H2 => wipe σ2 vs = wipe σ vs ∧ tt σ2 H2 fun b H3 =>
    if b = true then tk σ2 H3 fun y H4 => tv σ2 H4 fun z H5 => ∃ kvs k b, y = .ref b ∧ H5 b = some (.tup (k.map kV)) ∧ H5 Da = some (.dT kvs) ∧ kvs.length < sizeLine ∧ Nx (upd H5 Da (.dT (putK kvs k z))) else Nx H3)
theorem dt_core {pins : List (Addr × Obj)} {s : Shared} {σ : L2.St} {H : Hp} {Q : VK} {kx vx tg iter : Expr} {ifs : List Expr} {scopez : Scope} {ownz : List (Str × Nat)} {pos pospz : Pos} {wi : TI} {g : TG} {tt : TT} {tk tv : TE} {usez : Option (Value → Sem Unit)} {Qfz : Value → Shared → Prop}
    (hc : X.calm = true) (hu : X.A.units + 1 < cLine) (hN : X.N.Nodup) (I : Inv X pins σ H s) (hi : PI X tg iter wi) (okz : BlkOk X.N X.env.scope scopez ownz)
    (hg : ∀ (s : Shared) (H : Hp) (C : Addr) (clz : List (Str × Addr)) (fpz : List Addr), PG (X.blk s H scopez (compEnvC scopez clz C X.env) fpz) tg g) (ht : ∀ (s : Shared) (H : Hp) (C : Addr) (clz : List (Str × Addr)) (fpz : List Addr), PTs (X.blk s H scopez (compEnvC scopez clz C X.env) fpz) ifs tt)
    (hk : ∀ (s : Shared) (H : Hp) (C : Addr) (clz : List (Str × Addr)) (fpz : List Addr), PE (X.blk s H scopez (compEnvC scopez clz C X.env) fpz) kx tk)
    (he : ∀ (s : Shared) (H : Hp) (C : Addr) (clz : List (Str × Addr)) (fpz : List Addr), PE (X.blk s H scopez (compEnvC scopez clz C X.env) fpz) vx tv) (hs : ∀ x, foldedSetIterable iter X.env x = pure x)
    (h : tDt wi g tt tk tv (ownz.map (·.2)) σ H Q)
    (hRRz : ∀ D C s' m H', Inv X pins σ H' s' → Q (.ref D) H' → s'.heap.Ns C m → FpOk X pins H' C → compPost (model X.prog X.w) X.A X.xe usez Qfz (.ref D) C (.ok .next) s') :
    wpAny (model X.prog X.w) X.A (comprehension (.DictComp kx vx [⟨tg, iter, ifs, 0⟩] scopez pos) scopez X.env pospz newDict false (eval iter X.env) usez) Qfz X.xe s := by
  have hfreez : ∀ y ∈ scopez.names, y.2 = .free → ∃ c, X.env.cells.lookup y.1 = some c := fun y hy e => by
    rcases okz.free y hy e with k | k
    · exact I.ok.has _ (.inl k)
    · exact I.ok.has _ (.inr k)
  refine wpAny_comprehension_free (use := usez) rfl hs (closure_ok hfreez) okz.kind (fun y hy e => by rw [okz.uniq y hy, e])
    (thn (hi.run pins s σ H _ I h) fun xvz sz1 hxz => thn hxz fun itvz sz2 hz2 => ?_)
  obtain ⟨it, fpz, tnz, J, Hz2, e, Iz2, T, stz2, fz2, q⟩ := hz2
  subst e
  refine wpAny_newObj_type (newEnv_comp ?_)
  generalize hD : sz2.heap.objs.size = D
  have hDnz : Hz2 D = none := Iz2.hok.fresh (Nat.le_of_eq hD)
  obtain ⟨W, ⟨m0z, w0z⟩, turnz⟩ := q D hDnz
  -- the new list
  generalize hs3z : ({ sz2 with heap := sz2.heap.push { cls := .type "dict", data := .dict #[] } } : Shared) = sz3
  have Iz3 : Inv X pins σ (upd Hz2 D (.dT [])) sz3 := by
    rw [← hs3z]
    refine Iz2.laid (t' := sz2.toks) (fun b o e => Heap.get?_push_of_some _ e) (Nat.le_of_eq hD) ?_
    rw [← hD]
    exact dt_empty sz2.heap Iz2.big
  have hz3 : sz3.heap = sz2.heap.push { cls := .type "dict", data := .dict #[] } := by rw [← hs3z]
  have szz : ∀ b ∈ fpz, b < sz2.heap.objs.size := fun b hb => by
    obtain ⟨o, e, _⟩ := T.obj _ _ stz2 b hb
    exact Heap.lt_size e
  have fz3 : ∀ b ∈ fpz, FpOk X pins (upd Hz2 D (.dT [])) b ∧ b < sz3.heap.objs.size := fun b hb => by
    have hltz := szz b hb
    refine ⟨⟨?_, (fz2 b hb).2⟩, by rw [hz3, Heap.size_push]; exact Nat.lt_succ_of_lt hltz⟩
    rw [upd_ne (by rw [← hD]; exact Nat.ne_of_lt hltz)]
    exact (fz2 b hb).1
  have stz3 : tnz 0 sz3.heap := T.keep _ _ _ stz2 fun b _ o e => by rw [hz3]; exact Heap.get?_push_of_some _ e
  have Iz4 := block_start Iz3 okz hN fz3
  have pgz := hg sz3 (upd Hz2 D (.dT [])) sz3.heap.objs.size (cellsFrom (sz3.heap.objs.size + 1) scopez.names (cloFrom X.env.cells scopez.names [])) fpz
  have ptz := ht sz3 (upd Hz2 D (.dT [])) sz3.heap.objs.size (cellsFrom (sz3.heap.objs.size + 1) scopez.names (cloFrom X.env.cells scopez.names [])) fpz
  have pkz := hk sz3 (upd Hz2 D (.dT [])) sz3.heap.objs.size (cellsFrom (sz3.heap.objs.size + 1) scopez.names (cloFrom X.env.cells scopez.names [])) fpz
  have pe := he sz3 (upd Hz2 D (.dT [])) sz3.heap.objs.size (cellsFrom (sz3.heap.objs.size + 1) scopez.names (cloFrom X.env.cells scopez.names [])) fpz
  show codeAny _ _ (.compStart (.DictComp kx vx [⟨tg, iter, ifs, 0⟩] scopez pos) 0 (.ref it) (.ref D) (compEnvC scopez (cellsFrom (sz3.heap.objs.size + 1) scopez.names (cloFrom X.env.cells scopez.names [])) sz3.heap.objs.size X.env)) (compPost (model X.prog X.w) X.A X.xe usez Qfz (.ref D) sz3.heap.objs.size) { sz3 with heap := pushCells (sz3.heap.push { cls := .type "dict", data := .dict #[] }) scopez.names }
  have nfpz : ∀ b ∈ fpz, (upd Hz2 D (.dT [])) b = none := fun b hb => (fz3 b hb).1.1
  generalize hcez : compEnvC scopez (cellsFrom (sz3.heap.objs.size + 1) scopez.names (cloFrom X.env.cells scopez.names [])) sz3.heap.objs.size X.env = cez at Iz4 pgz ptz pkz pe ⊢
  have cLz : cez.locals = sz3.heap.objs.size := by subst hcez; rfl
  generalize hH3z : upd Hz2 D (.dT []) = Hz3 at Iz3 Iz4 pgz ptz pkz pe w0z nfpz fz3
  generalize hs4z : ({ sz3 with heap := pushCells (sz3.heap.push { cls := .type "dict", data := .dict #[] }) scopez.names } : Shared) = sz4 at Iz4 ⊢
  have stz4 : tnz 0 sz4.heap := T.keep _ _ _ stz3 fun b _ o e => by rw [← hs4z]; exact pushCells_keeps _ _ _ _ (Heap.get?_push_of_some _ e)
  have statz : ∀ {σ' : L2.St} {H' : Hp} {s' : Shared}, Inv (X.blk sz3 Hz3 scopez cez fpz) [] σ' H' s' → (∀ b ∈ fpz, H' b = none) → ∀ b ∈ fpz, FpOk (X.blk sz3 Hz3 scopez cez fpz) [] H' b := fun {σ' H' s'} I' hn b hb =>
    ⟨hn b hb, (I'.ok.exf b hb).1, I'.ok.exfs b hb, .inl hb, fun x c e => (I'.ok.exf b hb).2 x c e, fun p hp => absurd (show p ∈ ([] : List (Addr × Obj)) ++ [] from hp) (by simp)⟩
  have loopz : codeAny (model X.prog X.w) X.A (.compLoop (.DictComp kx vx [⟨tg, iter, ifs, 0⟩] scopez pos) 0 (.ref it) (.ref D) cez) (compPost (model X.prog X.w) X.A X.xe usez Qfz (.ref D) sz3.heap.objs.size) sz4 := by
    refine compLoop_anyD (fun n s' => ∃ i H', Inv (X.blk sz3 Hz3 scopez cez fpz) [] (wipe σ (ownz.map (·.2))) H' s' ∧ tnz i s'.heap ∧ (∀ b ∈ fpz, H' b = none) ∧ W i n H') ?_ m0z ⟨0, Hz3, Iz4, stz4, nfpz, w0z⟩
    rintro n sz5 ⟨i, Hz5, Iz5, stz5, nz5, w5⟩
    rcases turnz i n Hz5 w5 with ⟨stopz, qqz⟩ | ⟨goz, Nx, hNx, stepz⟩
    · have tdz := T.done (X.blk sz3 Hz3 scopez cez fpz) rfl rfl rfl hc i [] sz5 _ Hz5 (fun _ _ => False) Iz5 (statz Iz5 nz5) stz5 stopz
      refine thnF tdz fun r sz6 ⟨hr, Iz6⟩ => ?_
      subst hr
      -- back in the def's context
      have Iz7 : Inv X pins σ Hz5 sz6 := Iz3.call' (ch := fpz) Iz6.os Iz6.base Iz6.hok Iz6.bare fun b hb => ⟨(fz3 b hb).1.2.2.2.1, (fz3 b hb).1.2.1, (fz3 b hb).1.2.2.2.2.1, (fz3 b hb).1.2.2.2.2.2⟩
      have nCz : Hz5 sz3.heap.objs.size = none := by
        have z : Hz5 cez.locals = none := Iz6.free
        rw [cLz] at z
        exact z
      obtain ⟨m, hn, _⟩ := Iz6.loc
      have hn : sz6.heap.Ns cez.locals m := hn
      rw [cLz] at hn
      exact hRRz D sz3.heap.objs.size sz6 m Hz5 Iz7 qqz hn (Iz3.fpOk (Nat.le_refl _) nCz)
    · have tiz := T.item (X.blk sz3 Hz3 scopez cez fpz) rfl rfl rfl hc i [] sz5 _ Hz5 (fun _ _ => False) Iz5 (statz Iz5 nz5) stz5 goz
      refine thnF tiz fun r sz6 ⟨u, hr, hz6⟩ => ?_
      subst hr
      refine thnF hz6 fun _ sz7 ⟨x, Hz7, Iz7, rz7, y7, stz7, nz7⟩ => ?_
      have I7' := Iz7.pinned (statz Iz7 nz7) (T.obj _ _ stz7)
      refine thnF (pgz.run _ sz7 _ Hz7 x u _ I7' rz7 (stepz x Hz7 y7)) fun _ sz8 ⟨σz8, Hz8, Iz8, hw8, qz8⟩ => ?_
      refine thnF (ptz.run _ sz8 σz8 Hz8 _ Iz8 qz8) fun b sz9 ⟨Hz9, Iz9, qz9⟩ => ?_
      -- the turn's end
      have fin : ∀ {s' : Shared} {H' : Hp}, Inv (X.blk sz3 Hz3 scopez cez fpz) ([] ++ pinsAt fpz sz7.heap) σz8 H' s' → Nx H' → ∃ m, m < n ∧ ∃ i H', Inv (X.blk sz3 Hz3 scopez cez fpz) [] (wipe σ (ownz.map (·.2))) H' s' ∧ tnz i s'.heap ∧ (∀ b ∈ fpz, H' b = none) ∧ W i m H' := fun {s' H'} I' nx => by
        obtain ⟨m', hm, w'⟩ := hNx H' nx
        have pin' : ∀ b ∈ fpz, ∀ o, sz7.heap.get? b = some o → s'.heap.get? b = some o ∧ H' b = none := fun b hb o e =>
          let z := I'.pin (b, o) (List.mem_append_right _ (List.mem_append_right _ (mem_pinsAt hb e)))
          ⟨z.1, z.2.1⟩
        have hl : (wipe σ (ownz.map (·.2))).length = σz8.length := by rw [← hw8, wipe_length]
        refine ⟨m', hm, i + 1, H', (I'.unpinned (pins := [])).weak hl (fun j v e => ?_), T.keep _ _ _ stz7 fun b hb o e => (pin' b hb o e).1, fun b hb => ?_, w'⟩
        · rw [← hw8] at e
          exact (wipe_some e).1
        · obtain ⟨o, e, _⟩ := T.obj _ _ stz7 b hb
          exact (pin' b hb o e).2
      cases b with
      | false =>
        simp only [Bool.false_eq_true, if_false] at qz9 ⊢
        exact fin Iz9 qz9
      | true =>
        simp only [if_true] at qz9 ⊢
        refine thnF (pkz.run _ sz9 σz8 Hz9 _ Iz9 qz9) fun z sz10 ⟨yk, Hz10, Iz10, rz10, qz10⟩ => ?_
        refine thnF (pe.run _ sz10 σz8 Hz10 _ Iz10 qz10) fun z2 sz11 ⟨yv, Hz11, Iz11, rz11, kvs, k, b0, ek, eb, hD11, hz11, nx⟩ => ?_
        subst ek
        exact d_dictSetT (X := X.blk sz3 Hz3 scopez cez fpz) hu Iz11 hD11 hz11 eb rz10 rz11 fun sz12 Iz12 => fin Iz12 nx
  exact codeAny_compStart_dict loopz (T.self X.A 0 _ _ _ stz4 loopz)

theorem ps_setDt {i : Nat} {y : Str} {py pos spos : Pos} {kx vx tg iter : Expr} {ifs : List Expr} {scope : Scope} {own : List (Str × Nat)} {wi : TI} {g : TG} {tt : TT} {tk tv : TE}
    (hu : X.A.units + 1 < cLine) (hc : X.calm = true) (nd : X.N.Nodup) (at_ : X.N[i]? = some y) (lo : X.env.scope.names.lookup y = some .local)
    (sw : swapsWith (.DictComp kx vx [⟨tg, iter, ifs, 0⟩] scope pos) (some (.Name y py)) spos.line X.env = pure true)
    (di : PI X tg iter wi) (bk : BlkOk X.N X.env.scope scope own)
    (hg : InBlk X scope fun B => PG B tg g) (ht : InBlk X scope fun B => PTs B ifs tt) (hk : InBlk X scope fun B => PE B kx tk) (hv : InBlk X scope fun B => PE B vx tv)
    (hs : ∀ x, foldedSetIterable iter X.env x = pure x := by intro _; rfl) :
    PS X (.Assign [.Name y py] (.DictComp kx vx [⟨tg, iter, ifs, 0⟩] scope pos) spos) (tAsg (tDt wi g tt tk tv (own.map (·.2))) (gName i)) := ⟨fun pins s σ H E I w => by
  rw [exec_Assign_Name_used _ _ _ _ sw]
  refine wpAny_bind (wpAny_standAt (wpAny_bind ?_))
  have w' : tDt wi g tt tk tv (own.map (·.2)) σ H (fun x H1 => gName i x σ H1 E.nx) := w
  show wpAny _ X.A (do let _ ← comprehension (.DictComp kx vx [⟨tg, iter, ifs, 0⟩] scope pos) scope X.env (firstIterPos [⟨tg, iter, ifs, 0⟩] pos) newDict false (eval iter X.env) (some (assign (.Name y py) X.env))) _ _ s
  have core := dt_core (Qfz := fun _ s' => SP X pins E .next s') (pospz := firstIterPos [⟨tg, iter, ifs, 0⟩] pos) (pos := pos) (usez := some (assign (.Name y py) X.env)) hc hu nd I di bk hg ht hk hv hs w' fun L C s' m H' J q ns fp => by
    show wpAny _ _ (assign (.Name y py) X.env (.ref L)) _ _ _
    refine wpAny_assign_Name (store_ok2 (v := V.ref L) J nd at_ (.inl lo) rfl (fun s2 J2 ⟨a, sb, ha⟩ => ?_) (.inr lo))
    obtain ⟨p0, p1, p2, p3, p4, p5⟩ := fp
    have ne : C ≠ a := ha.elim (fun z => by rw [z]; exact p1) fun z e => p4 y a z e.symm
    refine ⟨m, ns.sameBut sb ne, fun h3 sb3 => ⟨_, H', ?_, q⟩⟩
    exact J2.turned (t' := s2.toks) (fun b o hb e => (sb3.2 b hb).trans e) p0 p1 p3 p4 p5
  exact wpAny_bind (thn core fun _ s' z => wpAny_pure (wpAny_pure z))⟩
end
section
variable {X : Cx} {W : WX} {tg iter kx vx : Expr} {ifs : List Expr} {mi : SI} {p : Pt} {own : List Nat} {c : SB} {mk mv : SE} {scope : Scope} {pos : Pos}
def dtR (chk : Hc → Bool) (p : Pt) (own : List Nat) (c : SB) (mk mv : SE) (ds : Sl) : List D → List Kt → List D → Hc → R (List Kt × List D)
  | [], ks, acc, h => if chk h = true then .ok (ks, acc) h else .bad
  | d :: r, ks, acc, h => if chk h = true then (match bindP h p d (wipeD ds own) with
      | some ds1 => (c ds1 h).nox.bd fun b h1 => if b = true then (mk ds1 h1).nox.bd fun y h2 => (mv ds1 h2).nox.bd fun z h3 => match keyT y with
          | some k => if ks.length < lim then dtR chk p own c mk mv ds r (insT ks acc k z).1 (insT ks acc k z).2 h3 else .bad
          | none => .bad
        else dtR chk p own c mk mv ds r ks acc h1
      | none => .bad) else .bad
def eDt (mi : SI) (p : Pt) (own : List Nat) (c : SB) (mk mv : SE) : SE := fun ds h => (mi ds h).bd fun it h1 => (dtR it.chk p own c mk mv ds it.items [] [] h1).bd fun xs h2 => .ok (.ref h2.length) (h2 ++ [.dtt xs.1 xs.2])
theorem dtW {fin : List Kt × List D → Hc → R D} (ho : ∀ i ∈ p.slots, i ∈ own)
    (hfin : ∀ (σ : L2.St) (ω : Wo) (h : Hc) (q : Addr) (ks : List Kt) (xs : List D) (vs : List V) (Q : VK), Rel X.K ω h → ω.H q = some (.dT (ks.zip vs)) → ks.length = vs.length → ω.A q → (∀ i, i < ω.n → ω.β i ≠ q) → RelL X.K ω xs vs →
      Post X.K X.mg W σ (ω.drop q) (RelD X.K) Q (fin (ks, xs) h) → Q (.ref q) ω.H) :
    ∀ σ H Q, tE X W (fun ds h => (mi ds h).bd fun it h1 => (dtR it.chk p own c mk mv ds it.items [] [] h1).bd fin) σ H Q → tDt (tI X W mi) (tP X.K p) (tT X W0 c) (tE X W0 mk) (tE X W0 mv) own σ H Q := fun σ H Q ⟨ω, h, ds, e1, r, s, q⟩ => by
  subst e1
  refine ⟨ω, h, ds, rfl, r, s, q.bd fun it h1 J ω1 ex1 r1 ok p1 => ?_⟩
  intro Da hD
  have s1 := monoS r ex1 s
  have e0 : Ext ω1 { ω1 with A := fun q => ω1.A q ∨ q = Da, H := upd ω1.H Da (.dT []) } := by
    refine ⟨Nat.le_refl _, fun _ _ => rfl, fun _ z => .inl z, fun q z => ?_, fun i a b => absurd b (Nat.not_lt.mpr a), (Ext.up (o := .dT []) hD).dom, (Ext.up (o := .dT []) hD).keep⟩
    rcases z with z | z
    · exact .inl z
    · exact .inr (by rw [z]; exact hD)
  have nD : ∀ j, j < ω1.n → ω1.β j ≠ Da := fun j hj z => by
    obtain ⟨u, e, _⟩ := r1.mut hj
    rw [z, hD] at e; cases e
  refine ⟨fun i k H' => ∃ ω2 h2 ks acc vs, ω2.H = H' ∧ Ext ω1 ω2 ∧ Rel X.K ω2 h2 ∧ ω2.A Da ∧ (∀ j, j < ω2.n → ω2.β j ≠ Da) ∧ ω2.H Da = some (.dT (ks.zip vs)) ∧ ks.length = vs.length ∧ RelL X.K ω2 acc vs ∧ k = (it.items.drop i).length ∧
      Post X.K X.mg W σ (ω2.drop Da) (RelD X.K) Q ((dtR it.chk p own c mk mv ds (it.items.drop i) ks acc h2).bd fin), ⟨_, { ω1 with A := fun q => ω1.A q ∨ q = Da, H := upd ω1.H Da (.dT []) }, h1, [], [], [], rfl, e0, ?_, .inr rfl, nD, upd_same, rfl, RelL.nil, rfl, ?_⟩, ?_⟩
  · refine r1.ext1 e0 rfl (fun q z w => ?_) (fun i hi => upd_ne (nD i hi)) (tabs_keep r1.tabs fun b u e _ => by
      show upd ω1.H Da (.dT []) b = some u
      rw [upd_ne (ne_of_none e hD)]; exact e)
    have w' : upd ω1.H Da (.dT []) q = none := w
    by_cases e : q = Da
    · rw [e, upd_same] at w'; cases w'
    · rw [upd_ne e] at w'
      rcases z with z | z
      · exact r1.sub q z w'
      · exact e z
  · refine Post.mono (r := (dtR it.chk p own c mk mv ds it.items [] [] h1).bd fin) p1 ⟨Nat.le_refl _, fun _ _ => rfl, fun a ha => ⟨.inl ha, fun z => r1.free hD (z ▸ ha)⟩, fun a ha => ?_, fun i a b => absurd b (Nat.not_lt.mpr a), fun a ha => ?_, fun a o ha _ _ => ?_⟩
    · rcases ha.1 with z | z
      · exact .inl z
      · exact absurd z ha.2
    · by_cases z : a = Da
      · rw [z]; exact hD
      · rw [Wo.drop_ne z] at ha
        have ha' : upd ω1.H Da (.dT []) a = none := ha
        rw [upd_ne z] at ha'; exact ha'
    · have z := ne_of_none ha hD
      rw [Wo.drop_ne z]
      show upd ω1.H Da (.dT []) a = some o
      rw [upd_ne z]; exact ha
  · rintro i k H' ⟨ω2, h2, ks, acc, vs, rfl, e2, r2, aD, bD, hDa, hkl, rl, hk, p2⟩
    cases q1 : it.items.drop i with
    | nil =>
      rw [q1] at p2
      unfold dtR at p2
      by_cases hck : it.chk h2 = true
      · rw [if_pos hck] at p2
        refine .inl ⟨(ok i ω2 h2 e2 r2 hck).2 (List.getElem?_eq_none (List.drop_eq_nil_iff.mp q1)), ?_⟩
        exact hfin σ ω2 h2 Da ks acc vs Q r2 hDa hkl aD bD rl p2
      · rw [if_neg hck] at p2; exact False.elim p2
    | cons d rest =>
      rw [q1] at p2
      unfold dtR at p2
      by_cases hck : it.chk h2 = true
      · rw [if_pos hck] at p2
        have hd : it.items[i]? = some d := by
          have := congrArg (fun l => l[0]?) q1
          simpa using this
        have hrest : it.items.drop (i + 1) = rest := by
          have := congrArg List.tail q1
          simpa using this
        obtain ⟨go, yl⟩ := (ok i ω2 h2 e2 r2 hck).1 d hd
        refine .inr ⟨go, fun H3 => ∃ ω3 h3 ks acc vs, ω3.H = H3 ∧ Ext ω1 ω3 ∧ Rel X.K ω3 h3 ∧ ω3.A Da ∧ (∀ j, j < ω3.n → ω3.β j ≠ Da) ∧ ω3.H Da = some (.dT (ks.zip vs)) ∧ ks.length = vs.length ∧ RelL X.K ω3 acc vs ∧ Post X.K X.mg W σ (ω3.drop Da) (RelD X.K) Q ((dtR it.chk p own c mk mv ds rest ks acc h3).bd fin),
          fun H3 ⟨ω3, h3, ks', acc', vs', a1, a2, a3, a4, a5, a6, a6', a7, a8⟩ => ⟨rest.length, by rw [hk, q1]; exact Nat.lt_succ_self _, ω3, h3, ks', acc', vs', a1, a2, a3, a4, a5, a6, a6', a7, by rw [hrest], by rw [hrest]; exact a8⟩, fun x H' hy => ?_⟩
        obtain ⟨ω3, rfl, e3, r3, d3⟩ := yl x H' hy
        cases q2 : bindP h2 p d (wipeD ds own) with
        | none => rw [q2] at p2; exact False.elim p2
        | some ds3 =>
          rw [q2] at p2
          have st : ∀ {ω4 : Wo}, Ext ω2 ω4 → ω4.A Da ∧ (∀ j, j < ω4.n → ω4.β j ≠ Da) ∧ ω4.H Da = some (.dT (ks.zip vs)) := fun {ω4} e4 => by
            refine ⟨e4.a _ aD, fun j hj z => ?_, e4.keep _ _ hDa (by intro _ z; cases z) (.inl fun j hj => bD j hj)⟩
            by_cases hj2 : j < ω2.n
            · rw [e4.b j hj2] at z; exact bD j hj2 z
            · have := e4.nw j (Nat.not_lt.mp hj2) hj
              rw [z, hDa] at this; cases this
          refine ⟨ω3, h2, wipeD ds own, d, ds3, rfl, r3, monoS r2 e3 (monoS r1 e2 s1 |>.wipe own), d3, q2, fun σ4 s4 hw => ⟨(hw own ho).trans (wipe_wipe own), ω3, h2, ds3, rfl, r3, s4, ?_⟩⟩
          have p3 := Post.mono p2 (e3.drop Da)
          simp only at p3
          rw [bd_bd] at p3
          refine Post.into p3 fun b h4 b' ω4 e4 r4 hb p4 => ?_
          have hb' : b = b' := hb
          subst hb'
          obtain ⟨aD4, bD4, hD4⟩ := st (e3.trans e4)
          cases b with
          | false => exact ⟨ω4, h4, ks, acc, vs, rfl, (e2.trans e3).trans e4, r4, aD4, bD4, hD4, hkl, monoL r2 (e3.trans e4) _ _ rl, p4⟩
          | true =>
            rw [if_pos rfl] at p4 ⊢
            rw [bd_bd] at p4
            refine ⟨ω4, h4, ds3, rfl, r4, monoS r3 e4 s4, Post.into p4 fun y h5 v ω5 e5 r5 hy p5 => ?_⟩
            rw [bd_bd] at p5
            refine ⟨ω5, h5, ds3, rfl, r5, monoS r3 (e4.trans e5) s4, Post.into p5 fun z h6 w ω6 e6 r6 hz p6 => ?_⟩
            obtain ⟨aD6, bD6, hD6⟩ := st (((e3.trans e4).trans e5).trans e6)
            have rl6 := monoL r2 (((e3.trans e4).trans e5).trans e6) _ _ rl
            split at p6
            · rename_i k0 qk
              by_cases hl : ks.length < lim
              · rw [if_pos hl] at p6
                obtain ⟨ws, f1, f2, f3⟩ := putK_zipT (j := k0) (x := z) rl6 hkl hz
                obtain ⟨k1, k2, k3⟩ := hidD (o := .dT _) (u := .dT ((insT ks acc k0 z).1.zip ws)) r6 trivial aD6 bD6 hD6
                have zl : (ks.zip vs).length < sizeLine := by
                  rw [List.length_zip, ← hkl, Nat.min_self]; exact lim_lt hl
                obtain ⟨b0, rfl, hb0⟩ := keyT_rel qk hy
                have hb6 := r5.kept e6 hb0 (.inr id)
                refine ⟨ks.zip vs, k0, b0, rfl, hb6, hD6, zl, ω6.up Da (.dT ((insT ks acc k0 z).1.zip ws)), h6, (insT ks acc k0 z).1, (insT ks acc k0 z).2, ws, by rw [f1]; rfl, ?_, k1, aD6, bD6, upd_same, f2, k3 _ _ f3, by rw [Wo.drop_up]; exact p6⟩
                have e15 := (((e2.trans e3).trans e4).trans e5).trans e6
                refine ⟨e15.n, e15.b, e15.a, e15.aN, e15.nw, fun a ha => ?_, fun a o ha nt hb => ?_⟩
                · have ha' : upd ω6.H Da (.dT ((insT ks acc k0 z).1.zip ws)) a = none := ha
                  by_cases z : a = Da
                  · rw [z, upd_same] at ha'; cases ha'
                  · rw [upd_ne z] at ha'; exact e15.dom a ha'
                · have z0 := ne_of_none ha hD
                  show upd ω6.H Da (.dT ((insT ks acc k0 z).1.zip ws)) a = some o
                  rw [upd_ne z0]; exact e15.keep a o ha nt hb
              · rw [if_neg hl] at p6; exact False.elim p6
            · exact False.elim p6
      · rw [if_neg hck] at p2; exact False.elim p2
theorem dt_cell (σ : L2.St) (ω : Wo) (h : Hc) (q : Addr) (ks : List Kt) (xs : List D) (vs : List V) (Q : VK) (r : Rel X.K ω h) (hq : ω.H q = some (.dT (ks.zip vs))) (hkl : ks.length = vs.length) (aq : ω.A q) (bq : ∀ i, i < ω.n → ω.β i ≠ q) (rl : RelL X.K ω xs vs)
    (p : Post X.K X.mg W σ (ω.drop q) (RelD X.K) Q (.ok (.ref h.length) (h ++ [.dtt ks xs]))) : Q (.ref q) ω.H := by
  have e1 : Ext ω ⟨ω.A, fun i => if i = ω.n then q else ω.β i, ω.n + 1, ω.H⟩ ∨ True := .inr trivial
  -- the data keep their meaning when one more cell is counted
  have key : (∀ d v, RelD X.K ω d v → RelD X.K ⟨ω.A, fun i => if i = ω.n then q else ω.β i, ω.n + 1, ω.H⟩ d v) ∧ ∀ ds vs, RelL X.K ω ds vs → RelL X.K ⟨ω.A, fun i => if i = ω.n then q else ω.β i, ω.n + 1, ω.H⟩ ds vs := by
    have aux := @D.rec (motive_1 := fun d => ∀ v, RelD X.K ω d v → RelD X.K ⟨ω.A, fun i => if i = ω.n then q else ω.β i, ω.n + 1, ω.H⟩ d v) (motive_2 := fun ds => ∀ vs, RelL X.K ω ds vs → RelL X.K ⟨ω.A, fun i => if i = ω.n then q else ω.β i, ω.n + 1, ω.H⟩ ds vs)
      (fun v x => by unfold RelD at x ⊢; exact x) (fun b v x => by unfold RelD at x ⊢; exact x) (fun i v x => by unfold RelD at x ⊢; exact x) (fun s v x => by unfold RelD at x ⊢; exact x)
      (fun ds ih v x => by unfold RelD at x ⊢; obtain ⟨p, vs', e1, e2, e3⟩ := x; exact ⟨p, vs', e1, e2, ih _ e3⟩)
      (fun ds ih v x => by unfold RelD at x ⊢; obtain ⟨p, vs', e1, e2, e3⟩ := x; exact ⟨p, vs', e1, e2, ih _ e3⟩)
      (fun ds ih v x => by unfold RelD at x ⊢; obtain ⟨p, vs', e1, e2, e3⟩ := x; exact ⟨p, vs', e1, e2, ih _ e3⟩)
      (fun ks ds ih v x => by unfold RelD at x ⊢; obtain ⟨p, vs', e1, e2, e3, e4⟩ := x; exact ⟨p, vs', e1, e2, e3, ih _ e4⟩)
      (fun i v x => by unfold RelD at x ⊢; exact ⟨Nat.lt_succ_of_lt x.1, by rw [x.2]; show _ = V.ref (if i = ω.n then q else ω.β i); rw [if_neg (Nat.ne_of_lt x.1)]⟩) (fun t v x => by unfold RelD at x ⊢; exact x)
      (fun vs x => by unfold RelL at x ⊢; exact x)
      (fun d ds ih1 ih2 vs x => by unfold RelL at x ⊢; obtain ⟨v, ws', e1, e2, e3⟩ := x; exact ⟨v, ws', e1, ih1 _ e2, ih2 _ e3⟩)
    refine ⟨aux, fun ds => ?_⟩
    induction ds with
    | nil => intro vs x; unfold RelL at x ⊢; exact x
    | cons d ds ih => intro vs x; obtain ⟨v, ws', rfl, e2, e3⟩ := x.inv; exact RelL.cons (aux d v e2) (ih _ e3)
  refine p (.ref q) ⟨ω.A, fun i => if i = ω.n then q else ω.β i, ω.n + 1, ω.H⟩ ⟨Nat.le_succ _, fun i hi => if_neg (Nat.ne_of_lt hi), fun _ z => z.1, fun a z => ?_, fun i a b => ?_, fun a ha => ?_, fun a o ha _ _ => ?_⟩ ⟨?_, fun i j hi hj z => ?_, fun i hi => ?_, r.sub, fun i c hi => ?_, r.tabs⟩ ?_
  · by_cases e : a = q
    · exact .inr (by rw [e]; exact Wo.drop_eq)
    · exact .inl ⟨z, e⟩
  · have b' : i < ω.n + 1 := b
    have a' : ω.n ≤ i := a
    show (ω.drop q).H (if i = ω.n then q else ω.β i) = none
    rw [if_pos (by omega)]; exact Wo.drop_eq
  · by_cases z : a = q
    · rw [z]; exact Wo.drop_eq
    · rw [Wo.drop_ne z]; exact ha
  · by_cases z : a = q
    · rw [z, Wo.drop_eq] at ha; cases ha
    · rw [Wo.drop_ne z] at ha; exact ha
  · rw [List.length_append, ← r.n]; rfl
  · have hi' : i < ω.n + 1 := hi
    have hj' : j < ω.n + 1 := hj
    have z' : (if i = ω.n then q else ω.β i) = (if j = ω.n then q else ω.β j) := z
    by_cases e1 : i = ω.n
    · by_cases e2 : j = ω.n
      · omega
      · rw [if_pos e1, if_neg e2] at z'
        exact absurd z'.symm (bq j (by omega))
    · by_cases e2 : j = ω.n
      · rw [if_neg e1, if_pos e2] at z'
        exact absurd z' (bq i (by omega))
      · rw [if_neg e1, if_neg e2] at z'
        exact r.inj i j (by omega) (by omega) z'
  · have hi' : i < ω.n + 1 := hi
    show ω.A (if i = ω.n then q else ω.β i)
    by_cases e1 : i = ω.n
    · rw [if_pos e1]; exact aq
    · rw [if_neg e1]; exact r.inA i (by omega)
  · show RelC X.K _ (if i = ω.n then q else ω.β i) c
    by_cases e1 : i = ω.n
    · have e2 : i = h.length := e1.trans r.n
      rw [List.getElem?_append_right (by omega), e2, Nat.sub_self] at hi
      have e3 : C.dtt ks xs = c := by simpa using hi
      subst e3
      rw [if_pos e1]
      exact ⟨vs, hq, hkl, key.2 _ _ rl⟩
    · have hlt : i < ω.n := by
        have := (List.getElem?_eq_some_iff.mp hi).1
        rw [List.length_append, ← r.n] at this
        simp at this; omega
      rw [List.getElem?_append_left (by rw [← r.n]; exact hlt)] at hi
      rw [if_neg e1]
      have x := r.cel i c hi
      cases c with
      | lst ys => obtain ⟨vs', e1, e2⟩ := x; exact ⟨vs', e1, key.2 _ _ e2⟩
      | dct ks ys => obtain ⟨vs', e1, e3, e2⟩ := x; exact ⟨vs', e1, e3, key.2 _ _ e2⟩
      | dtt ks ys => obtain ⟨vs', e1, e3, e2⟩ := x; exact ⟨vs', e1, e3, key.2 _ _ e2⟩
      | obj cls fs ys => obtain ⟨vs', ⟨cx, dx, e0, e1⟩, e3, e2⟩ := x; exact ⟨vs', ⟨cx, dx, e0, e1⟩, e3, key.2 _ _ e2⟩
      | rng lo hi => exact x
      | lkd ks xs => obtain ⟨vs', ⟨o, e1⟩, e3, e2⟩ := x; exact ⟨vs', ⟨o, e1⟩, e3, key.2 _ _ e2⟩
      | lkt ks xs => obtain ⟨vs', ⟨o, e1⟩, e3, e2⟩ := x; exact ⟨vs', ⟨o, e1⟩, e3, key.2 _ _ e2⟩
  · unfold RelD
    rw [← r.n]
    exact ⟨Nat.lt_succ_self _, by show _ = V.ref (if ω.n = ω.n then q else _); rw [if_pos rfl]⟩
theorem ds_setDt {i : Nat} {st : Stmt} (ho : ∀ i ∈ p.slots, i ∈ own) (w : PS X st (tAsg (tDt (tI X W mi) (tP X.K p) (tT X W0 c) (tE X W0 mk) (tE X W0 mv) own) (gName i))) : DS X W st (sSet i (eDt mi p own c mk mv)) := ds_of w fun E σ H ⟨ω, h, ds, e1, r, s, q⟩ => by
  subst e1
  refine dtW (W := W) (fin := fun xs h => .ok (.ref h.length) (h ++ [.dtt xs.1 xs.2])) ho dt_cell σ ω.H _ ⟨ω, h, ds, rfl, r, s, ?_⟩
  exact PostO.bd r s q fun d h1 v ω' e r1 rd s1 p1 => p1 _ ω' (Ext.refl _) r1 (s1.set i rd)
end
end Mp
/-! LayDs: {k: v}, k a tuple of ints. -/
namespace Mp
open PySem PySem.Spec PyProof.Rows L2
section
variable {X : Cx} {W : WX} {k v : Expr} {pos : Pos}
def tDs1 (trs : List (TE × TE)) : TE := fun σ H Q => ∀ p, H p = none → tPairs trs σ (upd H p (.dT [])) fun ps H2 => H2 p = some (.dT []) ∧ ∃ (kk : Kt) (b : Addr) (x : V), ps = [(.ref b, x)] ∧ H2 b = some (.tup (kk.map kV)) ∧ Q (.ref p) (upd H2 p (.dT [(kk, x)]))
theorem pe_ds1 {trs : List (TE × TE)} (hu : X.A.units + 1 < cLine) (h : PPs X pos [some k] [v] trs) : PE X (.Dict [some k] [v] pos) (tDs1 trs) := by
  refine ⟨fun pins s σ H Q I q => ?_⟩
  have hn := I.hok.fresh (Nat.le_refl s.heap.objs.size)
  have I1 := I.laid (a := s.heap.objs.size) (o := .dT []) (h' := s.heap.push { cls := .type "dict", data := .dict #[] }) (t' := s.toks) (fun _ _ q => Heap.get?_push_of_some _ q) (Nat.le_refl _) (dt_empty s.heap I.big)
  have hl := pairTrees_length [some k] [v] X.env pos rfl rfl
  rw [arm_eval_Dict, zip_pairTrees [some k] [v] X.env pos rfl rfl, dictDisplay_pairs (pairTrees [some k] [v] X.env pos) (fun e => by rw [e] at hl; cases hl) (by rw [hl]; simp)]
  refine wpAny_bind (wpAny_standAt (wpAny_bind (wpAny_subDictH (knd := tupleKind (mixKind X.prog X.w)) (Q := fun d s' => wpAny (model X.prog X.w) X.A (pure (Value.ref d)) (EP X pins σ Q) X.xe s') (Nat.lt_of_succ_lt hu) (by rw [hl]; simp)
    (thn (h.run pins _ σ _ _ I1 (q _ hn)) fun ws s2 ⟨ps, H2, I2, rel, e, kk, b, x, ep, eb, q2⟩ => ?_))))
  subst ep
  cases rel with
  | @cons p1 q1 pr qr hp ht =>
    cases ht
    obtain ⟨r1, r2⟩ := hp
    obtain ⟨u, r⟩ := q1
    cases (show u = Value.ref b from r1)
    obtain ⟨z, hd, xs, rl, dd⟩ := L2.dt_of I2.hok e
    cases rl
    refine ⟨[(kk, b, r)], ⟨rfl, rfl, key_of I2.hok eb, trivial⟩, dd, fun h' tk dd' hs => wpAny_pure ⟨.ref s.heap.objs.size, _, ?_, rfl, q2⟩⟩
    have dd2 : h'.DictOfH (tupleKind (mixKind X.prog X.w)) s.heap.objs.size (storedH [] kk b r) := dd'
    obtain ⟨q, es, ep, hq, g2, g3, g4, _, g5⟩ := dd2
    refine d_write I2 (by rw [e]; exact True.intro) hs ⟨q, hq⟩ ⟨by rw [sizeLine_eq]; simp, hd, _, (KT.put (kvs := []) (xs := []) .nil kk eb r2).keeps fun c ys ec => ?_, q, es, ep, hq, g2, g3, g4, g5⟩
    rw [upd_ne (ne_of ec e (fun z => nomatch z))]
    exact ec
def eDs1 (gk gv : Sl → Option D) : SE := fun ds h => match gk ds, gv ds with
  | some x, some y => match keyT x with
    | some kk => .ok (.ref h.length) (h ++ [.dtt [kk] [y]])
    | none => .bad
  | _, _ => .bad
theorem de_ds1 {gk gv : Sl → Option D} (hu : X.A.units + 1 < cLine) (hk : Pl X k gk) (hv : Pl X v gv) : DE X W (.Dict [some k] [v] pos) (eDs1 gk gv) := by
  obtain ⟨tk, pk, ak⟩ := hk.ex
  obtain ⟨tv, pv, av⟩ := hv.ex
  refine de_of (pe_ds1 hu (pps_cons pk pv pps_nil)) fun σ H Q ⟨ω, h, ds, e1, r, s, p⟩ => ?_
  subst e1
  unfold eDs1 at p
  split at p
  · rename_i x y q1 q2
    split at p
    · rename_i kk q3
      obtain ⟨xv, rx, fx⟩ := ak σ ω ds x s q1
      obtain ⟨yv, ry, fy⟩ := av σ ω ds y s q2
      obtain ⟨b, rfl, hb⟩ := keyT_rel q3 rx
      intro q hq
      refine fx _ _ (fy _ _ ⟨upd_same, kk, b, yv, rfl, by rw [upd_ne (ne_of_none hb hq)]; exact hb, ?_⟩)
      rw [upd_upd]
      have z := cell_newT (ks := [kk]) (xs := [y]) (vs := [yv]) r hq rfl (RelL.cons ry RelL.nil)
      exact p (.ref q) (ω.cell q (.dT [(kk, yv)])) (Ext.cell hq) z.1 z.2
    · exact False.elim p
  · exact False.elim p
end
end Mp
namespace Mp
open PySem PySem.Spec PyProof.Rows L2
/-! ### mirrors: Pre -/
def m_law_numbers_l1 : SS :=
  (sSeq (sIf (bEx (eOp eqF (eVar 3) (eC (.int 0))))
          (fun ds h => .bk ds h)
          sNext)
        (sSeq (sDrop (eBM "list" appF (eVar 1) (aCons (eOp modF (eCB intF (aCons (eVar 3) aNil)) (eC (.int 997))) aNil)))
        (sSet 3 (eOp fdivF (eVar 3) (eC (.int 997))))))
def m_law_numbers_l2 : SS :=
  (sSeq (sSet 5 (eOp modF (eCB intF (aCons (eOp addF (eOp addF (eOp mulF (eVar 2) (eC (.int 48271))) (eOp mulF (eVar 4) (eC (.int 69621)))) (eC (.int 11))) aNil)) (eC (.int 2147483647))))
        (sDrop (eBM "list" appF (eVar 1) (aCons (eOp modF (eCB intF (aCons (eOp addF (eOp mulF (eVar 5) (eC (.int 16807))) (eVar 4)) aNil)) (eC (.int 2147483629))) aNil))))
def m_law_numbers_l3 : SS :=
  (sIf (bEx (eOp geF (eVar 2) (eOp powF (eC (.int 10)) (eC (.int 18)))))
      (sSeq (sSet 3 (eVar 2))
      (sFor (iRg1 (aCons (eC (.int 60)) aNil)) (.n 4)
        m_law_numbers_l1))
      (sFor (iRg1 (aCons (eC (.int 4)) aNil)) (.n 4)
        m_law_numbers_l2))
/-- _law_numbers: script 0, row 1, cell 2, left 3, k 4, mixed 5 -/
def m_law_numbers : Fn := runB 6
  (sSeq (sSet 1 (eCell aNil))
  (sSeq (sFor (iSeq (eSl slF (eVar 0) none (some (eC (.int 63))))) (.n 2)
    m_law_numbers_l3)
  (sSeq (sIf (bEx (eOp eqF (eCB lenF (aCons (eVar 1) aNil)) (eC (.int 0))))
    (sDrop (eBM "list" appF (eVar 1) (aCons (eC (.int 0)) aNil)))
    sNext)
  (sRet (eVar 1)))))
def m_law_gcd_l1 : SS :=
  (sSeq (sIf (bEx (eOp eqF (eVar 3) (eC (.int 0))))
      (fun ds h => .bk ds h)
      sNext)
    (sSeq (sSet 5 (eOp modF (eCB intF (aCons (eVar 2) aNil)) (eVar 3)))
    (sSeq (sSet 2 (eVar 3))
    (sSet 3 (eVar 5)))))
/-- _law_gcd: one 0, other 1, left 2, right 3, k 4, rest 5 -/
def m_law_gcd : Fn := runB 6
  (sSeq (sSet 2 (eIf (bEx (eOp geF (eVar 0) (eC (.int 0)))) (eVar 0) (eUn negF (eVar 0))))
  (sSeq (sSet 3 (eIf (bEx (eOp geF (eVar 1) (eC (.int 0)))) (eVar 1) (eUn negF (eVar 1))))
  (sSeq (sFor (iRg1 (aCons (eC (.int 20000)) aNil)) (.n 4)
    m_law_gcd_l1)
  (sRet (eVar 2)))))
/-- _law_red: n 0, d 1, common 2 -/
def m_law_red : Nat → Fn
  | 0 => fun _ _ => .bad
  | n + 1 => runB 3 (sSeq (sIf (bEx (eOp ltF (eVar 1) (eC (.int 0))))
    (sRet (eCall (m_law_red n) (aCons (eUn negF (eVar 0)) (aCons (eUn negF (eVar 1)) aNil))))
    sNext)
  (sSeq (sSet 2 (eCall m_law_gcd (aCons (eVar 0) (aCons (eVar 1) aNil))))
  (sSeq (sIf (bEx (eOp eqF (eVar 2) (eC (.int 0))))
    (sRet (eTup (aCons (eC (.int 0)) (aCons (eC (.int 1)) aNil))))
    sNext)
  (sRet (eTup (aCons (eOp fdivF (eVar 0) (eVar 2)) (aCons (eOp fdivF (eVar 1) (eVar 2)) aNil)))))))
/-- _law_draw: row 0, at 1, limit 2, mixed 3 -/
def m_law_draw : Fn := runB 4
  (sSeq (sIf (bEx (eOp ltF (eVar 1) (eCB lenF (aCons (eVar 0) aNil))))
    (sRet (eOp modF (eCB intF (aCons (eOp ixF (eVar 0) (eVar 1)) aNil)) (eVar 2)))
    sNext)
  (sSeq (sSet 3 (eOp modF (eCB intF (aCons (eOp addF (eOp addF (eOp mulF (eOp ixF (eVar 0) (eOp modF (eCB intF (aCons (eVar 1) aNil)) (eCB lenF (aCons (eVar 0) aNil)))) (eC (.int 40692))) (eOp mulF (eVar 1) (eC (.int 7919)))) (eC (.int 3))) aNil)) (eC (.int 2147483399))))
  (sRet (eOp modF (eCB intF (aCons (eOp modF (eCB intF (aCons (eOp addF (eOp mulF (eVar 3) (eC (.int 48271))) (eVar 1)) aNil)) (eC (.int 2147483647))) aNil)) (eVar 2)))))
/-- _law_take: row 0, spot 1, limit 2 -/
def m_law_take : Fn := runB 3
  (sSeq (sPut setF (eOp addF (eOp ixF (eVar 1) (eC (.int 0))) (eC (.int 1))) (eVar 1) (eC (.int 0)))
  (sRet (eCall m_law_draw (aCons (eVar 0) (aCons (eOp subF (eOp ixF (eVar 1) (eC (.int 0))) (eC (.int 1))) (aCons (eVar 2) aNil))))))
/-- _law_wide: row 0, spot 1, limit 2, first 3, second 4, third 5 -/
def m_law_wide : Fn := runB 6
  (sSeq (sSet 3 (eCall m_law_take (aCons (eVar 0) (aCons (eVar 1) (aCons (eC (.int 997)) aNil)))))
  (sSeq (sSet 4 (eCall m_law_take (aCons (eVar 0) (aCons (eVar 1) (aCons (eC (.int 997)) aNil)))))
  (sSeq (sSet 5 (eCall m_law_take (aCons (eVar 0) (aCons (eVar 1) (aCons (eC (.int 997)) aNil)))))
  (sRet (eOp modF (eCB intF (aCons (eOp addF (eOp addF (eOp mulF (eVar 3) (eC (.int 994009))) (eOp mulF (eVar 4) (eC (.int 997)))) (eVar 5)) aNil)) (eVar 2))))))
/-- _law_frac: row 0, spot 1, top 2, low 3 -/
def m_law_frac : Fn := runB 4
  (sSeq (sSet 2 (eIf (bEx (eOp eqF (eCall m_law_take (aCons (eVar 0) (aCons (eVar 1) (aCons (eC (.int 2)) aNil)))) (eC (.int 0)))) (eOp subF (eCall m_law_wide (aCons (eVar 0) (aCons (eVar 1) (aCons (eC (.int 2000001)) aNil)))) (eC (.int 1000000))) (eOp subF (eCall m_law_take (aCons (eVar 0) (aCons (eVar 1) (aCons (eC (.int 21)) aNil)))) (eC (.int 10)))))
  (sSeq (sSet 3 (eOp addF (eC (.int 1)) (eIf (bEx (eOp eqF (eCall m_law_take (aCons (eVar 0) (aCons (eVar 1) (aCons (eC (.int 2)) aNil)))) (eC (.int 0)))) (eCall m_law_wide (aCons (eVar 0) (aCons (eVar 1) (aCons (eC (.int 1000000)) aNil)))) (eCall m_law_take (aCons (eVar 0) (aCons (eVar 1) (aCons (eC (.int 12)) aNil)))))))
  (sRet (eCall (m_law_red 24) (aCons (eVar 2) (aCons (eVar 3) aNil))))))
def m_law_so_l1 (self : Fn) : SS :=
  (sIf (bNot (bTru (eCall self (aCons (eOp ixF (eVar 0) (eVar 2)) (aCons (eOp ixF (eVar 1) (eVar 2)) aNil)))))
        (sRet (eC (.bl false)))
        sNext)
/-- _law_so: found 0, meant 1, k 2 -/
def m_law_so : Nat → Fn
  | 0 => fun _ _ => .bad
  | n + 1 => runB 3 (sSeq (sIf (bEx (eOp isnF (eVar 1) (eC .non)))
    (sRet (eOp isnF (eVar 0) (eC .non)))
    sNext)
  (sSeq (sIf (bTru (eCB isF (aCons (eVar 1) (aCons (eC (.ty "tuple")) aNil))))
    (sSeq (sIf (bOr (bNot (bTru (eCB isF (aCons (eVar 0) (aCons (eC (.ty "tuple")) aNil))))) (bEx (eOp neF (eCB lenF (aCons (eVar 0) aNil)) (eCB lenF (aCons (eVar 1) aNil)))))
      (sRet (eC (.bl false)))
      sNext)
    (sSeq (sFor (iRg1 (aCons (eCB lenF (aCons (eVar 1) aNil)) aNil)) (.n 2)
      (m_law_so_l1 (m_law_so n)))
    (sRet (eC (.bl true)))))
    sNext)
  (sSeq (sIf (bOr (bTru (eCB isF (aCons (eVar 1) (aCons (eC (.ty "bool")) aNil)))) (bTru (eCB isF (aCons (eVar 0) (aCons (eC (.ty "bool")) aNil)))))
    (sRet (eAnd (eCB isF (aCons (eVar 1) (aCons (eC (.ty "bool")) aNil))) (eAnd (eCB isF (aCons (eVar 0) (aCons (eC (.ty "bool")) aNil))) (eOp eqF (eVar 0) (eVar 1)))))
    sNext)
  (sSeq (sIf (bTru (eCB isF (aCons (eVar 1) (aCons (eC (.ty "int")) aNil))))
    (sRet (eAnd (eCB isF (aCons (eVar 0) (aCons (eC (.ty "int")) aNil))) (eOp eqF (eVar 0) (eVar 1))))
    sNext)
  (sRet (eAnd (eCB isF (aCons (eVar 1) (aCons (eC (.ty "str")) aNil))) (eAnd (eCB isF (aCons (eVar 0) (aCons (eC (.ty "str")) aNil))) (eOp eqF (eVar 0) (eVar 1)))))))))
/-- _law_add: one 0, other 1 -/
def m_law_add : Fn := runB 2
  (sRet (eCall (m_law_red 24) (aCons (eOp addF (eOp mulF (eOp ixF (eVar 0) (eC (.int 0))) (eOp ixF (eVar 1) (eC (.int 1)))) (eOp mulF (eOp ixF (eVar 1) (eC (.int 0))) (eOp ixF (eVar 0) (eC (.int 1))))) (aCons (eOp mulF (eOp ixF (eVar 0) (eC (.int 1))) (eOp ixF (eVar 1) (eC (.int 1)))) aNil))))
/-- _law_sub: one 0, other 1 -/
def m_law_sub : Fn := runB 2
  (sRet (eCall (m_law_red 24) (aCons (eOp subF (eOp mulF (eOp ixF (eVar 0) (eC (.int 0))) (eOp ixF (eVar 1) (eC (.int 1)))) (eOp mulF (eOp ixF (eVar 1) (eC (.int 0))) (eOp ixF (eVar 0) (eC (.int 1))))) (aCons (eOp mulF (eOp ixF (eVar 0) (eC (.int 1))) (eOp ixF (eVar 1) (eC (.int 1)))) aNil))))
/-- _law_mul: one 0, other 1 -/
def m_law_mul : Fn := runB 2
  (sRet (eCall (m_law_red 24) (aCons (eOp mulF (eOp ixF (eVar 0) (eC (.int 0))) (eOp ixF (eVar 1) (eC (.int 0)))) (aCons (eOp mulF (eOp ixF (eVar 0) (eC (.int 1))) (eOp ixF (eVar 1) (eC (.int 1)))) aNil))))
def m_law_listed_c1 (self : Fn) : SE :=
  (eCall self (aCons (eVar 1) aNil))
/-- _law_listed: value 0, one 1 -/
def m_law_listed : Nat → Fn
  | 0 => fun _ _ => .bad
  | n + 1 => runB 2 (sSeq (sIf (bTru (eCB isF (aCons (eVar 0) (aCons (eC (.ty "tuple")) aNil))))
    (sRet (eLc (iSeq (eVar 0)) (.n 1) [1] (fun _ h => .ok true h) (m_law_listed_c1 (m_law_listed n))))
    sNext)
  (sRet (eVar 0)))
/-- _law_handed: row 0, spot 1, value 2 -/
def m_law_handed : Fn := runB 3
  (sRet (eIf (bEx (eOp eqF (eCall m_law_take (aCons (eVar 0) (aCons (eVar 1) (aCons (eC (.int 2)) aNil)))) (eC (.int 0)))) (eCall (m_law_listed 24) (aCons (eVar 2) aNil)) (eVar 2)))
/-- _law_div: one 0, other 1 -/
def m_law_div : Fn := runB 2
  (sRet (eCall (m_law_red 24) (aCons (eOp mulF (eOp ixF (eVar 0) (eC (.int 0))) (eOp ixF (eVar 1) (eC (.int 1)))) (aCons (eOp mulF (eOp ixF (eVar 0) (eC (.int 1))) (eOp ixF (eVar 1) (eC (.int 0)))) aNil))))
/-- _law_less: one 0, other 1 -/
def m_law_less : Fn := runB 2
  (sRet (eOp ltF (eOp mulF (eOp ixF (eVar 0) (eC (.int 0))) (eOp ixF (eVar 1) (eC (.int 1)))) (eOp mulF (eOp ixF (eVar 1) (eC (.int 0))) (eOp ixF (eVar 0) (eC (.int 1))))))
end Mp
namespace Mp
open PySem PySem.Spec PyProof.Rows L2
/-! ### mirrors: Quo -/
/-- lowest: n 0, d 1, common 2 -/
def m_lowest : Fn := runB 3
  (sSeq (sSet 2 (eCB gcdF (aCons (eVar 0) (aCons (eVar 1) aNil))))
  (sSeq (sIf (bEx (eOp ltF (eVar 1) (eC (.int 0))))
    (sSet 2 (eUn negF (eVar 2)))
    sNext)
  (sRet (eTup (aCons (eOp fdivF (eVar 0) (eVar 2)) (aCons (eOp fdivF (eVar 1) (eVar 2)) aNil))))))
/-- is_integer: x 0 -/
def m_is_integer : Fn := runB 1
  (sRet (eAnd (eCB isF (aCons (eVar 0) (aCons (eC (.ty "int")) aNil))) (eNot (eCB isF (aCons (eVar 0) (aCons (eC (.ty "bool")) aNil))))))
/-- reduced: n 0, d 1 -/
def m_reduced : Fn := runB 2
  (sSeq (sIf (bNot (bTru (eCall m_is_integer (aCons (eVar 0) aNil))))
    (sRaise "BadValue" ["at"] (aCons (eC (.int 0)) aNil))
    sNext)
  (sSeq (sIf (bOr (bNot (bTru (eCall m_is_integer (aCons (eVar 1) aNil)))) (bEx (eOp eqF (eVar 1) (eC (.int 0)))))
    (sRaise "BadValue" ["at"] (aCons (eC (.int 1)) aNil))
    sNext)
  (sRet (eCall m_lowest (aCons (eVar 0) (aCons (eVar 1) aNil))))))
/-- is_sequence: x 0 -/
def m_is_sequence : Fn := runB 1
  (sRet (eIs2 (eVar 0) "list" "tuple"))
/-- is_row: x 0, least 1, most 2 -/
def m_is_row : Fn := runB 3
  (sRet (eAnd (eCall m_is_sequence (aCons (eVar 0) aNil)) (eAnd (eOp leF (eVar 1) (eCB lenF (aCons (eVar 0) aNil))) (eOp leF (eCB lenF (aCons (eVar 0) aNil)) (eVar 2)))))
/-- is_fraction: x 0 -/
def m_is_fraction : Fn := runB 1
  (sSeq (sIf (bOr (bNot (bTru (eCall m_is_row (aCons (eVar 0) (aCons (eC (.int 2)) (aCons (eC (.int 2)) aNil)))))) (bOr (bNot (bTru (eCall m_is_integer (aCons (eOp ixF (eVar 0) (eC (.int 0))) aNil)))) (bNot (bTru (eCall m_is_integer (aCons (eOp ixF (eVar 0) (eC (.int 1))) aNil))))))
    (sRet (eC (.bl false)))
    sNext)
  (sRet (eAnd (eOp geF (eOp ixF (eVar 0) (eC (.int 1))) (eC (.int 1))) (eOp eqF (eCB gcdF (aCons (eOp ixF (eVar 0) (eC (.int 0))) (aCons (eOp ixF (eVar 0) (eC (.int 1))) aNil))) (eC (.int 1))))))
/-- _look: a 0, b 1 -/
def m_look : Fn := runB 2
  (sSeq (sIf (bNot (bTru (eCall m_is_fraction (aCons (eVar 0) aNil))))
    (sRaise "BadValue" ["at"] (aCons (eC (.int 0)) aNil))
    sNext)
  (sIf (bNot (bTru (eCall m_is_fraction (aCons (eVar 1) aNil))))
    (sRaise "BadValue" ["at"] (aCons (eC (.int 1)) aNil))
    sNext))
/-- plus: a 0, b 1 -/
def m_plus : Fn := runB 2
  (sSeq (sDrop (eCall m_look (aCons (eVar 0) (aCons (eVar 1) aNil))))
  (sRet (eCall m_lowest (aCons (eOp addF (eOp mulF (eOp ixF (eVar 0) (eC (.int 0))) (eOp ixF (eVar 1) (eC (.int 1)))) (eOp mulF (eOp ixF (eVar 1) (eC (.int 0))) (eOp ixF (eVar 0) (eC (.int 1))))) (aCons (eOp mulF (eOp ixF (eVar 0) (eC (.int 1))) (eOp ixF (eVar 1) (eC (.int 1)))) aNil)))))
/-- minus: a 0, b 1 -/
def m_minus : Fn := runB 2
  (sSeq (sDrop (eCall m_look (aCons (eVar 0) (aCons (eVar 1) aNil))))
  (sRet (eCall m_lowest (aCons (eOp subF (eOp mulF (eOp ixF (eVar 0) (eC (.int 0))) (eOp ixF (eVar 1) (eC (.int 1)))) (eOp mulF (eOp ixF (eVar 1) (eC (.int 0))) (eOp ixF (eVar 0) (eC (.int 1))))) (aCons (eOp mulF (eOp ixF (eVar 0) (eC (.int 1))) (eOp ixF (eVar 1) (eC (.int 1)))) aNil)))))
/-- times: a 0, b 1 -/
def m_times : Fn := runB 2
  (sSeq (sDrop (eCall m_look (aCons (eVar 0) (aCons (eVar 1) aNil))))
  (sRet (eCall m_lowest (aCons (eOp mulF (eOp ixF (eVar 0) (eC (.int 0))) (eOp ixF (eVar 1) (eC (.int 0)))) (aCons (eOp mulF (eOp ixF (eVar 0) (eC (.int 1))) (eOp ixF (eVar 1) (eC (.int 1)))) aNil)))))
/-- over: a 0, b 1 -/
def m_over : Fn := runB 2
  (sSeq (sDrop (eCall m_look (aCons (eVar 0) (aCons (eVar 1) aNil))))
  (sSeq (sIf (bEx (eOp eqF (eOp ixF (eVar 1) (eC (.int 0))) (eC (.int 0))))
    (sRaise "BadValue" ["at"] (aCons (eC (.int 1)) aNil))
    sNext)
  (sRet (eCall m_lowest (aCons (eOp mulF (eOp ixF (eVar 0) (eC (.int 0))) (eOp ixF (eVar 1) (eC (.int 1)))) (aCons (eOp mulF (eOp ixF (eVar 0) (eC (.int 1))) (eOp ixF (eVar 1) (eC (.int 0)))) aNil))))))
/-- less: a 0, b 1 -/
def m_less : Fn := runB 2
  (sSeq (sDrop (eCall m_look (aCons (eVar 0) (aCons (eVar 1) aNil))))
  (sRet (eOp ltF (eOp mulF (eOp ixF (eVar 0) (eC (.int 0))) (eOp ixF (eVar 1) (eC (.int 1)))) (eOp mulF (eOp ixF (eVar 1) (eC (.int 0))) (eOp ixF (eVar 0) (eC (.int 1)))))))
end Mp
namespace Mp
open PySem PySem.Spec PyProof.Rows L2
/-! ### mirrors: Age -/
/-- _law_pick: row 0, spot 1, things 2 -/
def m_law_pick : Fn := runB 3
  (sRet (eOp ixF (eVar 2) (eCall m_law_take (aCons (eVar 0) (aCons (eVar 1) (aCons (eCB lenF (aCons (eVar 2) aNil)) aNil))))))
def m_law_life_c1 : SE :=
  (eCall m_law_pick (aCons (eVar 0) (aCons (eVar 1) (aCons (eLst (aCons (eC (.int 0)) (aCons (eC (.int 0)) (aCons (eC (.int 1)) (aCons (eC (.int 1)) (aCons (eC (.int 2)) (aCons (eC (.int 3)) (aCons (eC (.int 9)) aNil)))))))) aNil))))
/-- _law_life: row 0, spot 1, made 2, k 3 -/
def m_law_life : Fn := runB 4
  (sSeq (sSet 2 (eLcC (iRg1 (aCons (eOp addF (eC (.int 1)) (eCall m_law_take (aCons (eVar 0) (aCons (eVar 1) (aCons (eC (.int 12)) aNil))))) aNil)) (.n 3) [3] (fun _ h => .ok true h) m_law_life_c1))
  (sSeq (sIf (bEx (eOp eqF (eOp ixF (eVar 2) (eOp subF (eCB lenF (aCons (eVar 2) aNil)) (eC (.int 1)))) (eC (.int 0))))
    (sPut setF (eOp addF (eC (.int 1)) (eCall m_law_take (aCons (eVar 0) (aCons (eVar 1) (aCons (eC (.int 4)) aNil))))) (eVar 2) (eOp subF (eCB lenF (aCons (eVar 2) aNil)) (eC (.int 1))))
    sNext)
  (sRet (eCB tupleF (aCons (eVar 2) aNil)))))
/-- is_within: x 0, low 1, high 2 -/
def m_is_within : Fn := runB 3
  (sRet (eAnd (eCall m_is_integer (aCons (eVar 0) aNil)) (eAnd (eOp leF (eVar 1) (eVar 0)) (eOp leF (eVar 0) (eVar 2)))))
def m_is_life_c1 : SE :=
  (eCall m_is_within (aCons (eVar 1) (aCons (eC (.int 0)) (aCons (eC (.int 9)) aNil))))
/-- is_life: life 0, weight 1 -/
def m_is_life : Fn := runB 2
  (sSeq (sIf (bNot (bTru (eCall m_is_row (aCons (eVar 0) (aCons (eC (.int 1)) (aCons (eC (.int 12)) aNil))))))
    (sRet (eC (.bl false)))
    sNext)
  (sSeq (sIf (bNot (bTru (eCB allF (aCons (eLc (iSeq (eVar 0)) (.n 1) [1] (fun _ h => .ok true h) m_is_life_c1) aNil))))
    (sRet (eC (.bl false)))
    sNext)
  (sRet (eOp geF (eOp ixF (eVar 0) (eUn negF (eC (.int 1)))) (eC (.int 1))))))
def m_used_days_c1 : SE :=
  (eOp mulF (eVar 3) (eCB minF (aCons (eOp addF (eVar 2) (eC (.int 1))) (aCons (eVar 1) aNil))))
/-- used_days: life 0, age 1, at 2, weight 3 -/
def m_used_days : Fn := runB 4
  (sRet (eCB sumA (aCons (eLc (iEnu (aCons (eVar 0) aNil)) (.t ((.n 2) :: ((.n 3) :: []))) [2, 3] (fun _ h => .ok true h) m_used_days_c1) aNil)))
/-- mean_life: life 0 -/
def m_mean_life : Fn := runB 1
  (sSeq (sIf (bNot (bTru (eCall m_is_life (aCons (eVar 0) aNil))))
    (sRaise "BadValue" ["at"] (aCons (eC (.int 0)) aNil))
    sNext)
  (sRet (eCall m_reduced (aCons (eCall m_used_days (aCons (eVar 0) (aCons (eCB lenF (aCons (eVar 0) aNil)) aNil))) (aCons (eCB sumA (aCons (eVar 0) aNil)) aNil)))))
/-- check_costs: life 0, plan 1, fail 2 -/
def m_check_costs : Fn := runB 3
  (sSeq (sIf (bNot (bTru (eCall m_is_life (aCons (eVar 0) aNil))))
    (sRaise "BadValue" ["at"] (aCons (eC (.int 0)) aNil))
    sNext)
  (sSeq (sIf (bNot (bTru (eCall m_is_within (aCons (eVar 1) (aCons (eC (.int 0)) (aCons (eC (.int 1000)) aNil))))))
    (sRaise "BadValue" ["at"] (aCons (eC (.int 1)) aNil))
    sNext)
  (sIf (bNot (bTru (eCall m_is_within (aCons (eVar 2) (aCons (eC (.int 0)) (aCons (eC (.int 1000)) aNil))))))
    (sRaise "BadValue" ["at"] (aCons (eC (.int 2)) aNil))
    sNext)))
/-- paid: life 0, plan 1, fail 2, age 3, ended 4 -/
def m_paid : Fn := runB 5
  (sSeq (sSet 4 (eCB sumA (aCons (eSl slF (eVar 0) none (some (eVar 3))) aNil)))
  (sRet (eOp addF (eOp mulF (eVar 2) (eVar 4)) (eOp mulF (eVar 1) (eOp subF (eCB sumA (aCons (eVar 0) aNil)) (eVar 4))))))
/-- cost_of_age: life 0, plan 1, fail 2, age 3 -/
def m_cost_of_age : Fn := runB 4
  (sRet (eCall m_reduced (aCons (eCall m_paid (aCons (eVar 0) (aCons (eVar 1) (aCons (eVar 2) (aCons (eVar 3) aNil))))) (aCons (eCall m_used_days (aCons (eVar 0) (aCons (eVar 3) aNil))) aNil))))
/-- age_cost: life 0, plan 1, fail 2, age 3 -/
def m_age_cost : Fn := runB 4
  (sSeq (sDrop (eCall m_check_costs (aCons (eVar 0) (aCons (eVar 1) (aCons (eVar 2) aNil)))))
  (sSeq (sIf (bNot (bTru (eCall m_is_within (aCons (eVar 3) (aCons (eC (.int 1)) (aCons (eCB lenF (aCons (eVar 0) aNil)) aNil))))))
    (sRaise "BadValue" ["at"] (aCons (eC (.int 3)) aNil))
    sNext)
  (sRet (eCall m_cost_of_age (aCons (eVar 0) (aCons (eVar 1) (aCons (eVar 2) (aCons (eVar 3) aNil))))))))
def m_law_age_cost_l1 : SS :=
  (sSeq (sSet 4 (eOp addF (eVar 4) (eOp mulF (eOp ixF (eVar 0) (eVar 6)) (eIf (bEx (eOp leF (eOp addF (eVar 6) (eC (.int 1))) (eVar 3))) (eVar 2) (eVar 1)))))
    (sSet 5 (eOp addF (eVar 5) (eOp mulF (eOp ixF (eVar 0) (eVar 6)) (eIf (bEx (eOp leF (eOp addF (eVar 6) (eC (.int 1))) (eVar 3))) (eOp addF (eVar 6) (eC (.int 1))) (eVar 3))))))
/-- _law_age_cost: life 0, plan 1, fail 2, age 3, cost 4, days 5, k 6 -/
def m_law_age_cost : Fn := runB 7
  (sSeq (sSet 4 (eC (.int 0)))
  (sSeq (sSet 5 (eC (.int 0)))
  (sSeq (sFor (iRg1 (aCons (eCB lenF (aCons (eVar 0) aNil)) aNil)) (.n 6)
    m_law_age_cost_l1)
  (sRet (eCall (m_law_red 24) (aCons (eVar 4) (aCons (eVar 5) aNil)))))))
end Mp
namespace Mp
open PySem PySem.Spec PyProof.Rows L2
/-! ### mirrors: Str -/
def m_law_letters_l1 : SS :=
  (sSet 3 (eOp addF (eVar 3) (eOp ixF (eC (.str "abcdefghijklmnopqrstuvwxyz")) (eCall m_law_take (aCons (eVar 0) (aCons (eVar 1) (aCons (eC (.int 26)) aNil)))))))
/-- _law_letters: row 0, spot 1, many 2, made 3, k 4 -/
def m_law_letters : Fn := runB 5
  (sSeq (sSet 3 (eC (.str "")))
  (sSeq (sFor (iRg1 (aCons (eVar 2) aNil)) (.n 4)
    m_law_letters_l1)
  (sRet (eVar 3))))
/-- _law_reserved:  -/
def m_law_reserved : Fn := runB 0
  (sRet (eLst (aCons (eC (.str "and")) (aCons (eC (.str "or")) (aCons (eC (.str "of")) (aCons (eC (.str "always")) (aCons (eC (.str "never")) aNil)))))))
def m_law_name_l1 : SS :=
  (sSeq (sIf (bAnd (bEx (eOp (inG true) (eVar 3) (eVar 2))) (bEx (eOp (inG true) (eVar 3) (eCall m_law_reserved aNil))))
      (fun ds h => .bk ds h)
      sNext)
    (sSeq (sSet 3 (eOp addF (eSl slF (eVar 3) none (some (eC (.int 7)))) (eOp ixF (eC (.str "abcdefghijklmnopqrstuvwxyz")) (eOp modF (eCB intF (aCons (eOp addF (eOp mulF (eVar 4) (eC (.int 7))) (eCB lenF (aCons (eVar 2) aNil))) aNil)) (eC (.int 26))))))
    (sIf (bEx (eOp gtF (eVar 4) (eC (.int 20))))
      (sSet 3 (eOp addF (eSl slF (eVar 3) (some (eC (.int 1))) none) (eC (.str "z"))))
      sNext)))
/-- _law_name: row 0, spot 1, used 2, made 3, k 4 -/
def m_law_name : Fn := runB 5
  (sSeq (sSet 3 (eCall m_law_letters (aCons (eVar 0) (aCons (eVar 1) (aCons (eOp addF (eC (.int 1)) (eCall m_law_take (aCons (eVar 0) (aCons (eVar 1) (aCons (eIf (bEx (eOp gtF (eCall m_law_take (aCons (eVar 0) (aCons (eVar 1) (aCons (eC (.int 4)) aNil)))) (eC (.int 0)))) (eC (.int 2)) (eC (.int 8))) aNil))))) aNil)))))
  (sSeq (sFor (iRg1 (aCons (eC (.int 40)) aNil)) (.n 4)
    m_law_name_l1)
  (sSeq (sDrop (eBM "list" appF (eVar 2) (aCons (eVar 3) aNil)))
  (sRet (eVar 3)))))
def m_law_names_l1 : SS :=
  (sDrop (eCall m_law_name (aCons (eVar 0) (aCons (eVar 1) (aCons (eVar 3) aNil)))))
/-- _law_names: row 0, spot 1, many 2, used 3, k 4 -/
def m_law_names : Fn := runB 5
  (sSeq (sSet 3 (eCell aNil))
  (sSeq (sFor (iRg1 (aCons (eVar 2) aNil)) (.n 4)
    m_law_names_l1)
  (sRet (eCB sortF (aCons (eVar 3) aNil)))))
def m_law_tree_l1 (self : Fn) : SS :=
  (sDrop (eBM "list" appF (eVar 7) (aCons (eCall self (aCons (eVar 0) (aCons (eVar 1) (aCons (eVar 2) (aCons (eOp subF (eVar 3) (eC (.int 1))) (aCons (eIf (bEx (eOp gtF (eVar 3) (eC (.int 2)))) (eVar 4) (eC (.int 3))) aNil)))))) aNil)))
/-- _law_tree: row 0, spot 1, names 2, depth 3, most 4, kind 5, many 6, es 7, k 8 -/
def m_law_tree : Nat → Fn
  | 0 => fun _ _ => .bad
  | n + 1 => runB 9 (sSeq (sSet 5 (eCall m_law_take (aCons (eVar 0) (aCons (eVar 1) (aCons (eC (.int 10)) aNil)))))
  (sSeq (sIf (bOr (bEx (eOp leF (eVar 3) (eC (.int 1)))) (bEx (eOp leF (eVar 5) (eC (.int 2)))))
    (sSeq (sIf (bAnd (bEx (eOp eqF (eVar 5) (eC (.int 0)))) (bEx (eOp eqF (eCall m_law_take (aCons (eVar 0) (aCons (eVar 1) (aCons (eC (.int 3)) aNil)))) (eC (.int 0)))))
      (sRet (eIf (bEx (eOp eqF (eCall m_law_take (aCons (eVar 0) (aCons (eVar 1) (aCons (eC (.int 2)) aNil)))) (eC (.int 0)))) (eTup (aCons (eC (.str "all")) (aCons (eTup aNil) aNil))) (eTup (aCons (eC (.str "any")) (aCons (eTup aNil) aNil)))))
      sNext)
    (sRet (eTup (aCons (eC (.str "part")) (aCons (eCall m_law_pick (aCons (eVar 0) (aCons (eVar 1) (aCons (eVar 2) aNil)))) aNil)))))
    sNext)
  (sSeq (sSet 6 (eOp addF (eC (.int 2)) (eCall m_law_take (aCons (eVar 0) (aCons (eVar 1) (aCons (eOp subF (eVar 4) (eC (.int 1))) aNil))))))
  (sSeq (sIf (bEx (eOp geF (eVar 5) (eC (.int 7))))
    (sSet 6 (eOp addF (eC (.int 1)) (eCall m_law_take (aCons (eVar 0) (aCons (eVar 1) (aCons (eVar 4) aNil))))))
    sNext)
  (sSeq (sSet 7 (eCell aNil))
  (sSeq (sFor (iRg1 (aCons (eVar 6) aNil)) (.n 8)
    (m_law_tree_l1 (m_law_tree n)))
  (sSeq (sIf (bEx (eOp leF (eVar 5) (eC (.int 4))))
    (sRet (eTup (aCons (eC (.str "all")) (aCons (eCB tupleF (aCons (eVar 7) aNil)) aNil))))
    sNext)
  (sSeq (sIf (bEx (eOp leF (eVar 5) (eC (.int 6))))
    (sRet (eTup (aCons (eC (.str "any")) (aCons (eCB tupleF (aCons (eVar 7) aNil)) aNil))))
    sNext)
  (sRet (eTup (aCons (eC (.str "some")) (aCons (eOp addF (eC (.int 1)) (eCall m_law_take (aCons (eVar 0) (aCons (eVar 1) (aCons (eVar 6) aNil))))) (aCons (eCB tupleF (aCons (eVar 7) aNil)) aNil)))))))))))))
def m_law_flat_c1 : SE :=
  (eTup (aCons (eC (.str "part")) (aCons (eVar 6) aNil)))
def m_law_flat_l1 : SS :=
  (sIf (bEx (eOp eqF (eCall m_law_take (aCons (eVar 0) (aCons (eVar 1) (aCons (eC (.int 2)) aNil)))) (eC (.int 0))))
      (sDrop (eBM "list" appF (eVar 3) (aCons (eTup (aCons (eC (.str "part")) (aCons (eCall m_law_pick (aCons (eVar 0) (aCons (eVar 1) (aCons (eVar 2) aNil)))) aNil))) aNil)))
      sNext)
/-- _law_flat: row 0, spot 1, names 2, es 3, k 4, kind 5, name 6 -/
def m_law_flat : Fn := runB 7
  (sSeq (sSet 3 (eLcC (iSeq (eSl slF (eVar 2) none (some (eC (.int 8))))) (.n 6) [6] (fun _ h => .ok true h) m_law_flat_c1))
  (sSeq (sFor (iRg1 (aCons (eOp subF (eC (.int 8)) (eCB lenF (aCons (eVar 3) aNil))) aNil)) (.n 4)
    m_law_flat_l1)
  (sSeq (sIf (bEx (eOp ltF (eCB lenF (aCons (eVar 3) aNil)) (eC (.int 2))))
    (sRet (eTup (aCons (eC (.str "some")) (aCons (eC (.int 1)) (aCons (eCB tupleF (aCons (eVar 3) aNil)) aNil)))))
    sNext)
  (sSeq (sSet 5 (eCall m_law_take (aCons (eVar 0) (aCons (eVar 1) (aCons (eC (.int 4)) aNil)))))
  (sSeq (sIf (bEx (eOp eqF (eVar 5) (eC (.int 0))))
    (sRet (eTup (aCons (eC (.str "all")) (aCons (eCB tupleF (aCons (eVar 3) aNil)) aNil))))
    sNext)
  (sSeq (sIf (bEx (eOp eqF (eVar 5) (eC (.int 1))))
    (sRet (eTup (aCons (eC (.str "any")) (aCons (eCB tupleF (aCons (eVar 3) aNil)) aNil))))
    sNext)
  (sRet (eTup (aCons (eC (.str "some")) (aCons (eOp addF (eC (.int 1)) (eCall m_law_take (aCons (eVar 0) (aCons (eVar 1) (aCons (eCB lenF (aCons (eVar 3) aNil)) aNil))))) (aCons (eCB tupleF (aCons (eVar 3) aNil)) aNil)))))))))))
/-- _law_structure: row 0, spot 1, names 2, kind 3 -/
def m_law_structure : Fn := runB 4
  (sSeq (sSet 3 (eCall m_law_take (aCons (eVar 0) (aCons (eVar 1) (aCons (eC (.int 6)) aNil)))))
  (sSeq (sIf (bEx (eOp eqF (eVar 3) (eC (.int 0))))
    (sRet (eCall m_law_flat (aCons (eVar 0) (aCons (eVar 1) (aCons (eVar 2) aNil)))))
    sNext)
  (sSeq (sIf (bEx (eOp eqF (eVar 3) (eC (.int 1))))
    (sRet (eCall (m_law_tree 24) (aCons (eVar 0) (aCons (eVar 1) (aCons (eVar 2) (aCons (eC (.int 2)) (aCons (eC (.int 6)) aNil)))))))
    sNext)
  (sRet (eCall (m_law_tree 24) (aCons (eVar 0) (aCons (eVar 1) (aCons (eVar 2) (aCons (eOp addF (eC (.int 2)) (eCall m_law_take (aCons (eVar 0) (aCons (eVar 1) (aCons (eC (.int 3)) aNil))))) (aCons (eC (.int 3)) aNil))))))))))
def m_law_works_c1 (self : Fn) : SE :=
  (eVar 3)
def m_law_works_t1 (self : Fn) : SB :=
  (bTru (eCall self (aCons (eVar 3) (aCons (eVar 1) aNil))))
/-- _law_works: e 0, up 1, many 2, one 3 -/
def m_law_works : Nat → Fn
  | 0 => fun _ _ => .bad
  | n + 1 => runB 4 (sSeq (sIf (bEx (eOp eqF (eOp ixF (eVar 0) (eC (.int 0))) (eC (.str "part"))))
    (sRet (eOp (inG false) (eOp ixF (eVar 0) (eC (.int 1))) (eVar 1)))
    sNext)
  (sSeq (sSet 2 (eCB lenF (aCons (eLc (iSeq (eOp ixF (eVar 0) (eOp subF (eCB lenF (aCons (eVar 0) aNil)) (eC (.int 1))))) (.n 3) [3] (m_law_works_t1 (m_law_works n)) (m_law_works_c1 (m_law_works n))) aNil)))
  (sSeq (sIf (bEx (eOp eqF (eOp ixF (eVar 0) (eC (.int 0))) (eC (.str "all"))))
    (sRet (eOp eqF (eVar 2) (eCB lenF (aCons (eOp ixF (eVar 0) (eC (.int 1))) aNil))))
    sNext)
  (sSeq (sIf (bEx (eOp eqF (eOp ixF (eVar 0) (eC (.int 0))) (eC (.str "any"))))
    (sRet (eOp gtF (eVar 2) (eC (.int 0))))
    sNext)
  (sRet (eOp geF (eVar 2) (eOp ixF (eVar 0) (eC (.int 1)))))))))
def m_is_name_c1 : SE :=
  (eOp (inG false) (eVar 1) (eC (.str "abcdefghijklmnopqrstuvwxyz")))
/-- is_name: x 0, sign 1 -/
def m_is_name : Fn := runB 2
  (sSeq (sIf (bOr (bNot (bTru (eCB isF (aCons (eVar 0) (aCons (eC (.ty "str")) aNil))))) (bOr (bEx (eOp eqF (eCB lenF (aCons (eVar 0) aNil)) (eC (.int 0)))) (bOr (bEx (eOp gtF (eCB lenF (aCons (eVar 0) aNil)) (eC (.int 8)))) (bEx (eOp (inG false) (eVar 0) (eC (.tup [(.str "and"), (.str "or"), (.str "of"), (.str "always"), (.str "never")])))))))
    (sRet (eC (.bl false)))
    sNext)
  (sRet (eCB allF (aCons (eLc (iSgn (eVar 0)) (.n 1) [1] (fun _ h => .ok true h) m_is_name_c1) aNil))))
/-- _is_outline: e 0 -/
def m_is_outline : Fn := runB 1
  (sSeq (sIf (bOr (bNot (bTru (eCall m_is_sequence (aCons (eVar 0) aNil)))) (bOr (bEx (eOp ltF (eCB lenF (aCons (eVar 0) aNil)) (eC (.int 2)))) (bOr (bEx (eOp gtF (eCB lenF (aCons (eVar 0) aNil)) (eC (.int 3)))) (bNot (bTru (eCB isF (aCons (eOp ixF (eVar 0) (eC (.int 0))) (aCons (eC (.ty "str")) aNil))))))))
    (sRet (eC (.bl false)))
    sNext)
  (sSeq (sIf (bEx (eOp eqF (eCB lenF (aCons (eVar 0) aNil)) (eC (.int 3))))
    (sRet (eAnd (eOp eqF (eOp ixF (eVar 0) (eC (.int 0))) (eC (.str "some"))) (eAnd (eCall m_is_row (aCons (eOp ixF (eVar 0) (eC (.int 2))) (aCons (eC (.int 1)) (aCons (eC (.int 8)) aNil)))) (eCall m_is_within (aCons (eOp ixF (eVar 0) (eC (.int 1))) (aCons (eC (.int 1)) (aCons (eCB lenF (aCons (eOp ixF (eVar 0) (eC (.int 2))) aNil)) aNil)))))))
    sNext)
  (sSeq (sIf (bEx (eOp eqF (eOp ixF (eVar 0) (eC (.int 0))) (eC (.str "part"))))
    (sRet (eCall m_is_name (aCons (eOp ixF (eVar 0) (eC (.int 1))) aNil)))
    sNext)
  (sSeq (sIf (bAnd (bEx (eOp neF (eOp ixF (eVar 0) (eC (.int 0))) (eC (.str "all")))) (bEx (eOp neF (eOp ixF (eVar 0) (eC (.int 0))) (eC (.str "any")))))
    (sRet (eC (.bl false)))
    sNext)
  (sRet (eAnd (eCall m_is_row (aCons (eOp ixF (eVar 0) (eC (.int 1))) (aCons (eC (.int 0)) (aCons (eC (.int 8)) aNil)))) (eOp neF (eCB lenF (aCons (eOp ixF (eVar 0) (eC (.int 1))) aNil)) (eC (.int 1)))))))))
def m_is_structure_l1 : SS :=
  (sDrop (eBM "list" appF (eVar 3) (aCons (eTup (aCons (eVar 6) (aCons (eOp addF (eVar 5) (eC (.int 1))) aNil))) aNil)))
def m_is_structure_l2 : SS :=
  (sSeq (sAsg (.t ((.n 4) :: ((.n 5) :: []))) (eBM0 "list" popF (eVar 3)))
    (sSeq (sAug 2 addI (eC (.int 1)))
    (sSeq (sIf (bOr (bEx (eOp gtF (eVar 2) (eC (.int 60)))) (bOr (bEx (eOp gtF (eVar 5) (eC (.int 10)))) (bNot (bTru (eCall m_is_outline (aCons (eVar 4) aNil))))))
      (sRet (eC (.bl false)))
      sNext)
    (sIf (bEx (eOp eqF (eOp ixF (eVar 4) (eC (.int 0))) (eC (.str "part"))))
      (sSeq (sPut putF (eC (.bl true)) (eVar 1) (eOp ixF (eVar 4) (eC (.int 1))))
      (sIf (bEx (eOp gtF (eCB lenF (aCons (eVar 1) aNil)) (eC (.int 10))))
        (sRet (eC (.bl false)))
        sNext))
      (sFor (iSeq (eOp ixF (eVar 4) (eUn negF (eC (.int 1))))) (.n 6)
        m_is_structure_l1)))))
/-- is_structure: e 0, names 1, count 2, waiting 3, one 4, level 5, member 6 -/
def m_is_structure : Fn := runB 7
  (sSeq (sSet 1 eDct0)
  (sSeq (sSet 2 (eC (.int 0)))
  (sSeq (sSet 3 (eCell (aCons (eTup (aCons (eVar 0) (aCons (eC (.int 1)) aNil))) aNil)))
  (sSeq (wl (bTru (eVar 3))
    m_is_structure_l2 100000)
  (sRet (eC (.bl true)))))))
/-- _look: e 0 -/
def m_look_2 : Fn := runB 1
  (sIf (bNot (bTru (eCall m_is_structure (aCons (eVar 0) aNil))))
    (sRaise "BadValue" ["at"] (aCons (eC (.int 0)) aNil))
    sNext)
def m_names_in_l1 : SS :=
  (sDrop (eBM "list" appF (eVar 2) (aCons (eVar 4) aNil)))
def m_names_in_l2 : SS :=
  (sSeq (sSet 3 (eBM0 "list" popF (eVar 2)))
    (sIf (bEx (eOp eqF (eOp ixF (eVar 3) (eC (.int 0))) (eC (.str "part"))))
      (sPut putF (eC (.bl true)) (eVar 1) (eOp ixF (eVar 3) (eC (.int 1))))
      (sFor (iSeq (eOp ixF (eVar 3) (eUn negF (eC (.int 1))))) (.n 4)
        m_names_in_l1)))
/-- names_in: e 0, names 1, waiting 2, one 3, member 4 -/
def m_names_in : Fn := runB 5
  (sSeq (sSet 1 eDct0)
  (sSeq (sSet 2 (eCell (aCons (eVar 0) aNil)))
  (sSeq (wl (bTru (eVar 2))
    m_names_in_l2 100000)
  (sRet (eCB tupleF (aCons (eCB sortF (aCons (eVar 1) aNil)) aNil))))))
/-- parts: e 0 -/
def m_parts : Fn := runB 1
  (sSeq (sDrop (eCall m_look_2 (aCons (eVar 0) aNil)))
  (sRet (eCall m_names_in (aCons (eVar 0) aNil))))
def m_holds_c1 (self : Fn) : SE :=
  (eC (.int 1))
def m_holds_t1 (self : Fn) : SB :=
  (bTru (eCall self (aCons (eVar 3) (aCons (eVar 1) aNil))))
/-- holds: e 0, up 1, working 2, member 3 -/
def m_holds : Nat → Fn
  | 0 => fun _ _ => .bad
  | n + 1 => runB 4 (sSeq (sIf (bEx (eOp eqF (eOp ixF (eVar 0) (eC (.int 0))) (eC (.str "part"))))
    (sRet (eOp (inG false) (eOp ixF (eVar 0) (eC (.int 1))) (eVar 1)))
    sNext)
  (sSeq (sSet 2 (eCB sumA (aCons (eLc (iSeq (eOp ixF (eVar 0) (eUn negF (eC (.int 1))))) (.n 3) [3] (m_holds_t1 (m_holds n)) (m_holds_c1 (m_holds n))) aNil)))
  (sSeq (sIf (bEx (eOp eqF (eOp ixF (eVar 0) (eC (.int 0))) (eC (.str "all"))))
    (sRet (eOp eqF (eVar 2) (eCB lenF (aCons (eOp ixF (eVar 0) (eUn negF (eC (.int 1)))) aNil))))
    sNext)
  (sSeq (sIf (bEx (eOp eqF (eOp ixF (eVar 0) (eC (.int 0))) (eC (.str "any"))))
    (sRet (eOp gtF (eVar 2) (eC (.int 0))))
    sNext)
  (sRet (eOp geF (eVar 2) (eOp ixF (eVar 0) (eC (.int 1)))))))))
def m_works_c1 : SE :=
  (eCall m_is_name (aCons (eVar 2) aNil))
/-- works: e 0, up 1, name 2 -/
def m_works : Fn := runB 3
  (sSeq (sDrop (eCall m_look_2 (aCons (eVar 0) aNil)))
  (sSeq (sIf (bOr (bNot (bTru (eCall m_is_row (aCons (eVar 1) (aCons (eC (.int 0)) (aCons (eC (.int 30)) aNil)))))) (bNot (bTru (eCB allF (aCons (eLc (iSeq (eVar 1)) (.n 2) [2] (fun _ h => .ok true h) m_works_c1) aNil)))))
    (sRaise "BadValue" ["at"] (aCons (eC (.int 1)) aNil))
    sNext)
  (sRet (eCall (m_holds 24) (aCons (eVar 0) (aCons (eVar 1) aNil))))))
def m_law_parts_l1 (self : Fn) : SS :=
  (sIf (bEx (eOp (inG true) (eVar 3) (eVar 1)))
        (sDrop (eBM "list" appF (eVar 1) (aCons (eVar 3) aNil)))
        sNext)
def m_law_parts_l2 (self : Fn) : SS :=
  (sFor (iSeq (eCall self (aCons (eVar 2) aNil))) (.n 3)
      (m_law_parts_l1 self))
/-- _law_parts: e 0, made 1, one 2, name 3 -/
def m_law_parts : Nat → Fn
  | 0 => fun _ _ => .bad
  | n + 1 => runB 4 (sSeq (sIf (bEx (eOp eqF (eOp ixF (eVar 0) (eC (.int 0))) (eC (.str "part"))))
    (sRet (eLst (aCons (eOp ixF (eVar 0) (eC (.int 1))) aNil)))
    sNext)
  (sSeq (sSet 1 (eCell aNil))
  (sSeq (sFor (iSeq (eOp ixF (eVar 0) (eOp subF (eCB lenF (aCons (eVar 0) aNil)) (eC (.int 1))))) (.n 2)
    (m_law_parts_l2 (m_law_parts n)))
  (sRet (eCB sortF (aCons (eVar 1) aNil))))))
end Mp
namespace Mp
open PySem PySem.Spec PyProof.Rows L2
/-! ### mirrors: Set -/
def m_law_sets_c1 : SE :=
  (eOp addF (eVar 3) (eLst (aCons (eVar 2) aNil)))
def m_law_sets_l1 : SS :=
  (sSet 1 (eOp addF (eVar 1) (eLc (iSeq (eVar 1)) (.n 3) [3] (fun _ h => .ok true h) m_law_sets_c1)))
/-- _law_sets: names 0, made 1, name 2, one 3 -/
def m_law_sets : Fn := runB 4
  (sSeq (sSet 1 (eCell (aCons (eLst aNil) aNil)))
  (sSeq (sFor (iSeq (eVar 0)) (.n 2)
    m_law_sets_l1)
  (sRet (eVar 1))))
def m_law_others_c1 : SE :=
  (eVar 2)
def m_law_others_t1 : SB :=
  (bEx (eOp (inG true) (eVar 2) (eVar 1)))
/-- _law_others: names 0, some 1, name 2 -/
def m_law_others : Fn := runB 3
  (sRet (eLc (iSeq (eVar 0)) (.n 2) [2] m_law_others_t1 m_law_others_c1))
end Mp
namespace Mp
open PySem PySem.Spec PyProof.Rows L2
/-! ### mirrors: Chn -/
def m_law_chain_c1 : SE :=
  (eCall m_law_pick (aCons (eVar 0) (aCons (eVar 1) (aCons (eLst (aCons (eC (.int 0)) (aCons (eC (.int 0)) (aCons (eC (.int 0)) (aCons (eC (.int 1)) (aCons (eC (.int 1)) (aCons (eC (.int 2)) (aCons (eC (.int 9)) aNil)))))))) aNil))))
def m_law_chain_l1 : SS :=
  (sSeq (sSet 6 (eLcC (iRg1 (aCons (eVar 3) aNil)) (.n 7) [7] (fun _ h => .ok true h) m_law_chain_c1))
    (sSeq (sIf (bEx (eOp eqF (eCB sumA (aCons (eVar 6) aNil)) (eC (.int 0))))
      (sPut setF (eOp addF (eC (.int 1)) (eCall m_law_take (aCons (eVar 0) (aCons (eVar 1) (aCons (eC (.int 4)) aNil))))) (eVar 6) (eCall m_law_take (aCons (eVar 0) (aCons (eVar 1) (aCons (eVar 3) aNil)))))
      sNext)
    (sDrop (eBM "list" appF (eVar 4) (aCons (eCB tupleF (aCons (eVar 6) aNil)) aNil)))))
/-- _law_chain: row 0, spot 1, most 2, many 3, made 4, s 5, weights 6, j 7 -/
def m_law_chain : Fn := runB 8
  (sSeq (sSet 3 (eOp addF (eC (.int 1)) (eCall m_law_take (aCons (eVar 0) (aCons (eVar 1) (aCons (eVar 2) aNil))))))
  (sSeq (sSet 4 (eCell aNil))
  (sSeq (sFor (iRg1 (aCons (eVar 3) aNil)) (.n 5)
    m_law_chain_l1)
  (sRet (eCB tupleF (aCons (eVar 4) aNil))))))
def m_sure_c1 : SE :=
  (eIf (bEx (eOp eqF (eVar 2) (eVar 1))) (eTup (aCons (eC (.int 1)) (aCons (eC (.int 1)) aNil))) (eTup (aCons (eC (.int 0)) (aCons (eC (.int 1)) aNil))))
/-- sure: many 0, at 1, k 2 -/
def m_sure : Fn := runB 3
  (sRet (eCB tupleF (aCons (eLc (iRg1 (aCons (eVar 0) aNil)) (.n 2) [2] (fun _ h => .ok true h) m_sure_c1) aNil)))
def m_is_weights_c1 : SE :=
  (eCall m_is_within (aCons (eVar 2) (aCons (eC (.int 0)) (aCons (eC (.int 9)) aNil))))
/-- is_weights: row 0, many 1, weight 2 -/
def m_is_weights : Fn := runB 3
  (sSeq (sIf (bNot (bTru (eCall m_is_row (aCons (eVar 0) (aCons (eVar 1) (aCons (eVar 1) aNil))))))
    (sRet (eC (.bl false)))
    sNext)
  (sRet (eAnd (eCB allF (aCons (eLc (iSeq (eVar 0)) (.n 2) [2] (fun _ h => .ok true h) m_is_weights_c1) aNil)) (eOp gtF (eCB sumA (aCons (eVar 0) aNil)) (eC (.int 0))))))
def m_is_chain_c1 : SE :=
  (eCall m_is_weights (aCons (eVar 1) (aCons (eCB lenF (aCons (eVar 0) aNil)) aNil)))
/-- is_chain: chain 0, row 1 -/
def m_is_chain : Fn := runB 2
  (sSeq (sIf (bNot (bTru (eCall m_is_row (aCons (eVar 0) (aCons (eC (.int 1)) (aCons (eC (.int 6)) aNil))))))
    (sRet (eC (.bl false)))
    sNext)
  (sRet (eCB allF (aCons (eLc (iSeq (eVar 0)) (.n 1) [1] (fun _ h => .ok true h) m_is_chain_c1) aNil))))
def m_common_bottom_l1 : SS :=
  (sSet 1 (eCB lcmF (aCons (eVar 1) (aCons (eVar 2) aNil))))
/-- common_bottom: bottoms 0, common 1, bottom 2 -/
def m_common_bottom : Fn := runB 3
  (sSeq (sSet 1 (eC (.int 1)))
  (sSeq (sFor (iSeq (eVar 0)) (.n 2)
    m_common_bottom_l1)
  (sRet (eVar 1))))
def m_lifted_c1 : SE :=
  (eOp mulF (eOp ixF (eVar 4) (eC (.int 1))) (eCB sumA (aCons (eVar 5) aNil)))
def m_lifted_c2 : SE :=
  (eOp mulF (eOp ixF (eVar 4) (eC (.int 0))) (eOp fdivF (eVar 3) (eVar 6)))
/-- lifted: rows 0, shares 1, bottoms 2, common 3, share 4, row 5, bottom 6 -/
def m_lifted : Fn := runB 7
  (sSeq (sSet 2 (eLc (iZip (aCons (eVar 1) (aCons (eVar 0) aNil))) (.t ((.n 4) :: ((.n 5) :: []))) [4, 5] (fun _ h => .ok true h) m_lifted_c1))
  (sSeq (sSet 3 (eCall m_common_bottom (aCons (eVar 2) aNil)))
  (sRet (eTup (aCons (eLc (iZip (aCons (eVar 1) (aCons (eVar 2) aNil))) (.t ((.n 4) :: ((.n 6) :: []))) [4, 6] (fun _ h => .ok true h) m_lifted_c2) (aCons (eVar 3) aNil))))))
def m_spread_c1 : SE :=
  (eOp mulF (eVar 7) (eOp ixF (eVar 8) (eVar 5)))
def m_spread_l1 : SS :=
  (sSeq (sSet 6 (eCB sumA (aCons (eLc (iZip (aCons (eVar 2) (aCons (eVar 0) aNil))) (.t ((.n 7) :: ((.n 8) :: []))) [7, 8] (fun _ h => .ok true h) m_spread_c1) aNil)))
    (sDrop (eBM "list" appF (eVar 4) (aCons (eCall m_reduced (aCons (eVar 6) (aCons (eVar 3) aNil))) aNil))))
/-- spread: rows 0, shares 1, factors 2, common 3, found 4, at 5, top 6, factor 7, row 8 -/
def m_spread : Fn := runB 9
  (sSeq (sAsg (.t ((.n 2) :: ((.n 3) :: []))) (eCall m_lifted (aCons (eVar 0) (aCons (eVar 1) aNil))))
  (sSeq (sSet 4 (eCell aNil))
  (sSeq (sFor (iRg1 (aCons (eCB lenF (aCons (eOp ixF (eVar 0) (eC (.int 0))) aNil)) aNil)) (.n 5)
    m_spread_l1)
  (sRet (eCB tupleF (aCons (eVar 4) aNil))))))
def m_law_shares_c1 : SE :=
  (eCall (m_law_red 24) (aCons (eVar 2) (aCons (eCB sumA (aCons (eOp ixF (eVar 0) (eVar 1)) aNil)) aNil)))
/-- _law_shares: chain 0, s 1, one 2 -/
def m_law_shares : Fn := runB 3
  (sRet (eLc (iSeq (eOp ixF (eVar 0) (eVar 1))) (.n 2) [2] (fun _ h => .ok true h) m_law_shares_c1))
end Mp
namespace Mp
open PySem PySem.Spec PyProof.Rows L2
/-! ### mirrors: Mdl -/
def m_law_model_c1 : SE :=
  (eCall m_law_pick (aCons (eVar 0) (aCons (eVar 1) (aCons (eLst (aCons (eC (.int 0)) (aCons (eC (.int 0)) (aCons (eC (.int 1)) (aCons (eC (.int 1)) (aCons (eC (.int 2)) (aCons (eC (.int 3)) (aCons (eC (.int 9)) aNil)))))))) aNil))))
def m_law_model_l1 : SS :=
  (sSeq (sSet 8 (eLcC (iRg1 (aCons (eVar 3) aNil)) (.n 10) [10] (fun _ h => .ok true h) m_law_model_c1))
      (sSeq (sIf (bEx (eOp eqF (eOp ixF (eVar 8) (eC (.int 0))) (eC (.int 0))))
        (sPut setF (eOp addF (eC (.int 1)) (eCall m_law_take (aCons (eVar 0) (aCons (eVar 1) (aCons (eC (.int 3)) aNil))))) (eVar 8) (eC (.int 0)))
        sNext)
      (sSeq (sSet 9 (eCall m_law_pick (aCons (eVar 0) (aCons (eVar 1) (aCons (eLst (aCons (eC (.int 0)) (aCons (eC (.int 1)) (aCons (eC (.int 2)) (aCons (eC (.int 3)) (aCons (eC (.int 4)) (aCons (eC (.int 7)) (aCons (eC (.int 10)) (aCons (eC (.int 50)) (aCons (eC (.int 999)) (aCons (eC (.int 1000)) aNil))))))))))) aNil)))))
      (sDrop (eBM "list" appF (eVar 6) (aCons (eTup (aCons (eVar 9) (aCons (eCB tupleF (aCons (eVar 8) aNil)) aNil))) aNil))))))
def m_law_model_l2 : SS :=
  (sSeq (sSet 6 (eCell aNil))
    (sSeq (sFor (iRg1 (aCons (eOp addF (eC (.int 1)) (eCall m_law_take (aCons (eVar 0) (aCons (eVar 1) (aCons (eIf (bEx (eOp ltF (eVar 3) (eC (.int 4)))) (eC (.int 3)) (eC (.int 2))) aNil))))) aNil)) (.n 7)
      m_law_model_l1)
    (sDrop (eBM "list" appF (eVar 4) (aCons (eCB tupleF (aCons (eVar 6) aNil)) aNil)))))
/-- _law_model: row 0, spot 1, most 2, many 3, made 4, s 5, choices 6, k 7, weights 8, cost 9, j 10 -/
def m_law_model : Fn := runB 11
  (sSeq (sSet 3 (eOp addF (eC (.int 1)) (eCall m_law_take (aCons (eVar 0) (aCons (eVar 1) (aCons (eVar 2) aNil))))))
  (sSeq (sSet 4 (eCell aNil))
  (sSeq (sFor (iRg1 (aCons (eVar 3) aNil)) (.n 5)
    m_law_model_l2)
  (sRet (eCB tupleF (aCons (eVar 4) aNil))))))
def m_law_mean_l1 : SS :=
  (sSet 2 (eCall m_law_add (aCons (eVar 2) (aCons (eCall m_law_mul (aCons (eTup (aCons (eOp ixF (eVar 0) (eVar 3)) (aCons (eC (.int 1)) aNil))) (aCons (eOp ixF (eVar 1) (eVar 3)) aNil))) aNil))))
/-- _law_mean: weights 0, values 1, total 2, k 3 -/
def m_law_mean : Fn := runB 4
  (sSeq (sSet 2 (eTup (aCons (eC (.int 0)) (aCons (eC (.int 1)) aNil))))
  (sSeq (sFor (iRg1 (aCons (eCB lenF (aCons (eVar 0) aNil)) aNil)) (.n 3)
    m_law_mean_l1)
  (sRet (eCall m_law_div (aCons (eVar 2) (aCons (eTup (aCons (eCB sumA (aCons (eVar 0) aNil)) (aCons (eC (.int 1)) aNil))) aNil))))))
/-- _law_value: choice 0, nums 1 -/
def m_law_value : Fn := runB 2
  (sRet (eCall m_law_add (aCons (eTup (aCons (eOp ixF (eVar 0) (eC (.int 0))) (aCons (eC (.int 1)) aNil))) (aCons (eCall m_law_mean (aCons (eOp ixF (eVar 0) (eC (.int 1))) (aCons (eVar 1) aNil))) aNil))))
def m_law_firsts_l1 : SS :=
  (sIf (bTru (eCall m_law_less (aCons (eCall m_law_value (aCons (eOp ixF (eVar 3) (eVar 5)) (aCons (eVar 1) aNil))) (aCons (eCall m_law_value (aCons (eOp ixF (eVar 3) (eVar 4)) (aCons (eVar 1) aNil))) aNil))))
        (sSet 4 (eVar 5))
        sNext)
def m_law_firsts_l2 : SS :=
  (sSeq (sSet 4 (eC (.int 0)))
    (sSeq (sFor (iRg1 (aCons (eCB lenF (aCons (eVar 3) aNil)) aNil)) (.n 5)
      m_law_firsts_l1)
    (sDrop (eBM "list" appF (eVar 2) (aCons (eVar 4) aNil)))))
/-- _law_firsts: model 0, nums 1, made 2, choices 3, at 4, k 5 -/
def m_law_firsts : Fn := runB 6
  (sSeq (sSet 2 (eCell aNil))
  (sSeq (sFor (iSeq (eVar 0)) (.n 3)
    m_law_firsts_l2)
  (sRet (eCB tupleF (aCons (eVar 2) aNil)))))
def m_law_total_c1 : SE :=
  (eTup (aCons (eC (.int 0)) (aCons (eC (.int 1)) aNil)))
def m_law_total_c2 : SE :=
  (eCall m_law_value (aCons (eOp ixF (eOp ixF (eVar 0) (eVar 6)) (eOp ixF (eVar 4) (eVar 6))) (aCons (eVar 2) aNil)))
def m_law_total_l1 : SS :=
  (sSeq (sSet 4 (eCall m_law_firsts (aCons (eVar 0) (aCons (eVar 2) aNil))))
    (sSet 2 (eLc (iRg1 (aCons (eCB lenF (aCons (eVar 0) aNil)) aNil)) (.n 6) [6] (fun _ h => .ok true h) m_law_total_c2)))
/-- _law_total: model 0, days 1, values 2, k 3, firsts 4, one 5, s 6 -/
def m_law_total : Fn := runB 7
  (sSeq (sSet 2 (eLc (iSeq (eVar 0)) (.n 5) [5] (fun _ h => .ok true h) m_law_total_c1))
  (sSeq (sFor (iRg1 (aCons (eVar 1) aNil)) (.n 3)
    m_law_total_l1)
  (sRet (eVar 2))))
def m_is_choice_c1 : SE :=
  (eCall m_is_within (aCons (eVar 3) (aCons (eC (.int 0)) (aCons (eC (.int 9)) aNil))))
/-- is_choice: choice 0, many 1, weights 2, weight 3 -/
def m_is_choice : Fn := runB 4
  (sSeq (sIf (bOr (bNot (bTru (eCall m_is_row (aCons (eVar 0) (aCons (eC (.int 2)) (aCons (eC (.int 2)) aNil)))))) (bNot (bTru (eCall m_is_within (aCons (eOp ixF (eVar 0) (eC (.int 0))) (aCons (eC (.int 0)) (aCons (eC (.int 1000)) aNil)))))))
    (sRet (eC (.bl false)))
    sNext)
  (sSeq (sSet 2 (eOp ixF (eVar 0) (eC (.int 1))))
  (sSeq (sIf (bNot (bTru (eCall m_is_row (aCons (eVar 2) (aCons (eVar 1) (aCons (eVar 1) aNil))))))
    (sRet (eC (.bl false)))
    sNext)
  (sRet (eAnd (eCB allF (aCons (eLc (iSeq (eVar 2)) (.n 3) [3] (fun _ h => .ok true h) m_is_choice_c1) aNil)) (eOp geF (eOp ixF (eVar 2) (eC (.int 0))) (eC (.int 1))))))))
def m_is_state_c1 : SE :=
  (eCall m_is_choice (aCons (eVar 2) (aCons (eVar 1) aNil)))
/-- is_state: state 0, many 1, choice 2 -/
def m_is_state : Fn := runB 3
  (sRet (eAnd (eCall m_is_row (aCons (eVar 0) (aCons (eC (.int 1)) (aCons (eC (.int 3)) aNil)))) (eCB allF (aCons (eLc (iSeq (eVar 0)) (.n 2) [2] (fun _ h => .ok true h) m_is_state_c1) aNil))))
def m_is_model_c1 : SE :=
  (eCall m_is_state (aCons (eVar 1) (aCons (eCB lenF (aCons (eVar 0) aNil)) aNil)))
/-- is_model: model 0, state 1 -/
def m_is_model : Fn := runB 2
  (sSeq (sIf (bNot (bTru (eCall m_is_row (aCons (eVar 0) (aCons (eC (.int 1)) (aCons (eC (.int 5)) aNil))))))
    (sRet (eC (.bl false)))
    sNext)
  (sRet (eCB allF (aCons (eLc (iSeq (eVar 0)) (.n 1) [1] (fun _ h => .ok true h) m_is_model_c1) aNil))))
def m_mean_c1 : SE :=
  (eVar 5)
def m_mean_c2 : SE :=
  (eOp mulF (eVar 6) (eOp fdivF (eVar 2) (eVar 5)))
def m_mean_c3 : SE :=
  (eOp mulF (eVar 7) (eVar 6))
/-- mean: weights 0, fractions 1, common 2, tops 3, _ 4, bottom 5, top 6, weight 7 -/
def m_mean : Fn := runB 8
  (sSeq (sSet 2 (eCall m_common_bottom (aCons (eLc (iSeq (eVar 1)) (.t ((.n 4) :: ((.n 5) :: []))) [4, 5] (fun _ h => .ok true h) m_mean_c1) aNil)))
  (sSeq (sSet 3 (eLc (iSeq (eVar 1)) (.t ((.n 6) :: ((.n 5) :: []))) [6, 5] (fun _ h => .ok true h) m_mean_c2))
  (sRet (eCall m_reduced (aCons (eCB sumA (aCons (eLc (iZip (aCons (eVar 0) (aCons (eVar 3) aNil))) (.t ((.n 7) :: ((.n 6) :: []))) [7, 6] (fun _ h => .ok true h) m_mean_c3) aNil)) (aCons (eOp mulF (eCB sumA (aCons (eVar 0) aNil)) (eVar 2)) aNil))))))
def m_sums_ahead_c1 : SE :=
  (eCall m_plus (aCons (eTup (aCons (eVar 2) (aCons (eC (.int 1)) aNil))) (aCons (eCall m_mean (aCons (eVar 3) (aCons (eVar 1) aNil))) aNil)))
/-- sums_ahead: choices 0, numbers 1, cost 2, weights 3 -/
def m_sums_ahead : Fn := runB 4
  (sRet (eLc (iSeq (eVar 0)) (.t ((.n 2) :: ((.n 3) :: []))) [2, 3] (fun _ h => .ok true h) m_sums_ahead_c1))
def m_first_least_l1 : SS :=
  (sIf (bTru (eCall m_less (aCons (eOp ixF (eVar 0) (eVar 2)) (aCons (eOp ixF (eVar 0) (eVar 1)) aNil))))
      (sSet 1 (eVar 2))
      sNext)
/-- first_least: fractions 0, found 1, at 2 -/
def m_first_least : Fn := runB 3
  (sSeq (sSet 1 (eC (.int 0)))
  (sSeq (sFor (iRg2 (aCons (eC (.int 1)) (aCons (eCB lenF (aCons (eVar 0) aNil)) aNil))) (.n 2)
    m_first_least_l1)
  (sRet (eVar 1))))
def m_least_ahead_l1 : SS :=
  (sSeq (sSet 4 (eCall m_sums_ahead (aCons (eVar 3) (aCons (eVar 1) aNil))))
    (sDrop (eBM "list" appF (eVar 2) (aCons (eOp ixF (eVar 4) (eCall m_first_least (aCons (eVar 4) aNil))) aNil))))
/-- least_ahead: model 0, totals 1, found 2, choices 3, sums 4 -/
def m_least_ahead : Fn := runB 5
  (sSeq (sSet 2 (eCell aNil))
  (sSeq (sFor (iSeq (eVar 0)) (.n 3)
    m_least_ahead_l1)
  (sRet (eVar 2))))
def m_least_total_l1 : SS :=
  (sSet 3 (eCall m_least_ahead (aCons (eVar 0) (aCons (eVar 3) aNil))))
/-- least_total: model 0, days 1, start 2, totals 3, _ 4 -/
def m_least_total : Fn := runB 5
  (sSeq (sIf (bNot (bTru (eCall m_is_model (aCons (eVar 0) aNil))))
    (sRaise "BadValue" ["at"] (aCons (eC (.int 0)) aNil))
    sNext)
  (sSeq (sIf (bNot (bTru (eCall m_is_within (aCons (eVar 1) (aCons (eC (.int 0)) (aCons (eC (.int 20)) aNil))))))
    (sRaise "BadValue" ["at"] (aCons (eC (.int 1)) aNil))
    sNext)
  (sSeq (sIf (bOr (bNot (bTru (eCall m_is_integer (aCons (eVar 2) aNil)))) (bOr (bEx (eOp ltF (eVar 2) (eC (.int 0)))) (bEx (eOp geF (eVar 2) (eCB lenF (aCons (eVar 0) aNil))))))
    (sRaise "BadValue" ["at"] (aCons (eC (.int 2)) aNil))
    sNext)
  (sSeq (sSet 3 (eOp mulF (eLst (aCons (eTup (aCons (eC (.int 0)) (aCons (eC (.int 1)) aNil))) aNil)) (eCB lenF (aCons (eVar 0) aNil))))
  (sSeq (sFor (iRg1 (aCons (eVar 1) aNil)) (.n 4)
    m_least_total_l1)
  (sRet (eOp ixF (eVar 3) (eVar 2))))))))
end Mp
namespace Mp
open PySem PySem.Spec PyProof.Rows L2
/-! ### mirrors: Rid -/
def m_law_ways_c1 : SE :=
  (eIf (bEx (eOp eqF (eVar 5) (eVar 4))) (eC (.int 0)) (eCall m_law_pick (aCons (eVar 0) (aCons (eVar 1) (aCons (eLst (aCons (eC (.int 0)) (aCons (eC (.int 1)) (aCons (eC (.int 2)) (aCons (eC (.int 5)) (aCons (eC (.int 5)) (aCons (eC (.int 9)) (aCons (eC (.int 20)) (aCons (eC (.int 99)) aNil))))))))) aNil)))))
def m_law_ways_l1 : SS :=
  (sDrop (eBM "list" appF (eVar 3) (aCons (eCB tupleF (aCons (eLc (iRg1 (aCons (eVar 2) aNil)) (.n 5) [5] (fun _ h => .ok true h) m_law_ways_c1) aNil)) aNil)))
/-- _law_ways: row 0, spot 1, many 2, made 3, k 4, j 5 -/
def m_law_ways : Fn := runB 6
  (sSeq (sSet 3 (eCell aNil))
  (sSeq (sFor (iRg1 (aCons (eVar 2) aNil)) (.n 4)
    m_law_ways_l1)
  (sRet (eCB tupleF (aCons (eVar 3) aNil)))))
def m_law_stops_c1 : SE :=
  (eVar 6)
def m_law_stops_c2 : SE :=
  (eVar 10)
def m_law_stops_t1 : SB :=
  (bEx (eOp neF (eVar 10) (eVar 7)))
def m_law_stops_l1 : SS :=
  (sSeq (sSet 7 (eCall m_law_pick (aCons (eVar 0) (aCons (eVar 1) (aCons (eVar 4) aNil)))))
    (sSeq (sSet 4 (eLc (iSeq (eVar 4)) (.n 10) [10] m_law_stops_t1 m_law_stops_c2))
    (sSeq (sSet 8 (eCall m_law_pick (aCons (eVar 0) (aCons (eVar 1) (aCons (eLst (aCons (eC (.int 0)) (aCons (eC (.int 0)) (aCons (eC (.int 3)) (aCons (eC (.int 10)) (aCons (eC (.int 50)) (aCons (eC (.int 300)) aNil))))))) aNil)))))
    (sSeq (sSet 9 (eCB minF (aCons (eC (.int 1000)) (aCons (eOp addF (eVar 8) (eCall m_law_pick (aCons (eVar 0) (aCons (eVar 1) (aCons (eLst (aCons (eC (.int 0)) (aCons (eC (.int 5)) (aCons (eC (.int 15)) (aCons (eC (.int 40)) (aCons (eC (.int 1000)) aNil)))))) aNil))))) aNil))))
    (sDrop (eBM "list" appF (eVar 5) (aCons (eTup (aCons (eVar 7) (aCons (eVar 8) (aCons (eVar 9) (aCons (eCall m_law_pick (aCons (eVar 0) (aCons (eVar 1) (aCons (eLst (aCons (eC (.int 0)) (aCons (eC (.int 0)) (aCons (eC (.int 1)) (aCons (eC (.int 7)) (aCons (eC (.int 100)) aNil)))))) aNil)))) aNil))))) aNil)))))))
/-- _law_stops: row 0, spot 1, many 2, count 3, places 4, made 5, k 6, place 7, first 8, last 9, one 10 -/
def m_law_stops : Fn := runB 11
  (sSeq (sSet 4 (eLc (iRg2 (aCons (eC (.int 1)) (aCons (eVar 2) aNil))) (.n 6) [6] (fun _ h => .ok true h) m_law_stops_c1))
  (sSeq (sSet 5 (eCell aNil))
  (sSeq (sFor (iRg1 (aCons (eVar 3) aNil)) (.n 6)
    m_law_stops_l1)
  (sRet (eCB tupleF (aCons (eVar 5) aNil))))))
def m_law_drive_c1 : SE :=
  (eVar 9)
def m_law_drive_t1 : SB :=
  (bEx (eOp eqF (eOp ixF (eVar 9) (eC (.int 0))) (eVar 7)))
def m_law_drive_l1 : SS :=
  (sSeq (sSet 8 (eOp ixF (eLc (iSeq (eVar 1)) (.n 9) [9] m_law_drive_t1 m_law_drive_c1) (eC (.int 0))))
    (sSeq (sSet 4 (eOp addF (eVar 4) (eOp ixF (eOp ixF (eVar 0) (eVar 5)) (eVar 7))))
    (sSeq (sDrop (eBM "list" appF (eVar 6) (aCons (eVar 4) aNil)))
    (sSeq (sIf (bEx (eOp gtF (eVar 4) (eOp ixF (eVar 8) (eC (.int 2)))))
      (sRet (eC .non))
      sNext)
    (sSeq (sSet 4 (eOp addF (eCB maxF (aCons (eVar 4) (aCons (eOp ixF (eVar 8) (eC (.int 1))) aNil))) (eOp ixF (eVar 8) (eC (.int 3)))))
    (sSet 5 (eVar 7)))))))
/-- _law_drive: ways 0, stops 1, order 2, start 3, minute 4, place 5, made 6, one 7, stop 8, some 9 -/
def m_law_drive : Fn := runB 10
  (sSeq (sSet 4 (eVar 3))
  (sSeq (sSet 5 (eC (.int 0)))
  (sSeq (sSet 6 (eCell aNil))
  (sSeq (sFor (iSeq (eVar 2)) (.n 7)
    m_law_drive_l1)
  (sRet (eTup (aCons (eOp addF (eVar 4) (eOp ixF (eOp ixF (eVar 0) (eVar 5)) (eC (.int 0)))) (aCons (eCB tupleF (aCons (eVar 6) aNil)) aNil))))))))
def m_law_latest_c1 : SE :=
  (eVar 7)
def m_law_latest_t1 : SB :=
  (bEx (eOp eqF (eOp ixF (eVar 7) (eC (.int 0))) (eOp ixF (eVar 2) (eVar 5))))
def m_law_latest_l1 : SS :=
  (sSeq (sSet 5 (eOp subF (eOp subF (eCB lenF (aCons (eVar 2) aNil)) (eC (.int 1))) (eVar 4)))
    (sSeq (sSet 6 (eOp ixF (eLc (iSeq (eVar 1)) (.n 7) [7] m_law_latest_t1 m_law_latest_c1) (eC (.int 0))))
    (sSeq (sIf (bEx (eOp gtF (eOp addF (eOp ixF (eVar 6) (eC (.int 1))) (eOp ixF (eVar 6) (eC (.int 3)))) (eVar 3)))
      (sRet (eC .non))
      sNext)
    (sSet 3 (eOp subF (eCB minF (aCons (eOp ixF (eVar 6) (eC (.int 2))) (aCons (eOp subF (eVar 3) (eOp ixF (eVar 6) (eC (.int 3)))) aNil))) (eOp ixF (eOp ixF (eVar 0) (eIf (bEx (eOp gtF (eVar 5) (eC (.int 0)))) (eOp ixF (eVar 2) (eOp subF (eVar 5) (eC (.int 1)))) (eC (.int 0)))) (eOp ixF (eVar 2) (eVar 5))))))))
/-- _law_latest: ways 0, stops 1, order 2, free 3, k 4, j 5, stop 6, some 7 -/
def m_law_latest : Fn := runB 8
  (sSeq (sSet 3 (eOp powF (eC (.int 10)) (eC (.int 6))))
  (sSeq (sFor (iRg1 (aCons (eCB lenF (aCons (eVar 2) aNil)) aNil)) (.n 4)
    m_law_latest_l1)
  (sSeq (sIf (bEx (eOp ltF (eVar 3) (eC (.int 0))))
    (sRet (eC .non))
    sNext)
  (sRet (eCB minF (aCons (eC (.int 1000)) (aCons (eVar 3) aNil)))))))
def m_is_ways_c1 : SE :=
  (eCall m_is_within (aCons (eVar 3) (aCons (eC (.int 0)) (aCons (eC (.int 99)) aNil))))
def m_is_ways_l1 : SS :=
  (sSeq (sIf (bNot (bTru (eCall m_is_row (aCons (eVar 2) (aCons (eCB lenF (aCons (eVar 0) aNil)) (aCons (eCB lenF (aCons (eVar 0) aNil)) aNil))))))
      (sRet (eC (.bl false)))
      sNext)
    (sIf (bOr (bNot (bTru (eCB allF (aCons (eLc (iSeq (eVar 2)) (.n 3) [3] (fun _ h => .ok true h) m_is_ways_c1) aNil)))) (bEx (eOp neF (eOp ixF (eVar 2) (eVar 1)) (eC (.int 0)))))
      (sRet (eC (.bl false)))
      sNext))
/-- is_ways: ways 0, place 1, row 2, way 3 -/
def m_is_ways : Fn := runB 4
  (sSeq (sIf (bNot (bTru (eCall m_is_row (aCons (eVar 0) (aCons (eC (.int 2)) (aCons (eC (.int 7)) aNil))))))
    (sRet (eC (.bl false)))
    sNext)
  (sSeq (sFor (iEnu (aCons (eVar 0) aNil)) (.t ((.n 1) :: ((.n 2) :: [])))
    m_is_ways_l1)
  (sRet (eC (.bl true)))))
def m_all_different_l1 : SS :=
  (sSeq (sIf (bEx (eOp (dinF false) (eVar 2) (eVar 1)))
      (sRet (eC (.bl false)))
      sNext)
    (sPut putF (eC (.bl true)) (eVar 1) (eVar 2)))
/-- all_different: row 0, seen 1, x 2 -/
def m_all_different : Fn := runB 3
  (sSeq (sSet 1 eDct0)
  (sSeq (sFor (iSeq (eVar 0)) (.n 2)
    m_all_different_l1)
  (sRet (eC (.bl true)))))
/-- is_stop: stop 0 -/
def m_is_stop : Fn := runB 1
  (sSeq (sIf (bOr (bNot (bTru (eCall m_is_row (aCons (eVar 0) (aCons (eC (.int 4)) (aCons (eC (.int 4)) aNil)))))) (bOr (bNot (bTru (eCall m_is_integer (aCons (eOp ixF (eVar 0) (eC (.int 0))) aNil)))) (bEx (eOp ltF (eOp ixF (eVar 0) (eC (.int 0))) (eC (.int 1))))))
    (sRet (eC (.bl false)))
    sNext)
  (sSeq (sIf (bOr (bNot (bTru (eCall m_is_within (aCons (eOp ixF (eVar 0) (eC (.int 1))) (aCons (eC (.int 0)) (aCons (eC (.int 1000)) aNil)))))) (bNot (bTru (eCall m_is_within (aCons (eOp ixF (eVar 0) (eC (.int 2))) (aCons (eC (.int 0)) (aCons (eC (.int 1000)) aNil)))))))
    (sRet (eC (.bl false)))
    sNext)
  (sRet (eAnd (eOp leF (eOp ixF (eVar 0) (eC (.int 1))) (eOp ixF (eVar 0) (eC (.int 2)))) (eCall m_is_within (aCons (eOp ixF (eVar 0) (eC (.int 3))) (aCons (eC (.int 0)) (aCons (eC (.int 100)) aNil))))))))
def m_is_stops_c1 : SE :=
  (eCall m_is_stop (aCons (eVar 1) aNil))
def m_is_stops_c2 : SE :=
  (eOp ixF (eVar 1) (eC (.int 0)))
/-- is_stops: stops 0, stop 1 -/
def m_is_stops : Fn := runB 2
  (sSeq (sIf (bOr (bNot (bTru (eCall m_is_row (aCons (eVar 0) (aCons (eC (.int 0)) (aCons (eC (.int 6)) aNil)))))) (bNot (bTru (eCB allF (aCons (eLc (iSeq (eVar 0)) (.n 1) [1] (fun _ h => .ok true h) m_is_stops_c1) aNil)))))
    (sRet (eC (.bl false)))
    sNext)
  (sRet (eCall m_all_different (aCons (eLc (iSeq (eVar 0)) (.n 1) [1] (fun _ h => .ok true h) m_is_stops_c2) aNil))))
/-- check_alone: ways 0, stops 1 -/
def m_check_alone : Fn := runB 2
  (sSeq (sIf (bNot (bTru (eCall m_is_ways (aCons (eVar 0) aNil))))
    (sRaise "BadValue" ["at"] (aCons (eC (.int 0)) aNil))
    sNext)
  (sIf (bNot (bTru (eCall m_is_stops (aCons (eVar 1) aNil))))
    (sRaise "BadValue" ["at"] (aCons (eC (.int 1)) aNil))
    sNext))
def m_check_places_l1 : SS :=
  (sIf (bEx (eOp geF (eOp ixF (eVar 2) (eC (.int 0))) (eCB lenF (aCons (eVar 0) aNil))))
      (sRaise "BadValue" ["at"] (aCons (eC (.int 1)) aNil))
      sNext)
/-- check_places: ways 0, stops 1, stop 2 -/
def m_check_places : Fn := runB 3
  (sFor (iSeq (eVar 1)) (.n 2)
    m_check_places_l1)
def m_is_order_c1 : SE :=
  (eAnd (eCall m_is_integer (aCons (eVar 1) aNil)) (eOp geF (eVar 1) (eC (.int 0))))
/-- is_order: order 0, place 1 -/
def m_is_order : Fn := runB 2
  (sRet (eAnd (eCall m_is_sequence (aCons (eVar 0) aNil)) (eCB allF (aCons (eLc (iSeq (eVar 0)) (.n 1) [1] (fun _ h => .ok true h) m_is_order_c1) aNil))))
def m_places_of_c1 : SE :=
  (eOp ixF (eVar 1) (eC (.int 0)))
/-- places_of: stops 0, stop 1 -/
def m_places_of : Fn := runB 2
  (sRet (eCB sortF (aCons (eLc (iSeq (eVar 0)) (.n 1) [1] (fun _ h => .ok true h) m_places_of_c1) aNil)))
/-- check_order: ways 0, stops 1, order 2 -/
def m_check_order : Fn := runB 3
  (sSeq (sDrop (eCall m_check_alone (aCons (eVar 0) (aCons (eVar 1) aNil))))
  (sSeq (sIf (bNot (bTru (eCall m_is_order (aCons (eVar 2) aNil))))
    (sRaise "BadValue" ["at"] (aCons (eC (.int 2)) aNil))
    sNext)
  (sSeq (sDrop (eCall m_check_places (aCons (eVar 0) (aCons (eVar 1) aNil))))
  (sIf (bEx (eOp neF (eCB sortF (aCons (eVar 2) aNil)) (eCall m_places_of (aCons (eVar 1) aNil))))
    (sRaise "BadValue" ["at"] (aCons (eC (.int 2)) aNil))
    sNext))))
def m_row_of_k1 : SE :=
  (eOp ixF (eVar 3) (eC (.int 0)))
def m_row_of_v1 : SE :=
  (eVar 3)
def m_row_of_c1 : SE :=
  (eOp dgF (eVar 2) (eVar 4))
/-- row_of: stops 0, order 1, table 2, stop 3, place 4 -/
def m_row_of : Fn := runB 5
  (sSeq (sSet 2 (eDc (iSeq (eVar 0)) (.n 3) [3] (fun _ h => .ok true h) m_row_of_k1 m_row_of_v1))
  (sRet (eLc (iSeq (eVar 1)) (.n 4) [4] (fun _ h => .ok true h) m_row_of_c1)))
/-- leaving: stop 0, minute 1, _ 2, first 3, last 4, stay 5 -/
def m_leaving : Fn := runB 6
  (sSeq (sAsg (.t ((.n 2) :: ((.n 3) :: ((.n 4) :: ((.n 5) :: []))))) (eVar 0))
  (sSeq (sIf (bEx (eOp gtF (eVar 1) (eVar 4)))
    (sRet (eC .non))
    sNext)
  (sRet (eOp addF (eCB maxF (aCons (eVar 1) (aCons (eVar 3) aNil))) (eVar 5)))))
def m_arrivals_l1 : SS :=
  (sSeq (sSet 7 (eOp addF (eVar 4) (eOp ixF (eOp ixF (eVar 0) (eVar 3)) (eOp ixF (eVar 6) (eC (.int 0))))))
    (sSeq (sDrop (eBM "list" appF (eVar 5) (aCons (eVar 7) aNil)))
    (sSeq (sPar 3 4 (aCons (eOp ixF (eVar 6) (eC (.int 0))) (aCons (eCall m_leaving (aCons (eVar 6) (aCons (eVar 7) aNil))) aNil)))
    (sIf (bEx (eOp isnF (eVar 4) (eC .non)))
      (sRet (eC .non))
      sNext))))
/-- arrivals: ways 0, stops 1, order 2, place 3, minute 4, found 5, stop 6, come 7 -/
def m_arrivals : Fn := runB 8
  (sSeq (sDrop (eCall m_check_order (aCons (eVar 0) (aCons (eVar 1) (aCons (eVar 2) aNil)))))
  (sSeq (sAsg (.t ((.n 3) :: ((.n 4) :: []))) (eTup (aCons (eC (.int 0)) (aCons (eC (.int 0)) aNil))))
  (sSeq (sSet 5 (eCell aNil))
  (sSeq (sFor (iSeq (eCall m_row_of (aCons (eVar 1) (aCons (eVar 2) aNil)))) (.n 6)
    m_arrivals_l1)
  (sRet (eCB tupleF (aCons (eVar 5) aNil)))))))
/-- coming: stop 0, until 1, _ 2, first 3, last 4, stay 5 -/
def m_coming : Fn := runB 6
  (sSeq (sAsg (.t ((.n 2) :: ((.n 3) :: ((.n 4) :: ((.n 5) :: []))))) (eVar 0))
  (sSeq (sIf (bEx (eOp gtF (eOp addF (eVar 3) (eVar 5)) (eVar 1)))
    (sRet (eC .non))
    sNext)
  (sRet (eCB minF (aCons (eVar 4) (aCons (eOp subF (eVar 1) (eVar 5)) aNil))))))
def m_latest_l1 : SS :=
  (sSeq (sSet 6 (eCall m_coming (aCons (eOp ixF (eVar 3) (eVar 5)) (aCons (eVar 4) aNil))))
    (sSeq (sIf (bEx (eOp isnF (eVar 6) (eC .non)))
      (sRet (eC .non))
      sNext)
    (sSeq (sSet 7 (eIf (bEx (eOp gtF (eVar 5) (eC (.int 0)))) (eOp ixF (eOp ixF (eVar 3) (eOp subF (eVar 5) (eC (.int 1)))) (eC (.int 0))) (eC (.int 0))))
    (sSet 4 (eOp subF (eVar 6) (eOp ixF (eOp ixF (eVar 0) (eVar 7)) (eOp ixF (eOp ixF (eVar 3) (eVar 5)) (eC (.int 0)))))))))
/-- latest: ways 0, stops 1, order 2, row 3, until 4, k 5, come 6, ahead 7 -/
def m_latest : Fn := runB 8
  (sSeq (sDrop (eCall m_check_order (aCons (eVar 0) (aCons (eVar 1) (aCons (eVar 2) aNil)))))
  (sSeq (sSet 3 (eCall m_row_of (aCons (eVar 1) (aCons (eVar 2) aNil))))
  (sSeq (sSet 4 (eC (.int 1000000)))
  (sSeq (sFor (iRg3 (aCons (eOp subF (eCB lenF (aCons (eVar 3) aNil)) (eC (.int 1))) (aCons (eUn negF (eC (.int 1))) (aCons (eUn negF (eC (.int 1))) aNil)))) (.n 5)
    m_latest_l1)
  (sSeq (sIf (bEx (eOp ltF (eVar 4) (eC (.int 0))))
    (sRet (eC .non))
    sNext)
  (sRet (eCB minF (aCons (eVar 4) (aCons (eC (.int 1000)) aNil)))))))))
end Mp
namespace Mp
open PySem PySem.Spec PyProof.Rows L2
/-! ### mirrors: Tab -/
def m_enough_l1 : SS :=
  (sPut setF (eOp borF (eOp ixF (eVar 3) (eVar 5)) (eOp bandF (eOp ixF (eVar 3) (eOp subF (eVar 5) (eC (.int 1)))) (eVar 4))) (eVar 3) (eVar 5))
def m_enough_l2 : SS :=
  (sFor (iRg3 (aCons (eVar 1) (aCons (eC (.int 0)) (aCons (eUn negF (eC (.int 1))) aNil)))) (.n 5)
      m_enough_l1)
/-- enough: tables 0, least 1, whole 2, reached 3, one 4, j 5 -/
def m_enough : Fn := runB 6
  (sSeq (sSet 3 (eOp addC (eLst (aCons (eVar 2) aNil)) (eOp mulF (eLst (aCons (eC (.int 0)) aNil)) (eVar 1))))
  (sSeq (sFor (iSeq (eVar 0)) (.n 4)
    m_enough_l2)
  (sRet (eOp ixF (eVar 3) (eVar 1)))))
def m_joined_c1 (self : Fn) : SE :=
  (eCall self (aCons (eVar 6) (aCons (eVar 1) (aCons (eVar 2) aNil))))
def m_joined_l1 (self : Fn) : SS :=
  (sSet 4 (eOp bandF (eVar 4) (eVar 5)))
def m_joined_l2 (self : Fn) : SS :=
  (sSet 4 (eOp borF (eVar 4) (eVar 5)))
/-- joined: e 0, columns 1, whole 2, tables 3, told 4, one 5, member 6 -/
def m_joined : Nat → Fn
  | 0 => fun _ _ => .bad
  | n + 1 => runB 7 (sSeq (sIf (bEx (eOp eqF (eOp ixF (eVar 0) (eC (.int 0))) (eC (.str "part"))))
    (sRet (eOp dgF (eVar 1) (eOp ixF (eVar 0) (eC (.int 1)))))
    sNext)
  (sSeq (sSet 3 (eLc (iSeq (eOp ixF (eVar 0) (eUn negF (eC (.int 1))))) (.n 6) [6] (fun _ h => .ok true h) (m_joined_c1 (m_joined n))))
  (sSeq (sIf (bEx (eOp eqF (eOp ixF (eVar 0) (eC (.int 0))) (eC (.str "some"))))
    (sRet (eCall m_enough (aCons (eVar 3) (aCons (eOp ixF (eVar 0) (eC (.int 1))) (aCons (eVar 2) aNil)))))
    sNext)
  (sSeq (sIf (bEx (eOp eqF (eOp ixF (eVar 0) (eC (.int 0))) (eC (.str "all"))))
    (sSeq (sSet 4 (eVar 2))
    (sSeq (sFor (iSeq (eVar 3)) (.n 5)
      (m_joined_l1 (m_joined n)))
    (sRet (eVar 4))))
    sNext)
  (sSeq (sSet 4 (eC (.int 0)))
  (sSeq (sFor (iSeq (eVar 3)) (.n 5)
    (m_joined_l2 (m_joined n)))
  (sRet (eVar 4))))))))
/-- everywhere: count 0 -/
def m_everywhere : Fn := runB 1
  (sRet (eOp subF (eOp shlF (eC (.int 1)) (eOp shlF (eC (.int 1)) (eVar 0))) (eC (.int 1))))
/-- column: place 0, count 1, run 2 -/
def m_column : Fn := runB 3
  (sSeq (sSet 2 (eOp shlF (eC (.int 1)) (eVar 0)))
  (sRet (eOp shlF (eOp fdivF (eCall m_everywhere (aCons (eVar 1) aNil)) (eOp addF (eOp shlF (eC (.int 1)) (eVar 2)) (eC (.int 1)))) (eVar 2))))
def m_table_k1 : SE :=
  (eVar 5)
def m_table_v1 : SE :=
  (eCall m_column (aCons (eVar 4) (aCons (eVar 2) aNil)))
/-- table: e 0, names 1, count 2, columns 3, k 4, name 5 -/
def m_table : Fn := runB 6
  (sSeq (sSet 2 (eCB lenF (aCons (eVar 1) aNil)))
  (sSeq (sSet 3 (eDc (iEnu (aCons (eVar 1) aNil)) (.t ((.n 4) :: ((.n 5) :: []))) [4, 5] (fun _ h => .ok true h) m_table_k1 m_table_v1))
  (sRet (eCall (m_joined 24) (aCons (eVar 0) (aCons (eVar 3) (aCons (eCall m_everywhere (aCons (eVar 2) aNil)) aNil)))))))
end Mp
namespace Mp
open PySem PySem.Spec PyProof.Rows L2
/-! ### mirrors: Job -/
def m_law_jobs_l1 : SS :=
  (sSeq (sSet 7 (eCall m_law_take (aCons (eVar 0) (aCons (eVar 1) (aCons (eVar 3) aNil)))))
    (sSeq (sSet 8 (eCB minF (aCons (eC (.int 30)) (aCons (eOp addF (eVar 7) (eCall m_law_pick (aCons (eVar 0) (aCons (eVar 1) (aCons (eLst (aCons (eC (.int 0)) (aCons (eC (.int 0)) (aCons (eC (.int 1)) (aCons (eC (.int 1)) (aCons (eC (.int 2)) (aCons (eC (.int 4)) (aCons (eVar 3) aNil)))))))) aNil))))) aNil))))
    (sDrop (eBM "list" appF (eVar 5) (aCons (eTup (aCons (eCall m_law_name (aCons (eVar 0) (aCons (eVar 1) (aCons (eVar 4) aNil)))) (aCons (eVar 7) (aCons (eVar 8) aNil)))) aNil)))))
/-- _law_jobs: row 0, spot 1, many 2, wide 3, used 4, made 5, k 6, first 7, last 8 -/
def m_law_jobs : Fn := runB 9
  (sSeq (sSet 4 (eCell aNil))
  (sSeq (sSet 5 (eCell aNil))
  (sSeq (sFor (iRg1 (aCons (eVar 2) aNil)) (.n 6)
    m_law_jobs_l1)
  (sRet (eCB tupleF (aCons (eVar 5) aNil))))))
def m_law_closed_c1 : SE :=
  (eVar 4)
def m_law_closed_t1 : SB :=
  (bEx (eOp eqF (eCall m_law_take (aCons (eVar 0) (aCons (eVar 1) (aCons (eC (.int 5)) aNil)))) (eC (.int 0))))
/-- _law_closed: row 0, spot 1, wide 2, made 3, day 4 -/
def m_law_closed : Fn := runB 5
  (sSeq (sSet 3 (eLc (iRg1 (aCons (eOp addF (eVar 2) (eC (.int 3))) aNil)) (.n 4) [4] m_law_closed_t1 m_law_closed_c1))
  (sSeq (sIf (bEx (eOp eqF (eCall m_law_take (aCons (eVar 0) (aCons (eVar 1) (aCons (eC (.int 3)) aNil)))) (eC (.int 0))))
    (sSet 3 (eOp addF (eSl slF (eVar 3) none (some (eC (.int 10)))) (eSl slF (eVar 3) none (some (eC (.int 5))))))
    sNext)
  (sRet (eCB tupleF (aCons (eVar 3) aNil)))))
def m_law_crowded_c1 : SE :=
  (eVar 6)
def m_law_crowded_t1 : SB :=
  (bAnd (bEx (eOp geF (eOp ixF (eVar 6) (eC (.int 1))) (eVar 3))) (bEx (eOp leF (eOp ixF (eVar 6) (eC (.int 2))) (eVar 4))))
def m_law_crowded_c2 : SE :=
  (eVar 7)
def m_law_crowded_t2 : SB :=
  (bEx (eOp (inG true) (eVar 7) (eVar 2)))
def m_law_crowded_l1 : SS :=
  (sSeq (sSet 5 (eCB lenF (aCons (eLc (iSeq (eVar 0)) (.n 6) [6] m_law_crowded_t1 m_law_crowded_c1) aNil)))
      (sIf (bAnd (bEx (eOp gtF (eVar 5) (eC (.int 0)))) (bEx (eOp gtF (eVar 5) (eOp mulF (eVar 1) (eCB lenF (aCons (eLc (iRg2 (aCons (eVar 3) (aCons (eOp addF (eVar 4) (eC (.int 1))) aNil))) (.n 7) [7] m_law_crowded_t2 m_law_crowded_c2) aNil))))))
        (sRet (eTup (aCons (eVar 3) (aCons (eVar 4) aNil))))
        sNext))
def m_law_crowded_l2 : SS :=
  (sFor (iRg2 (aCons (eVar 3) (aCons (eC (.int 31)) aNil))) (.n 4)
      m_law_crowded_l1)
/-- _law_crowded: jobs 0, crews 1, closed 2, first 3, last 4, many 5, job 6, day 7 -/
def m_law_crowded : Fn := runB 8
  (sSeq (sFor (iRg1 (aCons (eC (.int 31)) aNil)) (.n 3)
    m_law_crowded_l2)
  (sRet (eC .non)))
/-- is_triple: row 0 -/
def m_is_triple : Fn := runB 1
  (sSeq (sIf (bOr (bNot (bTru (eCall m_is_row (aCons (eVar 0) (aCons (eC (.int 3)) (aCons (eC (.int 3)) aNil)))))) (bNot (bTru (eCall m_is_name (aCons (eOp ixF (eVar 0) (eC (.int 0))) aNil)))))
    (sRet (eC (.bl false)))
    sNext)
  (sRet (eAnd (eCall m_is_within (aCons (eOp ixF (eVar 0) (eC (.int 1))) (aCons (eC (.int 0)) (aCons (eC (.int 30)) aNil)))) (eCall m_is_within (aCons (eOp ixF (eVar 0) (eC (.int 2))) (aCons (eOp ixF (eVar 0) (eC (.int 1))) (aCons (eC (.int 30)) aNil)))))))
def m_are_triples_c1 : SE :=
  (eCall m_is_triple (aCons (eVar 1) aNil))
def m_are_triples_c2 : SE :=
  (eOp ixF (eVar 1) (eC (.int 0)))
/-- are_triples: rows 0, row 1 -/
def m_are_triples : Fn := runB 2
  (sSeq (sIf (bOr (bNot (bTru (eCall m_is_row (aCons (eVar 0) (aCons (eC (.int 0)) (aCons (eC (.int 12)) aNil)))))) (bNot (bTru (eCB allF (aCons (eLc (iSeq (eVar 0)) (.n 1) [1] (fun _ h => .ok true h) m_are_triples_c1) aNil)))))
    (sRet (eC (.bl false)))
    sNext)
  (sRet (eCall m_all_different (aCons (eLc (iSeq (eVar 0)) (.n 1) [1] (fun _ h => .ok true h) m_are_triples_c2) aNil))))
/-- check_triples: rows 0 -/
def m_check_triples : Fn := runB 1
  (sIf (bNot (bTru (eCall m_are_triples (aCons (eVar 0) aNil))))
    (sRaise "BadValue" ["at"] (aCons (eC (.int 0)) aNil))
    sNext)
def m_are_closed_c1 : SE :=
  (eCall m_is_within (aCons (eVar 1) (aCons (eC (.int 0)) (aCons (eC (.int 30)) aNil))))
/-- are_closed: days 0, day 1 -/
def m_are_closed : Fn := runB 2
  (sRet (eAnd (eCall m_is_row (aCons (eVar 0) (aCons (eC (.int 0)) (aCons (eOp addF (eC (.int 30)) (eC (.int 1))) aNil)))) (eCB allF (aCons (eLc (iSeq (eVar 0)) (.n 1) [1] (fun _ h => .ok true h) m_are_closed_c1) aNil))))
def m_open_counts_l1 : SS :=
  (sDrop (eBM "list" appF (eVar 1) (aCons (eOp addF (eOp ixF (eVar 1) (eVar 2)) (eIf (bEx (eOp (inG false) (eVar 2) (eVar 0))) (eC (.int 0)) (eC (.int 1)))) aNil)))
/-- open_counts: closed 0, counts 1, day 2 -/
def m_open_counts : Fn := runB 3
  (sSeq (sSet 1 (eCell (aCons (eC (.int 0)) aNil)))
  (sSeq (sFor (iRg1 (aCons (eOp addF (eC (.int 30)) (eC (.int 1))) aNil)) (.n 2)
    m_open_counts_l1)
  (sRet (eVar 1))))
def m_count_within_c1 : SE :=
  (eVar 3)
def m_count_within_t1 : SB :=
  (bAnd (bEx (eOp leF (eVar 1) (eOp ixF (eVar 3) (eC (.int 1))))) (bEx (eOp leF (eOp ixF (eVar 3) (eC (.int 2))) (eVar 2))))
/-- count_within: jobs 0, first 1, last 2, job 3 -/
def m_count_within : Fn := runB 4
  (sRet (eCB lenF (aCons (eLc (iSeq (eVar 0)) (.n 3) [3] m_count_within_t1 m_count_within_c1) aNil)))
def m_crowded_days_l1 : SS :=
  (sSeq (sSet 6 (eOp mulF (eVar 1) (eOp subF (eOp ixF (eVar 3) (eOp addF (eVar 5) (eC (.int 1)))) (eOp ixF (eVar 3) (eVar 4)))))
      (sIf (bEx (eOp gtF (eCall m_count_within (aCons (eVar 0) (aCons (eVar 4) (aCons (eVar 5) aNil)))) (eVar 6)))
        (sRet (eTup (aCons (eVar 4) (aCons (eVar 5) aNil))))
        sNext))
def m_crowded_days_l2 : SS :=
  (sFor (iRg2 (aCons (eVar 4) (aCons (eOp addF (eC (.int 30)) (eC (.int 1))) aNil))) (.n 5)
      m_crowded_days_l1)
/-- crowded_days: jobs 0, crews 1, closed 2, counts 3, first 4, last 5, visits 6 -/
def m_crowded_days : Fn := runB 7
  (sSeq (sSet 3 (eCall m_open_counts (aCons (eVar 2) aNil)))
  (sSeq (sFor (iRg1 (aCons (eOp addF (eC (.int 30)) (eC (.int 1))) aNil)) (.n 4)
    m_crowded_days_l2)
  (sRet (eC .non))))
def m_law_schedule_c1 : SE :=
  (eC .non)
def m_law_schedule_c2 : SE :=
  (eTup (aCons (eOp ixF (eOp ixF (eVar 0) (eVar 7)) (eC (.int 2))) (aCons (eVar 7) aNil)))
def m_law_schedule_t1 : SB :=
  (bAnd (bEx (eOp isnF (eOp ixF (eVar 3) (eVar 7)) (eC .non))) (bEx (eOp leF (eOp ixF (eOp ixF (eVar 0) (eVar 7)) (eC (.int 1))) (eVar 4))))
def m_law_schedule_l1 : SS :=
  (sPut setF (eVar 4) (eVar 3) (eOp ixF (eVar 6) (eC (.int 1))))
def m_law_schedule_l2 : SS :=
  (sIf (bEx (eOp (inG true) (eVar 4) (eVar 2)))
      (sSeq (sSet 5 (eCB sortF (aCons (eLc (iRg1 (aCons (eCB lenF (aCons (eVar 0) aNil)) aNil)) (.n 7) [7] m_law_schedule_t1 m_law_schedule_c2) aNil)))
      (sFor (iSeq (eSl slF (eVar 5) none (some (eVar 1)))) (.n 6)
        m_law_schedule_l1))
      sNext)
def m_law_schedule_l3 : SS :=
  (sIf (bOr (bEx (eOp isnF (eOp ixF (eVar 3) (eVar 7)) (eC .non))) (bEx (eOp gtF (eOp ixF (eVar 3) (eVar 7)) (eOp ixF (eOp ixF (eVar 0) (eVar 7)) (eC (.int 2))))))
      (sRet (eC .non))
      sNext)
/-- _law_schedule: jobs 0, crews 1, closed 2, days 3, day 4, ready 5, pair 6, k 7, job 8 -/
def m_law_schedule : Fn := runB 9
  (sSeq (sSet 3 (eLcC (iSeq (eVar 0)) (.n 8) [8] (fun _ h => .ok true h) m_law_schedule_c1))
  (sSeq (sFor (iRg1 (aCons (eC (.int 31)) aNil)) (.n 4)
    m_law_schedule_l2)
  (sSeq (sFor (iRg1 (aCons (eCB lenF (aCons (eVar 0) aNil)) aNil)) (.n 7)
    m_law_schedule_l3)
  (sRet (eCB tupleF (aCons (eVar 3) aNil))))))
end Mp
namespace Mp
open PySem PySem.Spec PyProof.Rows L2
/-! ### mirrors: Sch -/
/-- check_visits: jobs 0, crews 1, closed 2, at 3 -/
def m_check_visits : Fn := runB 4
  (sSeq (sIf (bNot (bTru (eCall m_is_within (aCons (eVar 1) (aCons (eC (.int 0)) (aCons (eC (.int 4)) aNil))))))
    (sRaise "BadValue" ["at"] (aCons (eVar 3) aNil))
    sNext)
  (sIf (bNot (bTru (eCall m_are_closed (aCons (eVar 2) aNil))))
    (sRaise "BadValue" ["at"] (aCons (eOp addF (eVar 3) (eC (.int 1))) aNil))
    sNext))
def m_earliest_days_c1 : SE :=
  (eTup (aCons (eOp ixF (eVar 8) (eC (.int 2))) (aCons (eVar 7) aNil)))
def m_earliest_days_t1 : SB :=
  (bAnd (bEx (eOp leF (eOp ixF (eVar 8) (eC (.int 1))) (eVar 4))) (bEx (eOp isnF (eOp ixF (eVar 3) (eVar 7)) (eC .non))))
def m_earliest_days_l1 : SS :=
  (sPut setF (eVar 4) (eVar 3) (eVar 7))
def m_earliest_days_l2 : SS :=
  (sSeq (sIf (bEx (eOp (inG false) (eVar 4) (eVar 2)))
      (fun ds h => .ct ds h)
      sNext)
    (sSeq (sSet 5 (eCB sortF (aCons (eLc (iEnu (aCons (eVar 0) aNil)) (.t ((.n 7) :: ((.n 8) :: []))) [7, 8] m_earliest_days_t1 m_earliest_days_c1) aNil)))
    (sFor (iSeq (eSl slF (eVar 5) none (some (eVar 1)))) (.t ((.n 6) :: ((.n 7) :: [])))
      m_earliest_days_l1)))
/-- earliest_days: jobs 0, crews 1, closed 2, days 3, day 4, waiting 5, _ 6, at 7, job 8 -/
def m_earliest_days : Fn := runB 9
  (sSeq (sSet 3 (eOp mulC (eLst (aCons (eC .non) aNil)) (eCB lenF (aCons (eVar 0) aNil))))
  (sSeq (sFor (iRg1 (aCons (eOp addF (eC (.int 30)) (eC (.int 1))) aNil)) (.n 4)
    m_earliest_days_l2)
  (sRet (eCB tupleF (aCons (eVar 3) aNil)))))
/-- schedule: jobs 0, crews 1, closed 2, crowded 3 -/
def m_schedule : Fn := runB 4
  (sSeq (sDrop (eCall m_check_triples (aCons (eVar 0) aNil)))
  (sSeq (sDrop (eCall m_check_visits (aCons (eVar 0) (aCons (eVar 1) (aCons (eVar 2) (aCons (eC (.int 1)) aNil))))))
  (sSeq (sSet 3 (eCall m_crowded_days (aCons (eVar 0) (aCons (eVar 1) (aCons (eVar 2) aNil)))))
  (sSeq (sIf (bEx (eOp notnF (eVar 3) (eC .non)))
    (sRaise "Crowded" ["last", "first"] (aCons (eOp ixF (eVar 3) (eC (.int 0))) (aCons (eOp ixF (eVar 3) (eC (.int 1))) aNil)))
    sNext)
  (sRet (eCall m_earliest_days (aCons (eVar 0) (aCons (eVar 1) (aCons (eVar 2) aNil)))))))))
end Mp
namespace Mp
open PySem PySem.Spec PyProof.Rows L2
/-! ### the mirrors -/
def m_check_gaps_c1 : SE :=
  (eCall m_is_within (aCons (eVar 1) (aCons (eC (.int 1)) (aCons (eC (.int 6)) aNil))))
/-- check_gaps: gaps 0, gap 1 -/
def m_check_gaps : Fn := runB 2
  (sIf (bOr (bNot (bTru (eCall m_is_row (aCons (eVar 0) (aCons (eC (.int 1)) (aCons (eC (.int 4)) aNil)))))) (bNot (bTru (eCB allF (aCons (eLc (iSeq (eVar 0)) (.n 1) [1] (fun _ h => .ok true h) m_check_gaps_c1) aNil)))))
    (sRaise "BadValue" ["at"] (aCons (eC (.int 0)) aNil))
    sNext)
def m_all_waits_c1 : SE :=
  (eOp addF (eVar 3) (eTup (aCons (eVar 4) aNil)))
def m_all_waits_i1 : SI :=
  (iRg1 (aCons (eVar 2) aNil))
def m_all_waits_t1 : SB :=
  (bEx (eOp (inG true) (eVar 4) (eVar 3)))
def m_all_waits_l1 : SS :=
  (sSet 1 (eLt (iSeq (eVar 1)) (.n 3) [3, 4] m_all_waits_i1 (.n 4) [4] m_all_waits_t1 m_all_waits_c1))
def m_all_waits_c2 : SE :=
  (eVar 3)
def m_all_waits_t2 : SB :=
  (bEx (eOp (inG false) (eC (.int 0)) (eVar 3)))
/-- all_waits: gaps 0, rows 1, gap 2, row 3, wait 4 -/
def m_all_waits : Fn := runB 5
  (sSeq (sSet 1 (eCell (aCons (eTup aNil) aNil)))
  (sSeq (sFor (iSeq (eVar 0)) (.n 2)
    m_all_waits_l1)
  (sRet (eLc (iSeq (eVar 1)) (.n 3) [3] m_all_waits_t2 m_all_waits_c2))))
def m_next_waits_c1 : SE :=
  (eIf (bEx (eOp eqF (eVar 6) (eVar 2))) (eC (.int 0)) (eOp addF (eVar 4) (eC (.int 1))))
def m_next_waits_l1 : SS :=
  (sIf (bEx (eOp geF (eVar 4) (eVar 5)))
      (sRet (eC .non))
      sNext)
/-- next_waits: gaps 0, waits 1, at 2, later 3, wait 4, gap 5, k 6 -/
def m_next_waits : Fn := runB 7
  (sSeq (sSet 3 (eCB tupleF (aCons (eLc (iEnu (aCons (eVar 1) aNil)) (.t ((.n 6) :: ((.n 4) :: []))) [6, 4] (fun _ h => .ok true h) m_next_waits_c1) aNil)))
  (sSeq (sFor (iZip (aCons (eVar 3) (aCons (eVar 0) aNil))) (.t ((.n 4) :: ((.n 5) :: [])))
    m_next_waits_l1)
  (sRet (eVar 3))))
def m_days_between_l1 : SS :=
  (sSeq (sSet 5 (eCall m_next_waits (aCons (eVar 0) (aCons (eVar 2) (aCons (eVar 4) aNil)))))
      (sIf (bEx (eOp notnF (eVar 5) (eC .non)))
        (sDrop (eBM "list" appF (eVar 3) (aCons (eTup (aCons (eVar 4) (aCons (eVar 5) aNil))) aNil)))
        sNext))
def m_days_between_l2 : SS :=
  (sSeq (sSet 3 (eCell aNil))
    (sSeq (sFor (iRg1 (aCons (eCB lenF (aCons (eVar 0) aNil)) aNil)) (.n 4)
      m_days_between_l1)
    (sPut putT (eVar 3) (eVar 1) (eVar 2))))
/-- days_between: gaps 0, links 1, waits 2, row 3, at 4, later 5 -/
def m_days_between : Fn := runB 6
  (sSeq (sSet 1 eDtt0)
  (sSeq (sFor (iSeq (eCall m_all_waits (aCons (eVar 0) aNil))) (.n 2)
    m_days_between_l2)
  (sRet (eVar 1))))
def m_turned_2_k1 : SE :=
  (eVar 2)
def m_turned_2_v1 : SE :=
  (eCell aNil)
def m_turned_2_l1 : SS :=
  (sDrop (eBM "list" appF (eOp dgtL (eVar 1) (eVar 4)) (aCons (eVar 2) aNil)))
def m_turned_2_l2 : SS :=
  (sFor (iSeq (eOp dgtL (eVar 0) (eVar 2))) (.t ((.n 3) :: ((.n 4) :: [])))
      m_turned_2_l1)
/-- turned: links 0, sources 1, waits 2, _ 3, later 4 -/
def m_turned_2 : Fn := runB 5
  (sSeq (sLock (eVar 0) (sSet 1 (eDt (iKey (eVar 0)) (.n 2) [2] (fun _ h => .ok true h) m_turned_2_k1 m_turned_2_v1)))
  (sSeq (sLock (eVar 0) (sFor (iKey (eVar 0)) (.n 2)
    m_turned_2_l2))
  (sRet (eVar 1))))
def m_ring_through_c1 : SE :=
  (eOp addF (eOp dgtL (eVar 1) (eVar 10)) (eC (.int 1)))
def m_ring_through_t1 : SB :=
  (bEx (eOp (dinT false) (eVar 10) (eVar 1)))
def m_ring_through_c2 : SE :=
  (eVar 11)
def m_ring_through_t2 : SB :=
  (bEx (eOp eqF (eGetT (eVar 1) (eOp ixF (eVar 11) (eC (.int 1)))) (eVar 6)))
def m_ring_through_l1 : SS :=
  (sSeq (sSet 7 (eLc (iSeq (eOp dgtL (eVar 0) (eVar 5))) (.n 11) [11] m_ring_through_t2 m_ring_through_c2))
    (sSeq (sAsg (.t ((.n 8) :: ((.n 5) :: []))) (eOp ixF (eVar 7) (eC (.int 0))))
    (sDrop (eBM "list" appF (eVar 4) (aCons (eVar 8) aNil)))))
/-- ring_through: links 0, far 1, start 2, lengths 3, ring 4, waits 5, rest 6, steps 7, at 8, _ 9, later 10, step 11 -/
def m_ring_through : Fn := runB 12
  (sSeq (sSet 3 (eLc (iSeq (eOp dgtL (eVar 0) (eVar 2))) (.t ((.n 9) :: ((.n 10) :: []))) [9, 10] m_ring_through_t1 m_ring_through_c1))
  (sSeq (sIf (bNot (bTru (eVar 3)))
    (sRet (eC .non))
    sNext)
  (sSeq (sSet 4 (eCell aNil))
  (sSeq (sSet 5 (eVar 2))
  (sSeq (sFor (iRg3 (aCons (eOp subF (eCB minF (aCons (eVar 3) aNil)) (eC (.int 1))) (aCons (eUn negF (eC (.int 1))) (aCons (eUn negF (eC (.int 1))) aNil)))) (.n 6)
    m_ring_through_l1)
  (sRet (eCB tupleF (aCons (eVar 4) aNil))))))))
def m_far_from_l1 : SS :=
  (sIf (bEx (eOp (dinT true) (eVar 6) (eVar 2)))
        (sSeq (sPut putT (eOp addF (eOp dgtL (eVar 2) (eVar 5)) (eC (.int 1))) (eVar 2) (eVar 6))
        (sDrop (eBM "list" appF (eVar 3) (aCons (eVar 6) aNil))))
        sNext)
def m_far_from_l2 : SS :=
  (sSeq (sSet 5 (eOp ixF (eVar 3) (eVar 4)))
    (sSeq (sAug 4 addI (eC (.int 1)))
    (sFor (iSeq (eOp dgtL (eVar 0) (eVar 5))) (.n 6)
      m_far_from_l1)))
/-- far_from: sources 0, goal 1, far 2, queue 3, at 4, waits 5, before 6 -/
def m_far_from : Fn := runB 7
  (sSeq (sSet 2 (eDs1 (gVar 1) (gC (.int 0))))
  (sSeq (sSet 3 (eCell (aCons (eVar 1) aNil)))
  (sSeq (sSet 4 (eC (.int 0)))
  (sSeq (wl (bEx (eOp ltF (eVar 4) (eCB lenF (aCons (eVar 3) aNil))))
    m_far_from_l2 100000)
  (sRet (eVar 2))))))
def m_first_ring_l1 : SS :=
  (sSeq (sSet 5 (eCallG m_ring_through (aCons (eVar 1) (aCons (eCallG m_far_from (aCons (eVar 2) (aCons (eVar 4) aNil))) (aCons (eVar 4) aNil)))))
    (sSeq (sIf (bEx (eOp isnF (eVar 5) (eC .non)))
      (fun ds h => .ct ds h)
      sNext)
    (sIf (bOr (bEx (eOp isnF (eVar 3) (eC .non))) (bOr (bEx (eOp ltZF (eCB lenF (aCons (eVar 5) aNil)) (eCB lenF (aCons (eVar 3) aNil)))) (bAnd (bEx (eOp eqF (eCB lenF (aCons (eVar 5) aNil)) (eCB lenF (aCons (eVar 3) aNil)))) (bEx (eOp ltZF (eVar 5) (eVar 3))))))
      (sSet 3 (eVar 5))
      sNext)))
/-- first_ring: gaps 0, links 1, sources 2, best 3, start 4, ring 5 -/
def m_first_ring : Fn := runB 6
  (sSeq (sSet 1 (eCallG m_days_between (aCons (eVar 0) aNil)))
  (sSeq (sSet 2 (eCallG m_turned_2 (aCons (eVar 1) aNil)))
  (sSeq (sSet 3 (eC .non))
  (sSeq (sLock (eVar 1) (sFor (iKey (eVar 1)) (.n 4)
    m_first_ring_l1))
  (sRet (eVar 3))))))
/-- rota: gaps 0 -/
def m_rota : Fn := runB 1
  (sSeq (sDrop (eCall m_check_gaps (aCons (eVar 0) aNil)))
  (sRet (eCall m_first_ring (aCons (eVar 0) aNil))))
def m_check_worths_c1 : SE :=
  (eCall m_is_within (aCons (eVar 2) (aCons (eC (.int 0)) (aCons (eC (.int 1000)) aNil))))
/-- check_worths: jobs 0, worths 1, worth 2 -/
def m_check_worths : Fn := runB 3
  (sIf (bOr (bNot (bTru (eCall m_is_sequence (aCons (eVar 1) aNil)))) (bNot (bTru (eCB allF (aCons (eLc (iSeq (eVar 1)) (.n 2) [2] (fun _ h => .ok true h) m_check_worths_c1) aNil)))))
    (sRaise "BadValue" ["at"] (aCons (eC (.int 1)) aNil))
    sNext)
def m_chosen_c1 : SE :=
  (eTup (aCons (eUn negF (eVar 10)) (aCons (eVar 7) aNil)))
def m_chosen_c2 : SE :=
  (eOp ixF (eVar 0) (eVar 11))
def m_chosen_l1 : SS :=
  (sSeq (sSet 8 (eLc (iSeq (eOp addF (eVar 5) (eLst (aCons (eVar 7) aNil)))) (.n 11) [11] (fun _ h => .ok true h) m_chosen_c2))
    (sIf (bEx (eOp isnF (eCall m_crowded_days (aCons (eVar 8) (aCons (eVar 2) (aCons (eVar 3) aNil)))) (eC .non)))
      (sDrop (eBM "list" appF (eVar 5) (aCons (eVar 7) aNil)))
      sNext))
def m_chosen_c3 : SE :=
  (eOp ixF (eOp ixF (eVar 0) (eVar 7)) (eC (.int 0)))
def m_chosen_c4 : SE :=
  (eOp ixF (eVar 1) (eVar 7))
/-- chosen: jobs 0, worths 1, crews 2, closed 3, order 4, taken 5, _ 6, at 7, wanted 8, names 9, worth 10, k 11 -/
def m_chosen : Fn := runB 12
  (sSeq (sDrop (eCall m_check_triples (aCons (eVar 0) aNil)))
  (sSeq (sDrop (eCall m_check_worths (aCons (eVar 0) (aCons (eVar 1) aNil))))
  (sSeq (sDrop (eCall m_check_visits (aCons (eVar 0) (aCons (eVar 2) (aCons (eVar 3) (aCons (eC (.int 2)) aNil))))))
  (sSeq (sIf (bEx (eOp neF (eCB lenF (aCons (eVar 1) aNil)) (eCB lenF (aCons (eVar 0) aNil))))
    (sRaise "BadValue" ["at"] (aCons (eC (.int 1)) aNil))
    sNext)
  (sSeq (sSet 4 (eCB sortF (aCons (eLc (iEnu (aCons (eVar 1) aNil)) (.t ((.n 7) :: ((.n 10) :: []))) [7, 10] (fun _ h => .ok true h) m_chosen_c1) aNil)))
  (sSeq (sSet 5 (eCell aNil))
  (sSeq (sFor (iSeq (eVar 4)) (.t ((.n 6) :: ((.n 7) :: [])))
    m_chosen_l1)
  (sSeq (sSet 9 (eCB tupleF (aCons (eLc (iSeq (eCB sortF (aCons (eVar 5) aNil))) (.n 7) [7] (fun _ h => .ok true h) m_chosen_c3) aNil)))
  (sRet (eTup (aCons (eCB sumA (aCons (eLc (iSeq (eVar 5)) (.n 7) [7] (fun _ h => .ok true h) m_chosen_c4) aNil)) (aCons (eVar 9) aNil))))))))))))
/-- overlap: one 0, other 1 -/
def m_overlap : Fn := runB 2
  (sRet (eAnd (eOp leF (eOp ixF (eVar 0) (eC (.int 1))) (eOp ixF (eVar 1) (eC (.int 2)))) (eOp leF (eOp ixF (eVar 1) (eC (.int 1))) (eOp ixF (eVar 0) (eC (.int 2))))))
def m_free_hand_c1 : SE :=
  (eOp ixF (eVar 1) (eVar 5))
def m_free_hand_t1 : SB :=
  (bAnd (bEx (eOp notnF (eOp ixF (eVar 1) (eVar 5)) (eC .non))) (bTru (eCall m_overlap (aCons (eVar 6) (aCons (eOp ixF (eVar 0) (eVar 2)) aNil)))))
def m_free_hand_l1 : SS :=
  (sAug 4 addI (eC (.int 1)))
/-- free_hand: spans 0, numbers 1, at 2, busy 3, hand 4, k 5, span 6 -/
def m_free_hand : Fn := runB 7
  (sSeq (sSet 3 (eLc (iEnu (aCons (eVar 0) aNil)) (.t ((.n 5) :: ((.n 6) :: []))) [5, 6] m_free_hand_t1 m_free_hand_c1))
  (sSeq (sSet 4 (eC (.int 0)))
  (sSeq (wl (bEx (eOp (inG false) (eVar 4) (eVar 3)))
    m_free_hand_l1 100000)
  (sRet (eVar 4)))))
def m_hands_c1 : SE :=
  (eTup (aCons (eOp ixF (eVar 5) (eC (.int 1))) (aCons (eVar 3) aNil)))
def m_hands_l1 : SS :=
  (sPut setF (eCall m_free_hand (aCons (eVar 0) (aCons (eVar 1) (aCons (eVar 3) aNil)))) (eVar 1) (eVar 3))
def m_hands_c2 : SE :=
  (eOp addF (eVar 6) (eC (.int 1)))
/-- hands: spans 0, numbers 1, _ 2, at 3, count 4, span 5, number 6 -/
def m_hands : Fn := runB 7
  (sSeq (sDrop (eCall m_check_triples (aCons (eVar 0) aNil)))
  (sSeq (sSet 1 (eOp mulC (eLst (aCons (eC .non) aNil)) (eCB lenF (aCons (eVar 0) aNil))))
  (sSeq (sFor (iSeq (eCB sortF (aCons (eLc (iEnu (aCons (eVar 0) aNil)) (.t ((.n 3) :: ((.n 5) :: []))) [3, 5] (fun _ h => .ok true h) m_hands_c1) aNil))) (.t ((.n 2) :: ((.n 3) :: [])))
    m_hands_l1)
  (sSeq (sSet 4 (eOp mxdF (eLc (iSeq (eVar 1)) (.n 6) [6] (fun _ h => .ok true h) m_hands_c2) (eC (.int 0))))
  (sRet (eTup (aCons (eVar 4) (aCons (eCB tupleF (aCons (eVar 1) aNil)) aNil))))))))
def m_shut_out_l1 : SS :=
  (sIf (bEx (eOp eqF (eOp ixF (eVar 2) (eOp addF (eOp ixF (eVar 4) (eC (.int 2))) (eC (.int 1)))) (eOp ixF (eVar 2) (eOp ixF (eVar 4) (eC (.int 1))))))
      (sRet (eVar 3))
      sNext)
/-- shut_out: jobs 0, closed 1, counts 2, at 3, job 4 -/
def m_shut_out : Fn := runB 5
  (sSeq (sSet 2 (eCall m_open_counts (aCons (eVar 1) aNil)))
  (sSeq (sFor (iEnu (aCons (eVar 0) aNil)) (.t ((.n 3) :: ((.n 4) :: [])))
    m_shut_out_l1)
  (sRet (eC .non))))
def m_crews_needed_l1 : SS :=
  (sAug 3 addI (eC (.int 1)))
/-- crews_needed: jobs 0, closed 1, at 2, crews 3 -/
def m_crews_needed : Fn := runB 4
  (sSeq (sDrop (eCall m_check_triples (aCons (eVar 0) aNil)))
  (sSeq (sIf (bNot (bTru (eCall m_are_closed (aCons (eVar 1) aNil))))
    (sRaise "BadValue" ["at"] (aCons (eC (.int 1)) aNil))
    sNext)
  (sSeq (sSet 2 (eCall m_shut_out (aCons (eVar 0) (aCons (eVar 1) aNil))))
  (sSeq (sIf (bEx (eOp notnF (eVar 2) (eC .non)))
    (sRaise "NoDay" ["name"] (aCons (eOp ixF (eOp ixF (eVar 0) (eVar 2)) (eC (.int 0))) aNil))
    sNext)
  (sSeq (sSet 3 (eC (.int 0)))
  (sSeq (wl (bEx (eOp notnF (eCall m_crowded_days (aCons (eVar 0) (aCons (eVar 3) (aCons (eVar 1) aNil)))) (eC .non)))
    m_crews_needed_l1 100000)
  (sRet (eVar 3))))))))
def m_widest_c1 : SE :=
  (eVar 6)
def m_widest_t1 : SB :=
  (bEx (eOp eqF (eVar 7) (eVar 1)))
def m_widest_l1 : SS :=
  (sSet 3 (eCB maxF (aCons (eVar 3) (aCons (eOp subF (eVar 5) (eVar 4)) aNil))))
/-- widest: ring 0, at 1, places 2, most 3, one 4, other 5, k 6, i 7 -/
def m_widest : Fn := runB 8
  (sSeq (sSet 2 (eLc (iEnu (aCons (eVar 0) aNil)) (.t ((.n 6) :: ((.n 7) :: []))) [6, 7] m_widest_t1 m_widest_c1))
  (sSeq (sIf (bNot (bTru (eVar 2)))
    (sRet (eC .non))
    sNext)
  (sSeq (sSet 3 (eOp subF (eOp addF (eOp ixF (eVar 2) (eC (.int 0))) (eCB lenF (aCons (eVar 0) aNil))) (eOp ixF (eVar 2) (eUn negF (eC (.int 1))))))
  (sSeq (sFor (iZip (aCons (eVar 2) (aCons (eSl slF (eVar 2) (some (eC (.int 1))) none) aNil))) (.t ((.n 4) :: ((.n 5) :: [])))
    m_widest_l1)
  (sRet (eVar 3))))))
def m_keeps_c1 : SE :=
  (eCall m_is_within (aCons (eVar 5) (aCons (eC (.int 0)) (aCons (eOp subF (eCB lenF (aCons (eVar 0) aNil)) (eC (.int 1))) aNil))))
def m_keeps_l1 : SS :=
  (sSeq (sSet 4 (eCall m_widest (aCons (eVar 1) (aCons (eVar 2) aNil))))
    (sIf (bOr (bEx (eOp isnF (eVar 4) (eC .non))) (bEx (eOp gtF (eVar 4) (eVar 3))))
      (sRet (eC (.bl false)))
      sNext))
/-- keeps: gaps 0, ring 1, at 2, gap 3, most 4, i 5 -/
def m_keeps : Fn := runB 6
  (sSeq (sDrop (eCall m_check_gaps (aCons (eVar 0) aNil)))
  (sSeq (sIf (bOr (bNot (bTru (eCall m_is_row (aCons (eVar 1) (aCons (eC (.int 1)) (aCons (eC (.int 1300)) aNil)))))) (bNot (bTru (eCB allF (aCons (eLc (iSeq (eVar 1)) (.n 5) [5] (fun _ h => .ok true h) m_keeps_c1) aNil)))))
    (sRaise "BadValue" ["at"] (aCons (eC (.int 1)) aNil))
    sNext)
  (sSeq (sFor (iEnu (aCons (eVar 0) aNil)) (.t ((.n 2) :: ((.n 3) :: [])))
    m_keeps_l1)
  (sRet (eC (.bl true))))))
def m_law_p1 : SS :=
  (sSet 1 (eCall m_law_numbers (aCons (eVar 0) aNil)))
def m_law_p2 : SS :=
  (sSet 2 (eCell (aCons (eC (.int 0)) aNil)))
def m_law_p3 : SS :=
  (sSet 3 (eTup (aCons (eTup (aCons (eC (.str "a")) (aCons (eC (.int 0)) (aCons (eC (.int 30)) aNil)))) (aCons (eTup (aCons (eC (.str "b")) (aCons (eC (.int 3)) (aCons (eC (.int 3)) aNil)))) aNil))))
def m_law_c1 : SE :=
  (eTup (aCons (eOp ixF (eC (.str "abcdefghijklm")) (eVar 7)) (aCons (eC (.int 0)) (aCons (eC (.int 1)) aNil))))
def m_law_p4 : SS :=
  (sSet 4 (eCall m_law_pick (aCons (eVar 1) (aCons (eVar 2) (aCons (eLst (aCons (eTup (aCons (eTup (aCons (eC (.str "a")) (aCons (eC (.int 0)) (aCons (eC (.int 31)) aNil)))) aNil)) (aCons (eTup (aCons (eTup (aCons (eC (.str "a")) (aCons (eC (.int 2)) (aCons (eC (.int 1)) aNil)))) aNil)) (aCons (eTup (aCons (eTup (aCons (eC (.str "a")) (aCons (eUn negF (eC (.int 1))) (aCons (eC (.int 1)) aNil)))) aNil)) (aCons (eTup (aCons (eTup (aCons (eC (.str "a")) (aCons (eC (.int 0)) (aCons (eC (.int 1)) aNil)))) (aCons (eTup (aCons (eC (.str "a")) (aCons (eC (.int 0)) (aCons (eC (.int 1)) aNil)))) aNil))) (aCons (eTup (aCons (eTup (aCons (eC (.str "A")) (aCons (eC (.int 0)) (aCons (eC (.int 1)) aNil)))) aNil)) (aCons (eTup (aCons (eTup (aCons (eC (.str "a")) (aCons (eC (.int 0)) aNil))) aNil)) (aCons (eC .non) (aCons (eTup (aCons (eC (.str "a")) aNil)) (aCons (eTup (aCons (eTup (aCons (eC (.str "a")) (aCons (eC (.bl true)) (aCons (eC (.int 1)) aNil)))) aNil)) (aCons (eCB tupleF (aCons (eLc (iRg1 (aCons (eC (.int 13)) aNil)) (.n 7) [7] (fun _ h => .ok true h) m_law_c1) aNil)) aNil))))))))))) aNil)))))
def m_law_p5 : SS :=
  (sIf (bOr (bEx (eOp neF (eTold (eCall m_schedule (aCons (eVar 4) (aCons (eC (.int 9)) (aCons (eTup aNil) aNil))))) (eTup (aCons (eC (.str "BadValue")) (aCons (eC (.int 0)) aNil))))) (bEx (eOp neF (eTold (eCall m_crews_needed (aCons (eVar 4) (aCons (eC .non) aNil)))) (eTup (aCons (eC (.str "BadValue")) (aCons (eC (.int 0)) aNil))))))
    (sRet (eC (.bl false)))
    sNext)
def m_law_p6 : SS :=
  (sIf (bOr (bEx (eOp neF (eTold (eCall m_chosen (aCons (eVar 4) (aCons (eTup aNil) (aCons (eC (.int 1)) (aCons (eTup aNil) aNil)))))) (eTup (aCons (eC (.str "BadValue")) (aCons (eC (.int 0)) aNil))))) (bEx (eOp neF (eTold (eCall m_hands (aCons (eVar 4) aNil))) (eTup (aCons (eC (.str "BadValue")) (aCons (eC (.int 0)) aNil))))))
    (sRet (eC (.bl false)))
    sNext)
def m_law_p7 : SS :=
  (sIf (bOr (bEx (eOp neF (eTold (eCall m_schedule (aCons (eVar 3) (aCons (eC (.int 5)) (aCons (eC (.int 3)) aNil))))) (eTup (aCons (eC (.str "BadValue")) (aCons (eC (.int 1)) aNil))))) (bEx (eOp neF (eTold (eCall m_schedule (aCons (eVar 3) (aCons (eC (.bl true)) (aCons (eTup aNil) aNil))))) (eTup (aCons (eC (.str "BadValue")) (aCons (eC (.int 1)) aNil))))))
    (sRet (eC (.bl false)))
    sNext)
def m_law_c2 : SE :=
  (eOp fdivF (eVar 7) (eC (.int 2)))
def m_law_p8 : SS :=
  (sSet 5 (eCall m_law_pick (aCons (eVar 1) (aCons (eVar 2) (aCons (eLst (aCons (eTup (aCons (eC (.int 31)) aNil)) (aCons (eTup (aCons (eUn negF (eC (.int 1))) aNil)) (aCons (eTup (aCons (eC (.str "1")) aNil)) (aCons (eC .non) (aCons (eC (.int 5)) (aCons (eTup (aCons (eC (.bl true)) aNil)) (aCons (eCB tupleF (aCons (eLc (iRg1 (aCons (eC (.int 32)) aNil)) (.n 7) [7] (fun _ h => .ok true h) m_law_c2) aNil)) aNil)))))))) aNil)))))
def m_law_p9 : SS :=
  (sIf (bOr (bEx (eOp neF (eTold (eCall m_schedule (aCons (eVar 3) (aCons (eC (.int 1)) (aCons (eVar 5) aNil))))) (eTup (aCons (eC (.str "BadValue")) (aCons (eC (.int 2)) aNil))))) (bEx (eOp neF (eTold (eCall m_crews_needed (aCons (eVar 3) (aCons (eVar 5) aNil)))) (eTup (aCons (eC (.str "BadValue")) (aCons (eC (.int 1)) aNil))))))
    (sRet (eC (.bl false)))
    sNext)
def m_law_p10 : SS :=
  (sIf (bOr (bEx (eOp neF (eTold (eCall m_chosen (aCons (eVar 3) (aCons (eTup (aCons (eC (.int 1)) (aCons (eC (.int 2)) aNil))) (aCons (eC (.int 1)) (aCons (eVar 5) aNil)))))) (eTup (aCons (eC (.str "BadValue")) (aCons (eC (.int 3)) aNil))))) (bEx (eOp neF (eTold (eCall m_chosen (aCons (eVar 3) (aCons (eTup (aCons (eC (.int 1)) aNil)) (aCons (eC (.int 1)) (aCons (eTup aNil) aNil)))))) (eTup (aCons (eC (.str "BadValue")) (aCons (eC (.int 1)) aNil))))))
    (sRet (eC (.bl false)))
    sNext)
def m_law_p11 : SS :=
  (sIf (bOr (bEx (eOp neF (eTold (eCall m_chosen (aCons (eVar 3) (aCons (eTup (aCons (eC (.int 1)) (aCons (eC (.int 1001)) aNil))) (aCons (eC (.int 1)) (aCons (eTup aNil) aNil)))))) (eTup (aCons (eC (.str "BadValue")) (aCons (eC (.int 1)) aNil))))) (bEx (eOp neF (eTold (eCall m_chosen (aCons (eVar 3) (aCons (eTup (aCons (eC (.int 1)) (aCons (eC (.int 2)) aNil))) (aCons (eC (.int 5)) (aCons (eTup aNil) aNil)))))) (eTup (aCons (eC (.str "BadValue")) (aCons (eC (.int 2)) aNil))))))
    (sRet (eC (.bl false)))
    sNext)
def m_law_p12 : SS :=
  (sSet 6 (eCall m_law_pick (aCons (eVar 1) (aCons (eVar 2) (aCons (eLst (aCons (eTup aNil) (aCons (eTup (aCons (eC (.int 0)) aNil)) (aCons (eTup (aCons (eC (.int 7)) aNil)) (aCons (eTup (aCons (eC (.int 1)) (aCons (eC (.int 2)) (aCons (eC (.int 3)) (aCons (eC (.int 4)) (aCons (eC (.int 5)) aNil)))))) (aCons (eC .non) (aCons (eTup (aCons (eC (.bl true)) aNil)) (aCons (eC (.int 3)) aNil)))))))) aNil)))))
def m_law_p13 : SS :=
  (sIf (bOr (bEx (eOp neF (eTold (eCall m_keeps (aCons (eVar 6) (aCons (eTup (aCons (eC (.int 0)) aNil)) aNil)))) (eTup (aCons (eC (.str "BadValue")) (aCons (eC (.int 0)) aNil))))) (bEx (eOp neF (eTold (eCall m_rota (aCons (eVar 6) aNil))) (eTup (aCons (eC (.str "BadValue")) (aCons (eC (.int 0)) aNil))))))
    (sRet (eC (.bl false)))
    sNext)
def m_law_p14 : SS :=
  (sIf (bOr (bEx (eOp neF (eTold (eCall m_keeps (aCons (eTup (aCons (eC (.int 2)) (aCons (eC (.int 2)) aNil))) (aCons (eTup aNil) aNil)))) (eTup (aCons (eC (.str "BadValue")) (aCons (eC (.int 1)) aNil))))) (bEx (eOp neF (eTold (eCall m_keeps (aCons (eTup (aCons (eC (.int 2)) (aCons (eC (.int 2)) aNil))) (aCons (eTup (aCons (eC (.int 0)) (aCons (eC (.int 2)) aNil))) aNil)))) (eTup (aCons (eC (.str "BadValue")) (aCons (eC (.int 1)) aNil))))))
    (sRet (eC (.bl false)))
    sNext)
def m_law_p15 : SS :=
  (sRet (eAnd (eCall (m_law_so 24) (aCons (eCall m_schedule (aCons (eVar 3) (aCons (eC (.int 1)) (aCons (eTup aNil) aNil)))) (aCons (eTup (aCons (eC (.int 0)) (aCons (eC (.int 3)) aNil))) aNil))) (eAnd (eCall (m_law_so 24) (aCons (eCall m_rota (aCons (eTup (aCons (eC (.int 6)) aNil)) aNil)) (aCons (eTup (aCons (eC (.int 0)) aNil)) aNil))) (eAnd (eCall (m_law_so 24) (aCons (eCall m_chosen (aCons (eTup aNil) (aCons (eTup aNil) (aCons (eC (.int 0)) (aCons (eTup aNil) aNil))))) (aCons (eTup (aCons (eC (.int 0)) (aCons (eTup aNil) aNil))) aNil))) (eCall (m_law_so 24) (aCons (eCall m_hands (aCons (eTup aNil) aNil)) (aCons (eTup (aCons (eC (.int 0)) (aCons (eTup aNil) aNil))) aNil)))))))
/-- law: script 0, row 1, spot 2, good 3, bad 4, shut 5, wrong 6, k 7 -/
def m_law : Fn := runB 8
  (sSeq m_law_p1
  (sSeq m_law_p2
  (sSeq m_law_p3
  (sSeq m_law_p4
  (sSeq m_law_p5
  (sSeq m_law_p6
  (sSeq m_law_p7
  (sSeq m_law_p8
  (sSeq m_law_p9
  (sSeq m_law_p10
  (sSeq m_law_p11
  (sSeq m_law_p12
  (sSeq m_law_p13
  (sSeq m_law_p14
  m_law_p15))))))))))))))
end Mp
/-! PreSpec: what the laws' own helpers reckon. -/
namespace Mp
open PySem PySem.Spec PyProof.Rows L2
/-! ### loops -/
theorem upFrom_int {lo : Int} {n : Nat} : ∀ d ∈ upFrom lo n, ∃ j : Int, d = .int j ∧ lo ≤ j ∧ j < lo + n := by
  intro d hd
  unfold upFrom at hd
  obtain ⟨i, hi, rfl⟩ := List.mem_map.mp hd
  have := List.mem_range.mp hi
  exact ⟨_, rfl, by omega, by omega⟩
theorem upFrom_len {lo : Int} {n : Nat} : (upFrom lo n).length = n := by unfold upFrom; simp
theorem cutD_map {α β : Type} (f : α → β) (xs : List α) (lo hi : Option Int) : cutD (xs.map f) lo hi = (cutD xs lo hi).map f := by
  unfold cutD
  simp [List.map_take, List.map_drop]
theorem cutD_len {α : Type} (xs : List α) (lo hi : Option Int) : (cutD xs lo hi).length ≤ xs.length := by
  unfold cutD
  simp only [List.length_take, List.length_drop]; omega
/-! ### the row of numbers -/
theorem dok997 : divOk 997 = true := divOk_of _ (by decide) (by decide) (by decide)
theorem numbers_l1 (sc : Option D) (c : Option D) (x5 : Option D) : ∀ (items : List D) (l : Int) (x4 : Option D) (acc : List Int), (∃ y3 y4 acc', fl (fun _ => true) (.n 4) m_law_numbers_l1 items [sc, some (.ref 0), c, some (.int l), x4, x5] [.lst (acc.map D.int)] = .nx [sc, some (.ref 0), c, y3, y4, x5] [.lst ((acc' : List Int).map D.int)] ∧ acc'.length ≤ acc.length + items.length) ∨ 999999 < acc.length + items.length
  | [], l, x4, acc => .inl ⟨some (.int l), x4, acc, by simp [fl], by simp⟩
  | d :: r, l, x4, acc => by
    by_cases hb : acc.length + (d :: r).length ≤ 999999
    · left
      unfold fl
      simp only [if_true, bindP_n]
      by_cases hl : l = 0
      · subst hl
        exact ⟨some (.int 0), some d, acc, by simp [m_law_numbers_l1], by simp⟩
      · have hacc : acc.length < 1000000 := by simp at hb; omega
        have e1 : m_law_numbers_l1 [sc, some (.ref 0), c, some (.int l), some d, x5] [.lst (acc.map D.int)] = .nx [sc, some (.ref 0), c, some (.int (l.fdiv 997)), some d, x5] [.lst ((acc ++ [l % 997]).map D.int)] := by
          simp [m_law_numbers_l1, hl, kindOk, appF, hacc, dok997]
        simp only [List.set_cons_succ, List.set_cons_zero, e1]
        rcases numbers_l1 sc c x5 r (l.fdiv 997) (some d) (acc ++ [l % 997]) with ⟨y3, y4, acc', e, hlen⟩ | z
        · exact ⟨y3, y4, acc', e, by simp at hlen ⊢; omega⟩
        · simp at z hb; omega
    · right; omega
theorem numbers_l2 (sc x3 : Option D) (c : Int) : ∀ (items : List D) (x4 x5 : Option D) (acc : List Int), (∀ d ∈ items, ∃ j : Int, d = .int j) → acc.length + items.length ≤ 999999 →
    ∃ y4 y5 acc', fl (fun _ => true) (.n 4) m_law_numbers_l2 items [sc, some (.ref 0), some (.int c), x3, x4, x5] [.lst (acc.map D.int)] = .nx [sc, some (.ref 0), some (.int c), x3, y4, y5] [.lst ((acc' : List Int).map D.int)] ∧ acc'.length ≤ acc.length + items.length
  | [], x4, x5, acc, _, _ => ⟨x4, x5, acc, by simp [fl], by simp⟩
  | d :: r, x4, x5, acc, hi, hb => by
    obtain ⟨j, rfl⟩ := hi d (by simp)
    have hacc : acc.length < 1000000 := by simp at hb; omega
    unfold fl
    simp only [if_true, bindP_n, List.set_cons_succ, List.set_cons_zero]
    have m1 : mulOk c 48271 = true := mulOk_r _ _ (by decide) (by decide)
    have m2 : mulOk j 69621 = true := mulOk_r _ _ (by decide) (by decide)
    have m3 : ∀ z, mulOk z 16807 = true := fun z => mulOk_r _ _ (by decide) (by decide)
    obtain ⟨v, w, e1⟩ : ∃ v w, m_law_numbers_l2 [sc, some (.ref 0), some (.int c), x3, some (.int j), x5] [.lst (acc.map D.int)] = .nx [sc, some (.ref 0), some (.int c), x3, some (.int j), some v] [.lst ((acc ++ [w]).map D.int)] := by
      simp [m_law_numbers_l2, kindOk, appF, hacc, m1, m2, m3]
    simp only [e1]
    obtain ⟨y4, y5, acc', e, hlen⟩ := numbers_l2 sc x3 c r (some (.int j)) (some v) (acc ++ [w]) (fun d hd => hi d (by simp [hd])) (by simp at hb ⊢; omega)
    exact ⟨y4, y5, acc', e, by simp at hlen ⊢; omega⟩
theorem numbers_l3 (sc : Option D) : ∀ (zs : List Int) (x2 x3 x4 x5 : Option D) (acc : List Int), acc.length + 60 * zs.length ≤ 999999 →
    ∃ y2 y3 y4 y5 acc', fl (fun _ => true) (.n 2) m_law_numbers_l3 (zs.map D.int) [sc, some (.ref 0), x2, x3, x4, x5] [.lst (acc.map D.int)] = .nx [sc, some (.ref 0), y2, y3, y4, y5] [.lst ((acc' : List Int).map D.int)] ∧ acc'.length ≤ acc.length + 60 * zs.length
  | [], x2, x3, x4, x5, acc, _ => ⟨x2, x3, x4, x5, acc, by simp [fl], by simp⟩
  | c :: r, x2, x3, x4, x5, acc, hb => by
    simp only [List.length_cons] at hb
    have key : ∃ y2 y3 y4 y5 acc', m_law_numbers_l3 [sc, some (.ref 0), some (.int c), x3, x4, x5] [.lst (acc.map D.int)] = .nx [sc, some (.ref 0), y2, y3, y4, y5] [.lst ((acc' : List Int).map D.int)] ∧ acc'.length ≤ acc.length + 60 := by
      by_cases hc : (1000000000000000000 : Int) ≤ c
      · rcases numbers_l1 sc (some (.int c)) x5 (upFrom 0 60) c x4 acc with ⟨y3, y4, acc', e, hl⟩ | z
        · exact ⟨some (.int c), y3, y4, x5, acc', by simp [m_law_numbers_l3, hc, e], by rw [upFrom_len] at hl; exact hl⟩
        · rw [upFrom_len] at z; omega
      · obtain ⟨y4, y5, acc', e, hl⟩ := numbers_l2 sc x3 c (upFrom 0 4) x4 x5 acc (fun d hd => by obtain ⟨j, e, _⟩ := upFrom_int d hd; exact ⟨j, e⟩) (by rw [upFrom_len]; omega)
        exact ⟨some (.int c), x3, y4, y5, acc', by simp [m_law_numbers_l3, hc, e], by rw [upFrom_len] at hl; omega⟩
    obtain ⟨y2, y3, y4, y5, acc1, e1, h1⟩ := key
    obtain ⟨z2, z3, z4, z5, acc2, e2, h2⟩ := numbers_l3 sc r y2 y3 y4 y5 acc1 (by omega)
    refine ⟨z2, z3, z4, z5, acc2, ?_, by simp only [List.length_cons]; omega⟩
    rw [List.map_cons]
    unfold fl
    simp only [if_true, bindP_n, List.set_cons_succ, List.set_cons_zero, e1]
    exact e2
theorem numbers_raw (b : Bool) (ns : List Int) (hn : ns.length ≤ 63) : ∃ row : List Int, row ≠ [] ∧ row.length ≤ 4000 ∧ m_law_numbers [scD b (ns.map D.int)] [] = .ok (.ref 0) [.lst (row.map D.int)] := by
  unfold m_law_numbers
  rw [runB_s]
  have e0 : ∀ h, slF (scD b (ns.map D.int)) none (some 63) h = .ok (.lst (cutD (ns.map D.int) none (some 63))) h := fun h => by cases b <;> simp [scD, slF]
  simp [e0, cutD_map]
  generalize hz : cutD ns none (some 63) = zs
  have hzl : zs.length ≤ 63 := by rw [← hz]; exact Nat.le_trans (cutD_len _ _ _) hn
  obtain ⟨y2, y3, y4, y5, row, e, hl⟩ := numbers_l3 (some (scD b (ns.map D.int))) zs none none none none [] (by simp; omega)
  simp only [List.map_nil] at e
  rw [e]
  by_cases hr : row = []
  · subst hr
    exact ⟨[0], by simp, by simp, by simp [kindOk, appF, lenF]⟩
  · have : (row.map D.int).length ≠ 0 := by simpa using hr
    refine ⟨row, hr, by simp at hl; omega, ?_⟩
    simp [lenF, hr]
/-- the row of numbers that a law makes of its script -/
theorem numbers_ok (b : Bool) (ns : List Int) (hn : ns.length ≤ 63) : ∃ row : List Int, row ≠ [] ∧ row.length ≤ 4000 ∧ ∀ h, callL m_law_numbers [scD b (ns.map D.int)] h = .ok (.lst (row.map D.int)) h := by
  obtain ⟨row, h1, h2, e⟩ := numbers_raw b ns hn
  exact ⟨row, h1, h2, call_pure (by cases b <;> simp [scD]) e (frz_cell (by simp) rfl (by simp))⟩
/-! ### draws -/
def draw (row : List Int) (at_ lim : Int) : Int :=
  if at_ < row.length then row.getD at_.toNat 0 % lim else ((((row.getD (at_ % row.length).toNat 0 * 40692 + at_ * 7919 + 3) % 2147483399) * 48271 + at_) % 2147483647) % lim
theorem draw_range {row : List Int} {a l : Int} (hl : 0 < l) : 0 ≤ draw row a l ∧ draw row a l < l := by
  unfold draw
  split
  · exact ⟨Int.emod_nonneg _ (by omega), Int.emod_lt_of_pos _ hl⟩
  · exact ⟨Int.emod_nonneg _ (by omega), Int.emod_lt_of_pos _ hl⟩
theorem draw_ok {row : List Int} (hr : row ≠ []) {a l : Int} (ha : 0 ≤ a) (hl : 0 < l) (h : Hc) : callL m_law_draw [.lst (row.map D.int), .int a, .int l] h = .ok (.int (draw row a l)) h := by
  refine call_flat (h' := []) (by simp) ?_ (by simp) h
  unfold m_law_draw
  rw [runB_s]
  have hp : 0 < row.length := by cases row <;> simp_all
  have m1 : ∀ z, mulOk z 40692 = true := fun z => mulOk_r _ _ (by decide) (by decide)
  have m2 : mulOk a 7919 = true := mulOk_r _ _ (by decide) (by decide)
  have m3 : ∀ z, mulOk z 48271 = true := fun z => mulOk_r _ _ (by decide) (by decide)
  by_cases hc : a < row.length
  · have e : atI (row.map D.int) a = some (.int (row.getD a.toNat 0)) := by
      rw [atI_of ha (by simpa using hc)]
      have : a.toNat < row.length := by omega
      simp [this]
    simp [hc, e, hl, draw]
  · have h1 := Int.emod_nonneg a (show (row.length : Int) ≠ 0 by omega)
    have h2 := Int.emod_lt_of_pos a (show (0 : Int) < row.length by omega)
    have e : atI (row.map D.int) (a % row.length) = some (.int (row.getD (a % row.length).toNat 0)) := by
      rw [atI_of h1 (by simpa using h2)]
      have : (a % row.length).toNat < row.length := by omega
      simp [this]
    simp [hc, e, hl, draw, m1, m2, m3, hp]
theorem take_raw {row : List Int} (hr : row ≠ []) {k l : Int} (hk : 0 ≤ k) (hl : 0 < l) : m_law_take [.lst (row.map D.int), .ref 0, .int l] [.lst [.int k]] = .ok (.int (draw row k l)) [.lst [.int (k + 1)]] := by
  unfold m_law_take
  rw [runB_s]
  simp [ixF, setF, ixN, draw_ok hr hk hl]
theorem take_ok {row : List Int} (hr : row ≠ []) {k l : Int} {i : Nat} {h : Hc} (hi : h[i]? = some (.lst [.int k])) (hk : 0 ≤ k) (hl : 0 < l) : callL m_law_take [.lst (row.map D.int), .ref i, .int l] h = .ok (.int (draw row k l)) (h.set i (.lst [.int (k + 1)])) :=
  call_spot (by simp) (by simp) hi (take_raw hr hk hl) (by simp) fun j => frzD_flat (by simp)
end Mp
/-! PreSpecB: draws that are wide, and the law's own quotients. -/
namespace Mp
open PySem PySem.Spec PyProof.Rows L2
section
variable {row : List Int} (hr : row ≠ [])
include hr
theorem take_ex {k l : Int} {i : Nat} {h : Hc} (hi : h[i]? = some (.lst [.int k])) (hk : 0 ≤ k) (hl : 0 < l) : ∃ v k', 0 ≤ v ∧ v < l ∧ 0 ≤ k' ∧ callL m_law_take [.lst (row.map D.int), .ref i, .int l] h = .ok (.int v) (h.set i (.lst [.int k'])) :=
  ⟨draw row k l, k + 1, (draw_range hl).1, (draw_range hl).2, by omega, take_ok hr hi hk hl⟩
end
/-! ### the gcd -/
/-! ### quotients -/
/-- the number that divides both, with the sign of the divisor -/
def sg (n d : Int) : Int := if d < 0 then -(Int.gcd n d : Int) else (Int.gcd n d : Int)
/-- a quotient in lowest terms -/
def rdc (n d : Int) : D := .tup [.int (n.fdiv (sg n d)), .int (d.fdiv (sg n d))]
end Mp
/-! PreSpecC: sums of quotients, the same answer, what is handed in. -/
namespace Mp
open PySem PySem.Spec PyProof.Rows L2
/-- a quotient as a value -/
abbrev qv (n d : Int) : D := .tup [.int n, .int d]
/-- a number that is small -/
def sm (m : Nat) (n : Int) : Prop := n.natAbs < 2 ^ m
/-! ### a quotient that is drawn -/
section
variable {row : List Int} (hr : row ≠ [])
include hr
end
/-! ### the same answer -/
def soFit : Nat → D → Bool
  | 0, _ => false
  | n + 1, d => match d with
    | .int _ => true
    | .bl _ => true
    | .str _ => true
    | .non => true
    | .tup xs => decide (xs.length < 1000000) && xs.all (soFit n)
    | _ => false
/-! ### what is handed in -/
/-- a row of two, as a tuple or as a list -/
def pq (b : Bool) (n d : Int) : D := if b then .lst [.int n, .int d] else qv n d
end Mp
/-! QuoSpec: what the program's quotients reckon. -/
namespace Mp
open PySem PySem.Spec PyProof.Rows L2
section
variable (x y : Bool) {a b c d : Int} (ha : sm 4000 a) (hb : sm 4000 b) (hc : sm 4000 c) (hd : sm 4000 d) (b1 : 1 ≤ b) (gab : Int.gcd a b = 1) (d1 : 1 ≤ d) (gcd_ : Int.gcd c d = 1) (h : Hc)
include ha hb hc hd b1 gab d1 gcd_
end
end Mp
/-! AgeSpec: lives, what they use and pay. -/
namespace Mp
open PySem PySem.Spec PyProof.Rows L2
/-- a row of numbers, as a list or as a tuple -/
def sq (b : Bool) (xs : List Int) : D := if b then .lst (xs.map D.int) else .tup (xs.map D.int)
theorem flatL_of {xs : List D} (h : ∀ x ∈ xs, flat x = true) : flatL xs = true := by
  induction xs with
  | nil => simp
  | cons x xs ih => simp [h x (by simp), ih fun y hy => h y (by simp [hy])]
section
variable {row : List Int} (hr : row ≠ [])
include hr
/-- one of some things -/
theorem pick_ex {k : Int} {i : Nat} {h : Hc} {xs : List D} (hf : ∀ x ∈ xs, flat x = true) (hx : xs ≠ []) (hi : h[i]? = some (.lst [.int k])) (hk : 0 ≤ k) : ∃ v k', v ∈ xs ∧ 0 ≤ k' ∧ callL m_law_pick [.lst (row.map D.int), .ref i, .lst xs] h = .ok v (h.set i (.lst [.int k'])) := by
  have hp : 0 < xs.length := by cases xs <;> simp_all
  obtain ⟨v, k1, a1, b1, c1, e1⟩ := take_ex hr (h := [.lst [.int k]]) (i := 0) (l := (xs.length : Int)) rfl hk (by omega)
  simp at e1
  have hj : v.toNat < xs.length := by omega
  have e2 : atI xs v = some xs[v.toNat] := by rw [atI_of a1 (by omega)]; simp [hj]
  refine ⟨xs[v.toNat], k1, List.getElem_mem hj, c1, call_spot (d0 := xs[v.toNat]) (h' := [.lst [.int k1]]) (by simp) (by simp [flatL_of hf]) hi ?_ rfl fun j => frzD_flat (hf _ (List.getElem_mem hj))⟩
  unfold m_law_pick
  rw [runB_s]
  simp [e1, e2]
omit hr in
theorem pick_step {i : Nat} {L : SE} {ds : Sl} {h h' : Hc} {rw xs : List D} {v : D} (h1 : ds[1]? = some (some (.lst rw))) (h2 : ds[2]? = some (some (.ref 0))) (hL : L ds h = .ok (.lst xs) h) (hp : callL m_law_pick [.lst rw, .ref 0, .lst xs] h = .ok v h') :
    sSet i (eCall m_law_pick (aCons (eVar 1) (aCons (eVar 2) (aCons L aNil)))) ds h = .nx (ds.set i (some v)) h' := by
  simp [h1, h2, hL, hp]
end
/-- a life: some days, each with a weight, the last with one -/
structure Life (l : List Int) : Prop where
  ne : l ≠ []
  len : l.length ≤ 12
  w : ∀ x ∈ l, 0 ≤ x ∧ x ≤ 9
  last : ∀ h : l ≠ [], 1 ≤ l.getLast h
section
variable {row : List Int} (hr : row ≠ [])
include hr
end
/-- the days that a life uses, up to an age -/
def usedF (age : Int) : Int → List Int → Int
  | _, [] => 0
  | n, w :: r => w * (if age < n + 1 then age else n + 1) + usedF age (n + 1) r
/-- what a policy pays -/
def paidF (l : List Int) (plan fail : Int) (age : Nat) : Int := fail * (l.take age).sum + plan * (l.sum - (l.take age).sum)
/-! ### what the law pays -/
def costF (plan fail age : Int) : Int → List Int → Int
  | _, [] => 0
  | n, w :: r => w * (if n + 1 ≤ age then fail else plan) + costF plan fail age (n + 1) r
def daysF (age : Int) : Int → List Int → Int
  | _, [] => 0
  | n, w :: r => w * (if n + 1 ≤ age then n + 1 else age) + daysF age (n + 1) r
end Mp
namespace Mp
open PySem PySem.Spec PyProof.Rows L2
theorem p3_K63 (sc r : Option D) (k : Int) :  m_law_p3 [sc, r, some (.ref 0), none, none, none, none, none] [.lst [.int k]] = .nx [sc, r, some (.ref 0), some (.tup [.tup [.str "a", .int 0, .int 30], .tup [.str "b", .int 3, .int 3]]), none, none, none, none] [.lst [.int k]] := by kernel_rfl
abbrev lsK63_bad : List D := [.tup [.tup [.str "a", .int 0, .int 31]], .tup [.tup [.str "a", .int 2, .int 1]], .tup [.tup [.str "a", .int (-1), .int 1]], .tup [.tup [.str "a", .int 0, .int 1], .tup [.str "a", .int 0, .int 1]], .tup [.tup [.str "A", .int 0, .int 1]], .tup [.tup [.str "a", .int 0]], .non, .tup [.str "a"], .tup [.tup [.str "a", .bl true, .int 1]], .tup [.tup [.str "a", .int 0, .int 1], .tup [.str "b", .int 0, .int 1], .tup [.str "c", .int 0, .int 1], .tup [.str "d", .int 0, .int 1], .tup [.str "e", .int 0, .int 1], .tup [.str "f", .int 0, .int 1], .tup [.str "g", .int 0, .int 1], .tup [.str "h", .int 0, .int 1], .tup [.str "i", .int 0, .int 1], .tup [.str "j", .int 0, .int 1], .tup [.str "k", .int 0, .int 1], .tup [.str "l", .int 0, .int 1], .tup [.str "m", .int 0, .int 1]]]
theorem p5_K63 (sc r : Option D) (k : Int) : ∀ w_bad ∈ lsK63_bad, m_law_p5 [sc, r, some (.ref 0), some (.tup [.tup [.str "a", .int 0, .int 30], .tup [.str "b", .int 3, .int 3]]), some w_bad, none, none, none] [.lst [.int k]] = .nx [sc, r, some (.ref 0), some (.tup [.tup [.str "a", .int 0, .int 30], .tup [.str "b", .int 3, .int 3]]), some w_bad, none, none, none] [.lst [.int k]] := by
  (repeat (refine List.forall_mem_cons.mpr ⟨by kernel_rfl, ?_⟩)); exact fun _ h => nomatch h
theorem p6_K63 (sc r : Option D) (k : Int) : ∀ w_bad ∈ lsK63_bad, m_law_p6 [sc, r, some (.ref 0), some (.tup [.tup [.str "a", .int 0, .int 30], .tup [.str "b", .int 3, .int 3]]), some w_bad, none, none, none] [.lst [.int k]] = .nx [sc, r, some (.ref 0), some (.tup [.tup [.str "a", .int 0, .int 30], .tup [.str "b", .int 3, .int 3]]), some w_bad, none, none, none] [.lst [.int k]] := by
  (repeat (refine List.forall_mem_cons.mpr ⟨by kernel_rfl, ?_⟩)); exact fun _ h => nomatch h
theorem p7_K63 (sc r : Option D) (k : Int) (w_bad : Option D) :  m_law_p7 [sc, r, some (.ref 0), some (.tup [.tup [.str "a", .int 0, .int 30], .tup [.str "b", .int 3, .int 3]]), w_bad, none, none, none] [.lst [.int k]] = .nx [sc, r, some (.ref 0), some (.tup [.tup [.str "a", .int 0, .int 30], .tup [.str "b", .int 3, .int 3]]), w_bad, none, none, none] [.lst [.int k]] := by kernel_rfl
abbrev lsK63_shut : List D := [.tup [.int 31], .tup [.int (-1)], .tup [.str "1"], .non, .int 5, .tup [.bl true], .tup [.int 0, .int 0, .int 1, .int 1, .int 2, .int 2, .int 3, .int 3, .int 4, .int 4, .int 5, .int 5, .int 6, .int 6, .int 7, .int 7, .int 8, .int 8, .int 9, .int 9, .int 10, .int 10, .int 11, .int 11, .int 12, .int 12, .int 13, .int 13, .int 14, .int 14, .int 15, .int 15]]
theorem p9_K63 (sc r : Option D) (k : Int) (w_bad : Option D) : ∀ w_shut ∈ lsK63_shut, m_law_p9 [sc, r, some (.ref 0), some (.tup [.tup [.str "a", .int 0, .int 30], .tup [.str "b", .int 3, .int 3]]), w_bad, some w_shut, none, none] [.lst [.int k]] = .nx [sc, r, some (.ref 0), some (.tup [.tup [.str "a", .int 0, .int 30], .tup [.str "b", .int 3, .int 3]]), w_bad, some w_shut, none, none] [.lst [.int k]] := by
  (repeat (refine List.forall_mem_cons.mpr ⟨by kernel_rfl, ?_⟩)); exact fun _ h => nomatch h
theorem p10_K63 (sc r : Option D) (k : Int) (w_bad : Option D) : ∀ w_shut ∈ lsK63_shut, m_law_p10 [sc, r, some (.ref 0), some (.tup [.tup [.str "a", .int 0, .int 30], .tup [.str "b", .int 3, .int 3]]), w_bad, some w_shut, none, none] [.lst [.int k]] = .nx [sc, r, some (.ref 0), some (.tup [.tup [.str "a", .int 0, .int 30], .tup [.str "b", .int 3, .int 3]]), w_bad, some w_shut, none, none] [.lst [.int k]] := by
  (repeat (refine List.forall_mem_cons.mpr ⟨by kernel_rfl, ?_⟩)); exact fun _ h => nomatch h
theorem p11_K63 (sc r : Option D) (k : Int) (w_bad : Option D) (w_shut : Option D) :  m_law_p11 [sc, r, some (.ref 0), some (.tup [.tup [.str "a", .int 0, .int 30], .tup [.str "b", .int 3, .int 3]]), w_bad, w_shut, none, none] [.lst [.int k]] = .nx [sc, r, some (.ref 0), some (.tup [.tup [.str "a", .int 0, .int 30], .tup [.str "b", .int 3, .int 3]]), w_bad, w_shut, none, none] [.lst [.int k]] := by kernel_rfl
abbrev lsK63_wrong : List D := [.tup [], .tup [.int 0], .tup [.int 7], .tup [.int 1, .int 2, .int 3, .int 4, .int 5], .non, .tup [.bl true], .int 3]
theorem p13_K63 (sc r : Option D) (k : Int) (w_bad : Option D) (w_shut : Option D) : ∀ w_wrong ∈ lsK63_wrong, m_law_p13 [sc, r, some (.ref 0), some (.tup [.tup [.str "a", .int 0, .int 30], .tup [.str "b", .int 3, .int 3]]), w_bad, w_shut, some w_wrong, none] [.lst [.int k]] = .nx [sc, r, some (.ref 0), some (.tup [.tup [.str "a", .int 0, .int 30], .tup [.str "b", .int 3, .int 3]]), w_bad, w_shut, some w_wrong, none] [.lst [.int k]] := by
  (repeat (refine List.forall_mem_cons.mpr ⟨by kernel_rfl, ?_⟩)); exact fun _ h => nomatch h
theorem p14_K63 (sc r : Option D) (k : Int) (w_bad : Option D) (w_shut : Option D) (w_wrong : Option D) :  m_law_p14 [sc, r, some (.ref 0), some (.tup [.tup [.str "a", .int 0, .int 30], .tup [.str "b", .int 3, .int 3]]), w_bad, w_shut, w_wrong, none] [.lst [.int k]] = .nx [sc, r, some (.ref 0), some (.tup [.tup [.str "a", .int 0, .int 30], .tup [.str "b", .int 3, .int 3]]), w_bad, w_shut, w_wrong, none] [.lst [.int k]] := by kernel_rfl
theorem p15_K63 (sc r : Option D) (k : Int) (w_bad : Option D) (w_shut : Option D) (w_wrong : Option D) :  m_law_p15 [sc, r, some (.ref 0), some (.tup [.tup [.str "a", .int 0, .int 30], .tup [.str "b", .int 3, .int 3]]), w_bad, w_shut, w_wrong, none] [.lst [.int k]] = .rt (.bl true) [.lst [.int k]] := by kernel_rfl
theorem law_ok (b : Bool) (ns : List Int) (hn : ns.length ≤ 63) : ∃ h, m_law [scD b (ns.map D.int)] [] = .ok (.bl true) h := by
  obtain ⟨row, hr, _, e0⟩ := numbers_ok b ns hn
  generalize hsc : scD b (ns.map D.int) = sc at e0
  have s1 : m_law_p1 [some sc, none, none, none, none, none, none, none] [] = .nx [some sc, some (.lst (row.map D.int)), none, none, none, none, none, none] [] := by simp [m_law_p1, e0]
  have s2 : m_law_p2 [some sc, some (.lst (row.map D.int)), none, none, none, none, none, none] [] = .nx [some sc, some (.lst (row.map D.int)), some (.ref 0), none, none, none, none, none] [.lst [.int 0]] := by simp [m_law_p2]
  have s3 : m_law_p3 [some sc, some (.lst (row.map D.int)), some (.ref 0), none, none, none, none, none] [.lst [.int 0]] = .nx [some sc, some (.lst (row.map D.int)), some (.ref 0), some (.tup [.tup [.str "a", .int 0, .int 30], .tup [.str "b", .int 3, .int 3]]), none, none, none, none] [.lst [.int 0]] := p3_K63 _ _ _
  obtain ⟨v_bad, k1, h_bad, hk1, e_bad⟩ := pick_ex hr (xs := lsK63_bad) (k := 0) (h := [.lst [.int 0]]) (i := 0) (by decide +kernel) (by decide) rfl (by decide)
  have s4 : m_law_p4 [some sc, some (.lst (row.map D.int)), some (.ref 0), some (.tup [.tup [.str "a", .int 0, .int 30], .tup [.str "b", .int 3, .int 3]]), none, none, none, none] [.lst [.int 0]] = .nx [some sc, some (.lst (row.map D.int)), some (.ref 0), some (.tup [.tup [.str "a", .int 0, .int 30], .tup [.str "b", .int 3, .int 3]]), some v_bad, none, none, none] [.lst [.int k1]] := pick_step (xs := lsK63_bad) rfl rfl (by kernel_rfl) e_bad
  have s5 : m_law_p5 [some sc, some (.lst (row.map D.int)), some (.ref 0), some (.tup [.tup [.str "a", .int 0, .int 30], .tup [.str "b", .int 3, .int 3]]), some v_bad, none, none, none] [.lst [.int k1]] = .nx [some sc, some (.lst (row.map D.int)), some (.ref 0), some (.tup [.tup [.str "a", .int 0, .int 30], .tup [.str "b", .int 3, .int 3]]), some v_bad, none, none, none] [.lst [.int k1]] := p5_K63 _ _ _ v_bad h_bad
  have s6 : m_law_p6 [some sc, some (.lst (row.map D.int)), some (.ref 0), some (.tup [.tup [.str "a", .int 0, .int 30], .tup [.str "b", .int 3, .int 3]]), some v_bad, none, none, none] [.lst [.int k1]] = .nx [some sc, some (.lst (row.map D.int)), some (.ref 0), some (.tup [.tup [.str "a", .int 0, .int 30], .tup [.str "b", .int 3, .int 3]]), some v_bad, none, none, none] [.lst [.int k1]] := p6_K63 _ _ _ v_bad h_bad
  have s7 : m_law_p7 [some sc, some (.lst (row.map D.int)), some (.ref 0), some (.tup [.tup [.str "a", .int 0, .int 30], .tup [.str "b", .int 3, .int 3]]), some v_bad, none, none, none] [.lst [.int k1]] = .nx [some sc, some (.lst (row.map D.int)), some (.ref 0), some (.tup [.tup [.str "a", .int 0, .int 30], .tup [.str "b", .int 3, .int 3]]), some v_bad, none, none, none] [.lst [.int k1]] := p7_K63 _ _ _ _
  obtain ⟨v_shut, k2, h_shut, hk2, e_shut⟩ := pick_ex hr (xs := lsK63_shut) (k := k1) (h := [.lst [.int k1]]) (i := 0) (by decide +kernel) (by decide) rfl hk1
  have s8 : m_law_p8 [some sc, some (.lst (row.map D.int)), some (.ref 0), some (.tup [.tup [.str "a", .int 0, .int 30], .tup [.str "b", .int 3, .int 3]]), some v_bad, none, none, none] [.lst [.int k1]] = .nx [some sc, some (.lst (row.map D.int)), some (.ref 0), some (.tup [.tup [.str "a", .int 0, .int 30], .tup [.str "b", .int 3, .int 3]]), some v_bad, some v_shut, none, none] [.lst [.int k2]] := pick_step (xs := lsK63_shut) rfl rfl (by kernel_rfl) e_shut
  have s9 : m_law_p9 [some sc, some (.lst (row.map D.int)), some (.ref 0), some (.tup [.tup [.str "a", .int 0, .int 30], .tup [.str "b", .int 3, .int 3]]), some v_bad, some v_shut, none, none] [.lst [.int k2]] = .nx [some sc, some (.lst (row.map D.int)), some (.ref 0), some (.tup [.tup [.str "a", .int 0, .int 30], .tup [.str "b", .int 3, .int 3]]), some v_bad, some v_shut, none, none] [.lst [.int k2]] := p9_K63 _ _ _ _ v_shut h_shut
  have s10 : m_law_p10 [some sc, some (.lst (row.map D.int)), some (.ref 0), some (.tup [.tup [.str "a", .int 0, .int 30], .tup [.str "b", .int 3, .int 3]]), some v_bad, some v_shut, none, none] [.lst [.int k2]] = .nx [some sc, some (.lst (row.map D.int)), some (.ref 0), some (.tup [.tup [.str "a", .int 0, .int 30], .tup [.str "b", .int 3, .int 3]]), some v_bad, some v_shut, none, none] [.lst [.int k2]] := p10_K63 _ _ _ _ v_shut h_shut
  have s11 : m_law_p11 [some sc, some (.lst (row.map D.int)), some (.ref 0), some (.tup [.tup [.str "a", .int 0, .int 30], .tup [.str "b", .int 3, .int 3]]), some v_bad, some v_shut, none, none] [.lst [.int k2]] = .nx [some sc, some (.lst (row.map D.int)), some (.ref 0), some (.tup [.tup [.str "a", .int 0, .int 30], .tup [.str "b", .int 3, .int 3]]), some v_bad, some v_shut, none, none] [.lst [.int k2]] := p11_K63 _ _ _ _ _
  obtain ⟨v_wrong, k3, h_wrong, hk3, e_wrong⟩ := pick_ex hr (xs := lsK63_wrong) (k := k2) (h := [.lst [.int k2]]) (i := 0) (by decide +kernel) (by decide) rfl hk2
  have s12 : m_law_p12 [some sc, some (.lst (row.map D.int)), some (.ref 0), some (.tup [.tup [.str "a", .int 0, .int 30], .tup [.str "b", .int 3, .int 3]]), some v_bad, some v_shut, none, none] [.lst [.int k2]] = .nx [some sc, some (.lst (row.map D.int)), some (.ref 0), some (.tup [.tup [.str "a", .int 0, .int 30], .tup [.str "b", .int 3, .int 3]]), some v_bad, some v_shut, some v_wrong, none] [.lst [.int k3]] := pick_step (xs := lsK63_wrong) rfl rfl (by kernel_rfl) e_wrong
  have s13 : m_law_p13 [some sc, some (.lst (row.map D.int)), some (.ref 0), some (.tup [.tup [.str "a", .int 0, .int 30], .tup [.str "b", .int 3, .int 3]]), some v_bad, some v_shut, some v_wrong, none] [.lst [.int k3]] = .nx [some sc, some (.lst (row.map D.int)), some (.ref 0), some (.tup [.tup [.str "a", .int 0, .int 30], .tup [.str "b", .int 3, .int 3]]), some v_bad, some v_shut, some v_wrong, none] [.lst [.int k3]] := p13_K63 _ _ _ _ _ v_wrong h_wrong
  have s14 : m_law_p14 [some sc, some (.lst (row.map D.int)), some (.ref 0), some (.tup [.tup [.str "a", .int 0, .int 30], .tup [.str "b", .int 3, .int 3]]), some v_bad, some v_shut, some v_wrong, none] [.lst [.int k3]] = .nx [some sc, some (.lst (row.map D.int)), some (.ref 0), some (.tup [.tup [.str "a", .int 0, .int 30], .tup [.str "b", .int 3, .int 3]]), some v_bad, some v_shut, some v_wrong, none] [.lst [.int k3]] := p14_K63 _ _ _ _ _ _
  have s15 : m_law_p15 [some sc, some (.lst (row.map D.int)), some (.ref 0), some (.tup [.tup [.str "a", .int 0, .int 30], .tup [.str "b", .int 3, .int 3]]), some v_bad, some v_shut, some v_wrong, none] [.lst [.int k3]] = .rt (.bl true) [.lst [.int k3]] := p15_K63 _ _ _ _ _ _
  refine ⟨[.lst [.int k3]], ?_⟩
  unfold m_law
  rw [runB_s]
  simp only [List.map_cons, List.map_nil, List.length_cons, List.length_nil, Nat.reduceAdd, Nat.reduceSub, List.replicate_succ, List.replicate_zero, List.cons_append, List.nil_append]
  rw [seq_nx _ _ _ _ _ _ s1, seq_nx _ _ _ _ _ _ s2, seq_nx _ _ _ _ _ _ s3, seq_nx _ _ _ _ _ _ s4, seq_nx _ _ _ _ _ _ s5, seq_nx _ _ _ _ _ _ s6, seq_nx _ _ _ _ _ _ s7, seq_nx _ _ _ _ _ _ s8, seq_nx _ _ _ _ _ _ s9, seq_nx _ _ _ _ _ _ s10, seq_nx _ _ _ _ _ _ s11, seq_nx _ _ _ _ _ _ s12, seq_nx _ _ _ _ _ _ s13, seq_nx _ _ _ _ _ _ s14, s15, fin_rt]
end Mp
/-! LayHd: the end by one run of the top; its facts are looked at behind the run. -/
namespace Mp
open PySem PySem.Spec PyProof.Rows L2
/-! ### the part of the heap that is looked at -/
def valsA (g : Addr → Option Obj) (a : Addr) : List Addr := match g a with
  | some o => He.refsO o
  | none => []
def asM (g : Addr → Option Obj) : List Addr := mainGlobals :: (valsA g mainGlobals).flatMap fun a => match g a with
  | some ⟨_, _, .func fd, _⟩ => a :: He.refV fd.code
  | some ⟨_, _, .cls cd, _⟩ => a :: cd.ns :: (valsA g cd.ns).flatMap fun m => match g m with
      | some ⟨_, _, .func fd, _⟩ => m :: He.refV fd.code
      | _ => [m]
  | some ⟨_, _, .seq its _, _⟩ => a :: its.toList.flatMap He.refV
  | _ => [a]
/-! ### facts -/
abbrev Fq : Type := PySem.W.Frag → Bool
abbrev eqQ (a b : Option (Option Value)) : Bool := decide (a = b)
def fGlo (x : Str) : Fq := fun K => eqQ (PySem.W.nsIn K mainGlobals x) (some (some (.ref (He.ga K x))))
def fFree (x : Str) : Fq := fun K => eqQ (PySem.W.nsIn K mainGlobals x) (some none)
def fBlt (x : Str) (b : String) : Fq := fun K => eqQ (PySem.W.nsIn K mainGlobals x) (some (some (.builtin b)))
def fKeep (x : Str) : Fq := fun K => PySem.W.keepIn K (.ref (He.ga K x))
def dB (d : He.FnD) : Fq := fun K => (He.Fa.code d.at_ d.qual).ok K && (PySem.W.keepIn K (.ref (He.fAd K d.at_)) && (match d.at_.2 with
  | none => fGlo d.at_.1 K
  | some _ => true))
def obsM (fa : List Fq) (fn : List He.FnD) (K : PySem.W.Frag) : He.Al := ((fa.all fun f => f K) && fn.all fun d => dB d K, fn.map fun d => He.fnObs K d.at_)
def valM (fn : List He.FnD) : He.Al := (true, fn.map He.FnD.val)
def SaysM (fa : List Fq) (fn : List He.FnD) (K : PySem.W.Frag) : Prop := obsM fa fn K = valM fn
def obsMG (fa : List Fq) (fn : List He.FnD) (g : Addr → Option Obj) : He.Al := obsM fa fn (He.frG g (asM g))
def hookM (fa : List Fq) (fn : List He.FnD) : PySem.W.Hook where
  α := He.Al
  obs := fun s => obsMG fa fn s.heap.get?
  val := fun _ => valM fn
  says := fun _ h => ∃ K : PySem.W.Frag, K.In h ∧ SaysM fa fn K
  of := fun _ _ e => ⟨_, He.frG_in, e⟩
  keeps := fun _ _ _ ⟨K, hK, c⟩ k => ⟨K, PySem.W.Frag.In.keeps hK k, c⟩
theorem obsMG_eq {fa : List Fq} {fn : List He.FnD} {g : Addr → Option Obj} {s : Shared} (h : ∀ a, g a = s.heap.get? a) : obsMG fa fn g = (hookM fa fn).obs s := by
  have e : g = s.heap.get? := funext h
  rw [e] <;> rfl
section
variable {fa : List Fq} {fn : List He.FnD} {K : PySem.W.Frag} {h : Heap} {mg : Str → Option Value}
theorem SaysM.fact (c : SaysM fa fn K) (i : Nat) {f : Fq} (e : fa[i]? = some f) : f K = true := by
  have c1 := (He.ba (show ((fa.all fun f => f K) && fn.all fun d => dB d K) = true from congrArg (fun z : He.Al => z.1) c)).1
  exact List.all_eq_true.mp c1 f (List.mem_of_getElem? e)
theorem SaysM.def_ (c : SaysM fa fn K) (i : Nat) {d : He.FnD} (e : fn[i]? = some d) : He.fnObs K d.at_ = d.val ∧ dB d K = true := by
  have c2 := (He.ba (show ((fa.all fun f => f K) && fn.all fun d => dB d K) = true from congrArg (fun z : He.Al => z.1) c)).2
  have e1 : fn.map (fun d => He.fnObs K d.at_) = fn.map He.FnD.val := congrArg (fun z : He.Al => z.2) c
  have e2 : (fn.map fun d => He.fnObs K d.at_)[i]? = (fn.map He.FnD.val)[i]? := by rw [e1]
  rw [List.getElem?_map, List.getElem?_map, e] at e2
  exact ⟨Option.some.inj e2, List.all_eq_true.mp c2 d (List.mem_of_getElem? e)⟩
theorem eqQ_ok {a b : Option (Option Value)} (e : eqQ a b = true) : a = b := of_decide_eq_true e
theorem fGlo_ok (X : K.In h) (G : h.Ns mainGlobals mg) {x : Str} (c : fGlo x K = true) : mg x = some (.ref (He.ga K x)) := PySem.W.mg_of X G (eqQ_ok c)
theorem fFree_ok (X : K.In h) (G : h.Ns mainGlobals mg) {x : Str} (c : fFree x K = true) : mg x = none := PySem.W.mg_none_of X G (eqQ_ok c)
theorem fBlt_ok (X : K.In h) (G : h.Ns mainGlobals mg) {x : Str} {b : String} (c : fBlt x b K = true) : mg x = some (.builtin b) := PySem.W.mg_of X G (eqQ_ok c)
/-- a def of the text -/
abbrev fnD (y x : Str) (st : Stmt) : He.FnD := ⟨(y, none), x, x, defArgs st, defBody st, defScope st⟩
abbrev BindsN (x qual : Str) (st : Stmt) (ps : List Str) : Prop := ∀ (kV doc pm : Value) (an : Option Addr) (cdv ct : Value) (us : List Value), us.length = ps.length → bindArgs (PySem.W.fnOf x qual (defArgs st) (defBody st) (defScope st) .none kV doc pm an cdv ct) ⟨us, []⟩ = pure (ps.zip us)
theorem defM_fun (c : SaysM fa fn K) (i : Nat) {x y qual : Str} {z : Option Str} {st : Stmt} (e : fn[i]? = some ⟨(y, z), x, qual, defArgs st, defBody st, defScope st⟩) :
    ∃ fd, Fun K x qual st (He.fAd K (y, z)) fd := by
  obtain ⟨c1, c2⟩ := c.def_ i e
  obtain ⟨c3, c4⟩ := He.ba c2
  obtain ⟨c5, c6⟩ := He.ba c4
  obtain ⟨oc, od, osl, kV, doc, pm, an, cdv, ct, lk, hc⟩ := He.fn_ok c1 c3
  exact ⟨_, fun_mk lk hc c5⟩
theorem defM_glo (X : K.In h) (G : h.Ns mainGlobals mg) (c : SaysM fa fn K) (i : Nat) {y x qual : Str} {st : Stmt} (e : fn[i]? = some ⟨(y, none), x, qual, defArgs st, defBody st, defScope st⟩) : mg y = some (.ref (He.ga K y)) := by
  obtain ⟨c1, c2⟩ := c.def_ i e
  obtain ⟨c3, c4⟩ := He.ba c2
  obtain ⟨c5, c6⟩ := He.ba c4
  exact fGlo_ok X G c6
theorem defM (X : K.In h) (G : h.Ns mainGlobals mg) (c : SaysM fa fn K) (i : Nat) {x : Str} {st : Stmt} {ps : List Str} (hb : BindsN x x st ps) (e : fn[i]? = some (fnD x x st)) : DefAt K mg x x st ps := by
  obtain ⟨fd, F⟩ := defM_fun c i e
  exact ⟨_, fd, defM_glo X G c i e, F, F.binds hb⟩
theorem defMs (X : K.In h) (G : h.Ns mainGlobals mg) (c : SaysM fa fn K) (i : Nat) {y x : Str} {st : Stmt} {ps : List Str} (hb : BindsN x x st ps) (e : fn[i]? = some (fnD y x st)) : DefAs K mg y x x st ps := by
  obtain ⟨fd, F⟩ := defM_fun c i e
  exact ⟨_, fd, defM_glo X G c i e, F, F.binds hb⟩
/-! ### a def that makes lambdas: its code object and its table -/
def fTab (x : Str) : Fq := fun K => match PySem.W.tabIn K x with
  | some (_, P) => (K.lookup P).isNone
  | none => false
theorem fTab_ok {x : Str} (c : fTab x K = true) : ∃ p P, PySem.W.tabIn K x = some (p, P) ∧ K.lookup P = none := by
  unfold fTab at c
  cases q : PySem.W.tabIn K x with
  | none => rw [q] at c; cases c
  | some r =>
    obtain ⟨p, P⟩ := r
    rw [q] at c
    exact ⟨p, P, rfl, by simpa using c⟩
def fTabNe (x y : Str) : Fq := fun K => match PySem.W.tabIn K x, PySem.W.tabIn K y with
  | some (_, P), some (_, Q) => !decide (P = Q)
  | _, _ => false
theorem fTabNe_ok {x y : Str} {p q P Q : Addr} (c : fTabNe x y K = true) (h1 : PySem.W.tabIn K x = some (p, P)) (h2 : PySem.W.tabIn K y = some (q, Q)) : P ≠ Q := by
  unfold fTabNe at c
  rw [h1, h2] at c
  simpa using c
theorem tab_code {x : Str} {p P f : Addr} {oc : Value} {od : Option Addr} {fd : FuncData} {sl : Array (Option Value)} (ht : PySem.W.tabIn K x = some (p, P)) (hg : PySem.W.nsIn K mainGlobals x = some (some (.ref f))) (lk : K.lookup f = some ⟨oc, od, .func fd, sl⟩) : fd.code = .ref p := by
  unfold PySem.W.tabIn at ht
  rw [hg] at ht
  simp only [lk] at ht
  split at ht
  · rename_i c hc
    split at ht
    · split at ht
      · cases ht
        exact hc
      · cases ht
    · cases ht
  · cases ht
theorem defMC (X : K.In h) (G : h.Ns mainGlobals mg) (c : SaysM fa fn K) (i : Nat) {x : Str} {st : Stmt} {ps : List Str} {p P : Addr} (ht : PySem.W.tabIn K x = some (p, P)) (hb : BindsN x x st ps) (e : fn[i]? = some (fnD x x st)) : DefAtC K mg x x st ps p := by
  obtain ⟨fd, F⟩ := defM_fun c i e
  obtain ⟨c1, c2⟩ := c.def_ i e
  obtain ⟨c3, c4⟩ := He.ba c2
  obtain ⟨c5, c6⟩ := He.ba c4
  obtain ⟨oc, od, sl, lk⟩ := fun_lk F
  exact ⟨_, fd, fGlo_ok X G c6, F, F.binds hb, tab_code ht (eqQ_ok c6) lk⟩
/-! ### constants of the top -/
def fInt (x : Str) (i : Int) : Fq := fun K => match PySem.W.nsIn K mainGlobals x with
  | some (some (.int j _)) => decide (j = i)
  | _ => false
theorem fInt_ok (X : K.In h) (G : h.Ns mainGlobals mg) {x : Str} {i : Int} (c : fInt x i K = true) : TopVal K mg x (.int i) := by
  unfold fInt at c
  split at c
  · rename_i j t q
    have e : j = i := of_decide_eq_true c
    subst e
    exact ⟨_, .int j, PySem.W.mg_of X G q, ⟨_, rfl⟩, fun _ => int_rd⟩
  · cases c
def fStr (x z : Str) : Fq := fun K => match PySem.W.nsIn K mainGlobals x with
  | some (some (.str y _)) => decide (y = z)
  | _ => false
theorem fStr_ok (X : K.In h) (G : h.Ns mainGlobals mg) {x z : Str} (c : fStr x z K = true) : TopVal K mg x (.str z) := by
  unfold fStr at c
  split at c
  · rename_i y t q
    have e : y = z := of_decide_eq_true c
    subst e
    exact ⟨_, .str y, PySem.W.mg_of X G q, ⟨_, rfl⟩, fun _ => str_rd⟩
  · cases c
def strsB : List Str → List Value → Bool
  | [], [] => true
  | z :: zs, .str y _ :: vs => decide (y = z) && strsB zs vs
  | _, _ => false
theorem strsB_ok : ∀ {zs : List Str} {vs : List Value}, strsB zs vs = true → Vals (zs.map V.str) vs
  | [], [], _ => .nil
  | [], v :: vs, e => by unfold strsB at e; cases e
  | z :: zs, [], e => by unfold strsB at e; cases e
  | z :: zs, v :: vs, e => by
    cases v with
    | str y t =>
      unfold strsB at e
      obtain ⟨e1, e2⟩ := He.ba e
      have e1' : y = z := of_decide_eq_true e1
      subst e1'
      exact .cons ⟨_, rfl⟩ (strsB_ok e2)
    | _ => unfold strsB at e; cases e
def fStrs (x : Str) (zs : List Str) : Fq := fun K => match PySem.W.nsIn K mainGlobals x with
  | some (some (.ref q)) => (match K.lookup q with
    | some ⟨.type "tuple", _, .seq its _, _⟩ => strsB zs its.toList && decide (its.size ≤ lim)
    | _ => false)
  | _ => false
theorem keyV_strs (zs : List Str) : keyV (zs.map V.str) ≠ true := by cases zs <;> exact Bool.false_ne_true
theorem fStrs_ok (X : K.In h) (G : h.Ns mainGlobals mg) {x : Str} {zs : List Str} (c : fStrs x zs K = true) : TopVal K mg x (.tup (zs.map D.str)) := by
  unfold fStrs at c
  split at c
  · rename_i q e1
    split at c
    · rename_i od its n sl e2
      obtain ⟨c1, c2⟩ := He.ba c
      refine ⟨.ref q, .ref q, PySem.W.mg_of X G e1, rfl, fun ω => ?_⟩
      unfold RelD
      exact ⟨q, _, rfl, ⟨.inr ⟨_, its, n, e2, rfl, rfl, lim_le (of_decide_eq_true c2), strsB_ok c1⟩, fun z => absurd z (keyV_strs zs)⟩, RelL.of_strs zs⟩
    · cases c
  · cases c
/-- (a text, ()) -/
def fStrE (x z : Str) : Fq := fun K => match PySem.W.nsIn K mainGlobals x with
  | some (some (.ref q)) => (match K.lookup q with
    | some ⟨.type "tuple", _, .seq its _, _⟩ => (match its.toList with
      | [.str y _, .ref r] => decide (y = z) && (match K.lookup r with
        | some ⟨.type "tuple", _, .seq is2 _, _⟩ => decide (is2.toList = [])
        | _ => false)
      | _ => false)
    | _ => false)
  | _ => false
theorem fStrE_ok (X : K.In h) (G : h.Ns mainGlobals mg) {x z : Str} (c : fStrE x z K = true) : TopVal K mg x (.tup [.str z, .tup []]) := by
  unfold fStrE at c
  split at c
  · rename_i q e1
    split at c
    · rename_i od its n sl e2
      split at c
      · rename_i y t r e3
        obtain ⟨c1, c2⟩ := He.ba c
        have e4 : y = z := of_decide_eq_true c1
        subst e4
        split at c2
        · rename_i od2 is2 n2 sl2 e5
          have e6 : is2.toList = [] := of_decide_eq_true c2
          refine ⟨.ref q, .ref q, PySem.W.mg_of X G e1, rfl, fun ω => ?_⟩
          have l2 : its.size ≤ lim := by rw [← Array.length_toList, e3]; exact (by decide : 2 ≤ lim)
          have l0 : is2.size ≤ lim := by rw [← Array.length_toList, e6]; exact (by decide : 0 ≤ lim)
          unfold RelD
          refine ⟨q, [.str y, .ref r], rfl, ⟨.inr ⟨_, its, n, e2, rfl, rfl, lim_le l2, by rw [e3]; exact .cons ⟨_, rfl⟩ (.cons rfl .nil)⟩, fun z => absurd z Bool.false_ne_true⟩, RelL.cons str_rd (RelL.cons ?_ RelL.nil)⟩
          unfold RelD
          exact ⟨r, [], rfl, ⟨.inr ⟨_, is2, n2, e5, rfl, rfl, lim_le l0, by rw [e6]; exact .nil⟩, fun z => absurd z Bool.false_ne_true⟩, RelL.nil⟩
        · cases c2
      · cases c
    · cases c
  · cases c
/-! ### exceptions of own classes -/
def clsB (C : Addr) (o : Obj) : Bool := match o with
  | ⟨.type "type", _, .cls cd, sl⟩ => (match cd.mro with
      | .ref c :: bm => decide (c = C) && refsE bm
      | _ => false) && (cd.hasDict && (!cd.hasDel && (match sl.toList with
      | [_, _, _, _, some (.builtin "Exception.__new__"), _] => true
      | _ => false)))
  | _ => false
theorem clsB_ok {C : Addr} {o : Obj} (c : clsB C o = true) : ∃ nm q N bs bm sn sub ab col dd k0 k1 k2 k3 k5, o = excClassObj nm q C N bs bm true sn sub ab col dd k0 k1 k2 k3 k5 "Exception.__new__" ∧ refsE bm = true := by
  unfold clsB at c
  split at c
  · rename_i dd cd sl
    obtain ⟨nm, bs, mro, ns, qn, hd, sn, sb, ab, col, del⟩ := cd
    simp only [Bool.and_eq_true] at c
    obtain ⟨c1, c2, c3, c4⟩ := c
    subst c2
    have e2 : del = false := by simpa using c3
    subst e2
    cases mro with
    | nil => cases c1
    | cons v bm =>
      cases v with
      | ref cc =>
        obtain ⟨c5, c6⟩ := He.ba c1
        have e1 : cc = C := of_decide_eq_true c5
        subst e1
        split at c4
        · rename_i k0 k1 k2 k3 k5 e3
          have e4 : sl = #[k0, k1, k2, k3, some (.builtin "Exception.__new__"), k5] := by
            obtain ⟨l⟩ := sl
            simp only at e3
            rw [e3]
          subst e4
          exact ⟨nm, qn, ns, bs, bm, sn, sb, ab, col, dd, k0, k1, k2, k3, k5, rfl, c6⟩
        · cases c4
      | _ => cases c1
  · cases c
/-- what is caught and told -/
def fXrd (x : Str) (fs : List Str) : Fq := fun K => fGlo x K && (eqQ (PySem.W.findIn K (.ref (He.ga K x)) "__getattribute__") (some (some (.builtin "BaseException.__getattribute__"))) && (eqQ (PySem.W.findIn K (.ref (He.ga K x)) "__getattr__") (some none) &&
  (decide (PySem.W.subIn K (.ref (He.ga K x)) (.type "BaseException") = some true) && (PySem.W.hasDictIn K (He.ga K x) && fs.all fun f => eqQ (PySem.W.findIn K (.ref (He.ga K x)) f) (some none)))))
theorem fXrd_ok (X : K.In h) (G : h.Ns mainGlobals mg) {x : Str} {fs : List Str} (c : fXrd x fs K = true) : XRd K mg x (He.ga K x) fs := by
  obtain ⟨c1, c⟩ := He.ba c
  obtain ⟨c2, c⟩ := He.ba c
  obtain ⟨c3, c⟩ := He.ba c
  obtain ⟨c4, c⟩ := He.ba c
  obtain ⟨c5, c6⟩ := He.ba c
  exact ⟨fGlo_ok X G c1, ⟨eqQ_ok c2, eqQ_ok c3, of_decide_eq_true c4, c5⟩, fun f hf => eqQ_ok (List.all_eq_true.mp c6 f hf)⟩
/-- what is raised -/
def fXcl (x : Str) (fs : List Str) : Fq := fun K => fGlo x K && ((match K.lookup (He.ga K x) with
  | some o => clsB (He.ga K x) o
  | none => false) && (eqQ (PySem.W.findIn K (.ref (He.ga K x)) "__setattr__") (some (some (.builtin "object.__setattr__"))) && (decide (PySem.W.subIn K (.ref (He.ga K x)) (.type "BaseException") = some true) && (decide (PySem.W.typeIn K (.ref (He.ga K x)) = some (.type "type")) &&
  (PySem.W.keepIn K (.ref (He.ga K x)) && (eqQ (PySem.W.findIn K (.ref (He.ga K x)) "__init__") (some (some (.ref (He.ma K (He.ga K x) "__init__")))) && (decide (PySem.W.typeIn K (.ref (He.ma K (He.ga K x) "__init__")) = some (.type "function")) && fs.all fun f => eqQ (PySem.W.findIn K (.ref (He.ga K x)) f) (some none))))))))
abbrev fnX (x : Str) (st : Stmt) : He.FnD := ⟨(x, some "__init__"), "__init__", x ++ ".__init__", defArgs st, defBody st, defScope st⟩
theorem fXcl_ok {P : Program} {w : World} (X : K.In h) (G : h.Ns mainGlobals mg) (c : SaysM fa fn K) (i : Nat) {x q : Str} {ps fs : List Str} {st : Stmt} {sp : PySem.W.Frag → Sp} (e : fn[i]? = some ⟨(x, some "__init__"), "__init__", q, defArgs st, defBody st, defScope st⟩) (hb : BindsN "__init__" q st ps)
    (hi : ∀ (f : Addr) (fd : FuncData), Fun K "__init__" q st f fd → ∀ base : Heap, FnOk P w K mg base CX0 1 f fd ps (sp K)) (cx : fXcl x fs K = true) : XCls P w K mg x ps fs sp := by
  obtain ⟨fd, F⟩ := defM_fun c i e
  obtain ⟨c1, cx⟩ := He.ba cx
  obtain ⟨c2, cx⟩ := He.ba cx
  obtain ⟨c3, cx⟩ := He.ba cx
  obtain ⟨c4, cx⟩ := He.ba cx
  obtain ⟨c5, cx⟩ := He.ba cx
  obtain ⟨c6, cx⟩ := He.ba cx
  obtain ⟨c7, cx⟩ := He.ba cx
  obtain ⟨c8, c9⟩ := He.ba cx
  refine ⟨He.ga K x, He.ma K (He.ga K x) "__init__", fd, fGlo_ok X G c1, ⟨?_, eqQ_ok c3, of_decide_eq_true c4, of_decide_eq_true c5, c6⟩, eqQ_ok c7, of_decide_eq_true c8, F.binds hb, hi _ _ F, fun f hf => eqQ_ok (List.all_eq_true.mp c9 f hf)⟩
  cases q2 : K.lookup (He.ga K x) with
  | none => rw [q2] at c2; cases c2
  | some o =>
    rw [q2] at c2
    obtain ⟨nm, q, N, bs, bm, sn, sub, ab, col, dd, k0, k1, k2, k3, k5, e1, e2⟩ := clsB_ok c2
    exact ⟨nm, q, N, bs, bm, sn, sub, ab, col, dd, k0, k1, k2, k3, k5, by rw [e1], e2⟩
def fExm (xs : List (Str × List Str)) : Fq := fun K => exmAll K (xs.map fun x => (He.ga K x.1, x.1, x.2))
end
/-! ### the law -/
theorem walk_lawM {l : PySem.W.OpenLaw} {k : Nat} {q : Program} {loose : List Str} {XP : (Str → Option Value) → Heap → Prop} {fa : List Fq} {fn : List He.FnD} {d : DefRec} (used : List Str) (hn : l.most = some 63) (hdf : d.params.defaults = []) (hr : Room k callerA)
    (rt : ∃ rd, (recsOf q).find? (fun e => e.name == ("law" : Str)) = some rd) (rts : ∀ x ∈ used, ∃ rd, (recsOf q).find? (fun e => e.name == x) = some rd)
    (F : ∀ (w : World) (mg : Str → Option Value) (fa' : Addr) (h : Heap) (K : PySem.W.Frag), SaysM fa fn K → K.In h → h.Ns mainGlobals mg → mg d.name = some (.ref fa') →
      ∃ (fd : FuncData) (c P : Addr), PySem.W.tabIn K "law" = some (c, P) ∧ K.lookup P = none ∧ (∀ x ∈ lamNames, PySem.W.tabIn K x = none ∨ (x ∈ used ∧ ∃ c' P', PySem.W.tabIn K x = some (c', P') ∧ K.lookup P' = none)) ∧
        (∀ (s : Shared) (u : Value), BindsTo s fd ⟨[u], []⟩ [("script", u)]) ∧
        ∀ base : Heap, K.In base → base.Ns mainGlobals mg → LawTab K mg base c P → FnOk l.prog w K mg base (L2.CX l.prog w) k fa' fd ["script"] (spTrue K)) :
    PySem.W.WalkO q loose XP (hookM fa fn).says l.row.toRowW d [] (fun f vs => PySem.call f vs) := by
  refine Att.attach_callB hn hdf fun w s₀ s₁ mg mb fa' o pm cd doc a vs ns G Y ho hd hcd hmg hobj hints hlen hbits hg => ?_
  obtain ⟨K, KX, fk⟩ := Y
  obtain ⟨fd, c, P, ht, nT, hM, hb, hF⟩ := F w mg fa' _ K fk KX G.T.g hmg
  have facts : ∀ p ∈ (("law" : Str) :: lamNames).filterMap (PySem.W.tabIn K), ∃ x ∈ ("law" : Str) :: lamNames, PySem.W.tabIn K x = some p ∧ K.lookup p.2 = none ∧ ∃ rd, (recsOf q).find? (fun e => e.name == x) = some rd := fun p hp => by
    obtain ⟨x, hx, e⟩ := List.mem_filterMap.mp hp
    refine ⟨x, hx, e, ?_⟩
    rcases List.mem_cons.mp hx with z | z
    · subst z
      rw [ht] at e
      cases e
      exact ⟨nT, rt⟩
    · rcases hM x z with h0 | ⟨hu, c', P', h1, h2⟩
      · rw [h0] at e
        cases e
      · rw [h1] at e
        cases e
        exact ⟨h2, rts x hu⟩
  have mem : ∀ x ∈ ("law" : Str) :: lamNames, ∀ p, PySem.W.tabIn K x = some p → p ∈ (("law" : Str) :: lamNames).filterMap (PySem.W.tabIn K) := fun x hx p e => List.mem_filterMap.mpr ⟨x, hx, e⟩
  refine LamX.law_callTs (cs := (("law" : Str) :: lamNames).filterMap (PySem.W.tabIn K)) (sp := spTrue K) KX G.T.g G.T.b G.T.builtins G.T.nolimit hg (fun p hp => ?_) (fun p hp => ?_) (fun p hp => ?_) G.T.bmain hobj hints (Nat.le_trans hlen (by decide)) hr
    (fun base hk hns tb => hF base hk hns ⟨tb (c, P) (mem "law" (List.mem_cons_self ..) _ ht), ht, fun x hx c' P' e => tb (c', P') (mem x (List.mem_cons_of_mem _ hx) _ e)⟩) hb (fun H hH hS => ⟨a, ns, rfl, ?_, hS, hlen, fun _ => rfl⟩) fun H e s' z => ?_
  · obtain ⟨x, hx, e, h2, rd, hrd⟩ := facts p hp
    exact (PySem.W.tab_of G.T KX hrd e).2
  · obtain ⟨x, hx, e, h2, rd, hrd⟩ := facts p hp
    exact h2
  · obtain ⟨x, hx, e, h2, rd, hrd⟩ := facts p hp
    exact (PySem.W.tab_of G.T KX hrd e).1
  · intro p hp
    obtain ⟨x, c', hx, e, _⟩ := tab_all hp
    exact LamX.TabS.nil (hH (c', p.1) (mem x hx _ e))
  · obtain ⟨_, _, _, _, _, _, _, _, _, _, _, _, e⟩ := z
    exact e
/-- the end of a law, from its def's promise -/
theorem law_fin {l : PySem.W.OpenLaw} {w : World} {K : PySem.W.Frag} {mg : Str → Option Value} {fa' c P : Addr} {lv : Nat} {used : List Str} {st : Stmt} {m : Fn} (hfa : mg "law" = some (.ref fa')) (DL : DefAtC K mg "law" "law" st ["script"] c) (ht : PySem.W.tabIn K "law" = some (c, P)) (nT : K.lookup P = none)
    (hM : ∀ x ∈ lamNames, PySem.W.tabIn K x = none ∨ (x ∈ used ∧ ∃ c' P', PySem.W.tabIn K x = some (c', P') ∧ K.lookup P' = none))
    (hb : BindsN "law" "law" st ["script"]) (hlaw : ∀ (b : Bool) (ns : List Int), ns.length ≤ 63 → ∃ h, m [scD b (ns.map D.int)] [] = .ok (.bl true) h)
    (GL : ∀ base : Heap, LawTab K mg base c P → Good l.prog w K mg base "law" lv ["script"] m) :
    ∃ (fd : FuncData) (c P : Addr), PySem.W.tabIn K "law" = some (c, P) ∧ K.lookup P = none ∧ (∀ x ∈ lamNames, PySem.W.tabIn K x = none ∨ (x ∈ used ∧ ∃ c' P', PySem.W.tabIn K x = some (c', P') ∧ K.lookup P' = none)) ∧ (∀ (s : Shared) (v : Value), BindsTo s fd ⟨[v], []⟩ [("script", v)]) ∧ ∀ base : Heap, K.In base → base.Ns mainGlobals mg → LawTab K mg base c P → FnOk l.prog w K mg base (L2.CX l.prog w) lv fa' fd ["script"] (spTrue K) := by
  obtain ⟨f, fd, g, F, b, hc⟩ := DL
  have e1 : f = fa' := by
    have z := g.symm.trans hfa
    cases z; rfl
  subst e1
  obtain ⟨oc, od, kV, doc, pm, an, cdv, ct, osl, rfl, lk, hcd⟩ := F.ex
  refine ⟨_, c, P, ht, nT, hM, fun s v => .of_eq (hb kV doc pm an cdv ct [v] rfl), fun base _ _ TB => ?_⟩
  obtain ⟨fz, fdz, gz, _, _, ⟨o1, o2, o3, lk2⟩, Fz⟩ := GL base TB
  have e1 : fz = f := by
    have z := gz.symm.trans g
    cases z; rfl
  rw [e1] at lk2 Fz
  have e2 := lk2.symm.trans lk
  cases e2
  exact Fz.imp fun vs H Q E z => law_sp hlaw z
/-- the run's equation, part by part -/
theorem run_parts {α β γ δ : Type} {o : Option α} {f : α → β} {g : α → γ} {k : α → δ} {b : β} {c : γ} {d : δ} (h1 : o.map f = some b) (h2 : o.map g = some c) (h3 : o.map k = some d) : (o.map fun x => (f x, g x, k x)) = some (b, c, d) := by
  cases o with
  | none => cases h1
  | some x =>
    have e1 := Option.some.inj h1
    have e2 := Option.some.inj h2
    have e3 := Option.some.inj h3
    rw [Option.map_some, e1, e2, e3]
theorem obs_parts {α : Type} {o : Option α} {k : α → He.Al} {b : Bool} {c : List He.FnV} (h1 : o.map (fun x => (k x).1) = some b) (h2 : o.map (fun x => (k x).2) = some c) : o.map k = some (b, c) := by
  cases o with
  | none => cases h1
  | some x =>
    have e1 := Option.some.inj h1
    have e2 := Option.some.inj h2
    have e1' : (k x).1 = b := e1
    have e2' : (k x).2 = c := e2
    rw [Option.map_some, ← e1', ← e2']
end Mp
namespace Mp
open PySem PySem.Spec PyProof.Rows L2
/-! ### the defs are as their mirrors say -/
def topS (i : Nat) : Stmt := PySem.Challenge.pw_mendplan_k63_refusals_of_visits.main.body.getD i (.Pass ⟨0, 0, 0, 0⟩)
/-- what the top has left of names that are no defs -/
structure Tx (P : Program) (w : World) (K : PySem.W.Frag) (mg : Str → Option Value) : Prop where
  ok : True
  b_range : mg "range" = none
  b_int : mg "int" = none
  b_len : mg "len" = none
  b_tuple : mg "tuple" = none
  b_isinstance : mg "isinstance" = none
  b_bool : mg "bool" = none
  b_str : mg "str" = none
  b_list : mg "list" = none
  b_all : mg "all" = none
  b_enumerate : mg "enumerate" = none
  b_sorted : mg "sorted" = none
  b_zip : mg "zip" = none
  b_min : mg "min" = none
  b_sum : mg "sum" = none
  b_max : mg "max" = none
  c_WORDS : TopVal K mg "WORDS" (.tup [(.str "and"), (.str "or"), (.str "of"), (.str "always"), (.str "never")])
  c_LETTERS : TopVal K mg "LETTERS" (.str "abcdefghijklmnopqrstuvwxyz")
  c_LAST_DAY : TopVal K mg "LAST_DAY" (.int 30)
  c_MOST_TRIPLES : TopVal K mg "MOST_TRIPLES" (.int 12)
  c_MOST_CREWS : TopVal K mg "MOST_CREWS" (.int 4)
  c_MOST_GAPS : TopVal K mg "MOST_GAPS" (.int 4)
  c_MOST_GAP : TopVal K mg "MOST_GAP" (.int 6)
  c_MOST_WORTH : TopVal K mg "MOST_WORTH" (.int 1000)
  c_MOST_RING : TopVal K mg "MOST_RING" (.int 1300)
  x_BadValue : XCls P w K mg "BadValue" ["self", "at"] ["at"] (spX1 "at")
  x_Crowded : XCls P w K mg "Crowded" ["self", "first", "last"] ["first", "last"] (spX2 "first" "last")
  x_NoDay : XCls P w K mg "NoDay" ["self", "name"] ["name"] (spX1 "name")
section
variable {P : Program} {w : World} {K : PySem.W.Frag} {mg : Str → Option Value} {base : Heap}
abbrev sx_BadValue : Stmt := inClass (topS 32) 0
theorem scx_BadValue : FnScope ["self", "at"] ["self", "at"] (defScope sx_BadValue) := ⟨rfl, rfl, rfl, by decide +kernel, rfl, by decide +kernel, by decide +kernel⟩
theorem init_BadValue {f : Addr} {fd : FuncData} (F : Fun K "__init__" "BadValue.__init__" sx_BadValue f fd) : FnOk P w K mg base CX0 1 f fd ["self", "at"] (spX1 "at" K) := F.ok scx_BadValue (fun vs H Q E h => x1_len vs H Q E h) fun cdv A outer s H vs Q E hr h => ⟨_, pss_one (ps_xst (pv 0) (pv 1)), x1_rd rfl h⟩
abbrev sx_Crowded : Stmt := inClass (topS 36) 0
theorem scx_Crowded : FnScope ["self", "first", "last"] ["self", "first", "last"] (defScope sx_Crowded) := ⟨rfl, rfl, rfl, by decide +kernel, rfl, by decide +kernel, by decide +kernel⟩
theorem init_Crowded {f : Addr} {fd : FuncData} (F : Fun K "__init__" "Crowded.__init__" sx_Crowded f fd) : FnOk P w K mg base CX0 1 f fd ["self", "first", "last"] (spX2 "first" "last" K) := F.ok scx_Crowded (fun vs H Q E h => x2_len vs H Q E h) fun cdv A outer s H vs Q E hr h => ⟨_, pss_cons (ps_xst (pv 0) (pv 1)) (pss_one (ps_xst (pv 0) (pv 2))), x2_rd rfl h⟩
abbrev sx_NoDay : Stmt := inClass (topS 37) 0
theorem scx_NoDay : FnScope ["self", "name"] ["self", "name"] (defScope sx_NoDay) := ⟨rfl, rfl, rfl, by decide +kernel, rfl, by decide +kernel, by decide +kernel⟩
theorem init_NoDay {f : Addr} {fd : FuncData} (F : Fun K "__init__" "NoDay.__init__" sx_NoDay f fd) : FnOk P w K mg base CX0 1 f fd ["self", "name"] (spX1 "name" K) := F.ok scx_NoDay (fun vs H Q E h => x1_len vs H Q E h) fun cdv A outer s H vs Q E hr h => ⟨_, pss_one (ps_xst (pv 0) (pv 1)), x1_rd rfl h⟩
abbrev sm_law_told : Stmt := topS 64
theorem tell_mk {C0 C1 C2 C3 C4 C5 C6 C7 C8 : Addr} (D : DefAt K mg "_law_told" "_law_told" sm_law_told ["deed"]) (r0 : XRd K mg "BadValue" C0 ["at"]) (r1 : XRd K mg "BadText" C1 ["at"]) (r2 : XRd K mg "Unknown" C2 ["name"]) (r3 : XRd K mg "NoChance" C3 ["word"]) (r4 : XRd K mg "Crowded" C4 ["first", "last"]) (r5 : XRd K mg "NoDay" C5 ["name"]) (r6 : XRd K mg "Missing" C6 ["at"]) (r7 : XRd K mg "TakenName" C7 ["name"]) (r8 : XRd K mg "Short" C8 ["rows"]) (he : exmAll K [(C0, "BadValue", ["at"]), (C1, "BadText", ["at"]), (C2, "Unknown", ["name"]), (C3, "NoChance", ["word"]), (C4, "Crowded", ["first", "last"]), (C5, "NoDay", ["name"]), (C6, "Missing", ["at"]), (C7, "TakenName", ["name"]), (C8, "Short", ["rows"])] = true) : TellTxt K mg sm_law_told :=
  ⟨D, ⟨rfl, rfl, rfl, by decide +kernel, rfl, by decide +kernel, by decide +kernel⟩, rfl, .inl rfl, rfl, [(C0, "BadValue", ["at"]), (C1, "BadText", ["at"]), (C2, "Unknown", ["name"]), (C3, "NoChance", ["word"]), (C4, "Crowded", ["first", "last"]), (C5, "NoDay", ["name"]), (C6, "Missing", ["at"]), (C7, "TakenName", ["name"]), (C8, "Short", ["rows"])], _, _, _, _, _, _, _, _, _, _, rfl, (.one r0 rfl (by decide) (.one r1 rfl (by decide) (.one r2 rfl (by decide) (.one r3 rfl (by decide) (.two r4 rfl (by decide) (.one r5 rfl (by decide) (.one r6 rfl (by decide) (.one r7 rfl (by decide) (.one r8 rfl (by decide) .nil))))))))), rfl, he⟩
abbrev sm_law_numbers : Stmt := topS 60
theorem scm_law_numbers : FnScope ["script", "row", "cell", "left", "k", "mixed"] ["script"] (defScope sm_law_numbers) := ⟨rfl, rfl, rfl, by decide +kernel, rfl, by decide +kernel, by decide +kernel⟩
theorem goodm_law_numbers (T : Tx P w K mg) (D : DefAt K mg "_law_numbers" "_law_numbers" sm_law_numbers ["script"])  : Good P w K mg base "_law_numbers" 1 ["script"] m_law_numbers :=
  (D.good (N := ["script", "row", "cell", "left", "k", "mixed"]) scm_law_numbers fun f cdv A outer s H E hr =>
  (dss_cons (ds_set (ps_set (i := 1) scm_law_numbers.nd rfl (by first | exact .inl rfl | exact .inr rfl) (de_cell da_nil)))
  (dss_cons (ds_for (ps_for (passes_of rfl) rfl (di_seq (de_sl (pe_slice sl_all (de_var (pv 0)) do_none (do_some de_int)) sld_f)) (dg_n (pg_name (i := 2) scm_law_numbers.nd rfl (by first | exact .inl rfl | exact .inr rfl)))
    (dss_one (ds_if (dt_cmp op_geA opd_ord (de_var (pv 2)) (de_op op_pow opd_pow de_int de_int) rfl)
      (dss_cons (ds_set (ps_set (i := 3) scm_law_numbers.nd rfl (by first | exact .inl rfl | exact .inr rfl) (de_var (pv 2))))
      (dss_one (ds_for (ps_for (passes_of rfl) rfl (di_rg1 (pi_range1 rfl T.b_range (da_cons de_int da_nil))) (dg_n (pg_name (i := 4) scm_law_numbers.nd rfl (by first | exact .inl rfl | exact .inr rfl)))
        (dss_cons (ds_if (dt_cmp (op_eqA (hu_of64 hr)) opd_eqA (de_var (pv 3)) de_int rfl)
          (dss_one ds_break)
          dss_nil)
        (dss_cons (ds_drop (de_bm (pe_bm PySem.F.plainAttrs_list PySem.F.slot_list_append PySem.F.type_list_append mt_append (de_var (pv 1)) (da_cons (de_op op_mod opd_mod (de_cb (pe_callTy call_int1 rfl T.b_int (by decide +kernel) (da_cons (de_var (pv 3)) da_nil)) cd_int) de_int) da_nil)) md_app))
        (dss_one (ds_set (ps_set (i := 3) scm_law_numbers.nd rfl (by first | exact .inl rfl | exact .inr rfl) (de_op op_fdivA opd_fdiv (de_var (pv 3)) de_int))))))))))
      (dss_one (ds_for (ps_for (passes_of rfl) rfl (di_rg1 (pi_range1 rfl T.b_range (da_cons de_int da_nil))) (dg_n (pg_name (i := 4) scm_law_numbers.nd rfl (by first | exact .inl rfl | exact .inr rfl)))
        (dss_cons (ds_set (ps_set (i := 5) scm_law_numbers.nd rfl (by first | exact .inl rfl | exact .inr rfl) (de_op op_mod opd_mod (de_cb (pe_callTy call_int1 rfl T.b_int (by decide +kernel) (da_cons (de_op op_addA opd_add (de_op op_addA opd_add (de_op op_mulA opd_mul (de_var (pv 2)) de_int) (de_op op_mulA opd_mul (de_var (pv 4)) de_int)) de_int) da_nil)) cd_int) de_int)))
        (dss_one (ds_drop (de_bm (pe_bm PySem.F.plainAttrs_list PySem.F.slot_list_append PySem.F.type_list_append mt_append (de_var (pv 1)) (da_cons (de_op op_mod opd_mod (de_cb (pe_callTy call_int1 rfl T.b_int (by decide +kernel) (da_cons (de_op op_addA opd_add (de_op op_mulA opd_mul (de_var (pv 5)) de_int) (de_var (pv 4))) da_nil)) cd_int) de_int) da_nil)) md_app)))))))))))
  (dss_cons (ds_if (dt_cmp (op_eqA (hu_of64 hr)) opd_eqA (de_cb (pe_callB call_lenA rfl T.b_len (by decide +kernel) (da_cons (de_var (pv 1)) da_nil)) cd_len) de_int rfl)
    (dss_one (ds_drop (de_bm (pe_bm PySem.F.plainAttrs_list PySem.F.slot_list_append PySem.F.type_list_append mt_append (de_var (pv 1)) (da_cons de_int da_nil)) md_app)))
    dss_nil)
  (dss_one (ds_ret (de_var (pv 1))))))))
abbrev sm_law_draw : Stmt := topS 61
theorem scm_law_draw : FnScope ["row", "at", "limit", "mixed"] ["row", "at", "limit"] (defScope sm_law_draw) := ⟨rfl, rfl, rfl, by decide +kernel, rfl, by decide +kernel, by decide +kernel⟩
theorem goodm_law_draw (T : Tx P w K mg) (D : DefAt K mg "_law_draw" "_law_draw" sm_law_draw ["row", "at", "limit"])  : Good P w K mg base "_law_draw" 1 ["row", "at", "limit"] m_law_draw :=
  (D.good (N := ["row", "at", "limit", "mixed"]) scm_law_draw fun f cdv A outer s H E hr =>
  (dss_cons (ds_if (dt_cmp op_ltA opd_ord (de_var (pv 1)) (de_cb (pe_callB call_lenA rfl T.b_len (by decide +kernel) (da_cons (de_var (pv 0)) da_nil)) cd_len) rfl)
    (dss_one (ds_ret (de_op op_mod opd_mod (de_cb (pe_callTy call_int1 rfl T.b_int (by decide +kernel) (da_cons (de_ix ix_seq opd_ix (de_var (pv 0)) (de_var (pv 1)) (fun _ _ => rfl)) da_nil)) cd_int) (de_var (pv 2)))))
    dss_nil)
  (dss_cons (ds_set (ps_set (i := 3) scm_law_draw.nd rfl (by first | exact .inl rfl | exact .inr rfl) (de_op op_mod opd_mod (de_cb (pe_callTy call_int1 rfl T.b_int (by decide +kernel) (da_cons (de_op op_addA opd_add (de_op op_addA opd_add (de_op op_mulA opd_mul (de_ix ix_seq opd_ix (de_var (pv 0)) (de_op op_mod opd_mod (de_cb (pe_callTy call_int1 rfl T.b_int (by decide +kernel) (da_cons (de_var (pv 1)) da_nil)) cd_int) (de_cb (pe_callB call_lenA rfl T.b_len (by decide +kernel) (da_cons (de_var (pv 0)) da_nil)) cd_len)) (fun _ _ => rfl)) de_int) (de_op op_mulA opd_mul (de_var (pv 1)) de_int)) de_int) da_nil)) cd_int) de_int)))
  (dss_one (ds_ret (de_op op_mod opd_mod (de_cb (pe_callTy call_int1 rfl T.b_int (by decide +kernel) (da_cons (de_op op_mod opd_mod (de_cb (pe_callTy call_int1 rfl T.b_int (by decide +kernel) (da_cons (de_op op_addA opd_add (de_op op_mulA opd_mul (de_var (pv 3)) de_int) (de_var (pv 1))) da_nil)) cd_int) de_int) da_nil)) cd_int) (de_var (pv 2))))))))
abbrev sm_law_take : Stmt := topS 62
theorem scm_law_take : FnScope ["row", "spot", "limit"] ["row", "spot", "limit"] (defScope sm_law_take) := ⟨rfl, rfl, rfl, by decide +kernel, rfl, by decide +kernel, by decide +kernel⟩
theorem goodm_law_take (T : Tx P w K mg) (D : DefAt K mg "_law_take" "_law_take" sm_law_take ["row", "spot", "limit"]) (G_law_draw : Good P w K mg base "_law_draw" 1 ["row", "at", "limit"] m_law_draw) : Good P w K mg base "_law_take" 2 ["row", "spot", "limit"] m_law_take :=
  (D.good (N := ["row", "spot", "limit"]) scm_law_take fun f cdv A outer s H E hr =>
  (dss_cons (ds_put (ps_asg (de_op op_addA opd_add (de_ix ix_seq opd_ix (de_var (pv 1)) de_int (fun _ _ => rfl)) de_int) (pg_sub (de_var (pv 1)) de_int set_list)) sd_set)
  (dss_one (ds_ret (dc (takes_of rfl rfl rfl rfl) G_law_draw (hr.mono (by decide)) rfl rfl ((aCons_len (aCons_len (aCons_len aNil_len)))) (da_cons (de_var (pv 0)) (da_cons (de_op op_sub opd_sub (de_ix ix_seq opd_ix (de_var (pv 1)) de_int (fun _ _ => rfl)) de_int) (da_cons (de_var (pv 2)) da_nil))))))))
abbrev sm_law_pick : Stmt := topS 63
theorem scm_law_pick : FnScope ["row", "spot", "things"] ["row", "spot", "things"] (defScope sm_law_pick) := ⟨rfl, rfl, rfl, by decide +kernel, rfl, by decide +kernel, by decide +kernel⟩
theorem goodm_law_pick (T : Tx P w K mg) (D : DefAt K mg "_law_pick" "_law_pick" sm_law_pick ["row", "spot", "things"]) (G_law_take : Good P w K mg base "_law_take" 2 ["row", "spot", "limit"] m_law_take) : Good P w K mg base "_law_pick" 3 ["row", "spot", "things"] m_law_pick :=
  (D.good (N := ["row", "spot", "things"]) scm_law_pick fun f cdv A outer s H E hr =>
  (dss_one (ds_ret (de_ix ix_seq opd_ix (de_var (pv 2)) (dc (takes_of rfl rfl rfl rfl) G_law_take (hr.mono (by decide)) rfl rfl ((aCons_len (aCons_len (aCons_len aNil_len)))) (da_cons (de_var (pv 0)) (da_cons (de_var (pv 1)) (da_cons (de_cb (pe_callB call_lenA rfl T.b_len (by decide +kernel) (da_cons (de_var (pv 2)) da_nil)) cd_len) da_nil)))) (fun _ _ => rfl)))))
abbrev sm_law_so : Stmt := topS 59
theorem scm_law_so : FnScope ["found", "meant", "k"] ["found", "meant"] (defScope sm_law_so) := ⟨rfl, rfl, rfl, by decide +kernel, rfl, by decide +kernel, by decide +kernel⟩
theorem goodm_law_so (T : Tx P w K mg) (D : DefAt K mg "_law_so" "_law_so" sm_law_so ["found", "meant"])  : ∀ n, Good P w K mg base "_law_so" (1 + n) ["found", "meant"] (m_law_so n)
  | 0 => (D.none scm_law_so).mono (by omega)
  | n + 1 => have G := goodm_law_so T D  n
  (D.good (N := ["found", "meant", "k"]) scm_law_so fun f cdv A outer s H E hr =>
  (dss_cons (ds_if (dt_cmp op_isN opd_isn (de_var (pv 1)) de_non rfl)
    (dss_one (ds_ret (de_cmp op_isN opd_isn (de_var (pv 0)) de_non rfl)))
    dss_nil)
  (dss_cons (ds_if (dt_tru (de_cb (pe_callB call_isi rfl T.b_isinstance (by decide +kernel) (da_cons (de_var (pv 1)) (da_cons (de_bty rfl T.b_tuple (by decide +kernel)) da_nil))) cd_is))
    (dss_cons (ds_if (PW.pt (dw_or (dt_not (dt_tru (de_cb (pe_callB call_isi rfl T.b_isinstance (by decide +kernel) (da_cons (de_var (pv 0)) (da_cons (de_bty rfl T.b_tuple (by decide +kernel)) da_nil))) cd_is))) (dw_or1 (dt_cmp (op_neA (hu_of64 hr)) opd_eqA (de_cb (pe_callB call_lenA rfl T.b_len (by decide +kernel) (da_cons (de_var (pv 0)) da_nil)) cd_len) (de_cb (pe_callB call_lenA rfl T.b_len (by decide +kernel) (da_cons (de_var (pv 1)) da_nil)) cd_len) rfl))))
      (dss_one (ds_ret de_bl))
      dss_nil)
    (dss_cons (ds_for (ps_for (passes_of rfl) rfl (di_rg1 (pi_range1 rfl T.b_range (da_cons (de_cb (pe_callB call_lenA rfl T.b_len (by decide +kernel) (da_cons (de_var (pv 1)) da_nil)) cd_len) da_nil))) (dg_n (pg_name (i := 2) scm_law_so.nd rfl (by first | exact .inl rfl | exact .inr rfl)))
      (dss_one (ds_if (dt_not (dt_tru (dc (takes_of rfl rfl rfl rfl) G (hr.mono (by first | omega | (simp only [Nat.add_eq]; omega))) rfl rfl ((aCons_len (aCons_len aNil_len))) (da_cons (de_ix ix_seq opd_ix (de_var (pv 0)) (de_var (pv 2)) (fun _ _ => rfl)) (da_cons (de_ix ix_seq opd_ix (de_var (pv 1)) (de_var (pv 2)) (fun _ _ => rfl)) da_nil)))))
        (dss_one (ds_ret de_bl))
        dss_nil))))
    (dss_one (ds_ret de_bl))))
    dss_nil)
  (dss_cons (ds_if (PW.pt (dw_or (dt_tru (de_cb (pe_callB call_isi rfl T.b_isinstance (by decide +kernel) (da_cons (de_var (pv 1)) (da_cons (de_bty rfl T.b_bool (by decide +kernel)) da_nil))) cd_is)) (dw_or1 (dt_tru (de_cb (pe_callB call_isi rfl T.b_isinstance (by decide +kernel) (da_cons (de_var (pv 0)) (da_cons (de_bty rfl T.b_bool (by decide +kernel)) da_nil))) cd_is)))))
    (dss_one (ds_ret (de_and (de_cb (pe_callB call_isi rfl T.b_isinstance (by decide +kernel) (da_cons (de_var (pv 1)) (da_cons (de_bty rfl T.b_bool (by decide +kernel)) da_nil))) cd_is) (de_and (de_cb (pe_callB call_isi rfl T.b_isinstance (by decide +kernel) (da_cons (de_var (pv 0)) (da_cons (de_bty rfl T.b_bool (by decide +kernel)) da_nil))) cd_is) (de_one (de_cmp (op_eqA (hu_of64 hr)) opd_eqA (de_var (pv 0)) (de_var (pv 1)) rfl))))))
    dss_nil)
  (dss_cons (ds_if (dt_tru (de_cb (pe_callB call_isi rfl T.b_isinstance (by decide +kernel) (da_cons (de_var (pv 1)) (da_cons (de_bty rfl T.b_int (by decide +kernel)) da_nil))) cd_is))
    (dss_one (ds_ret (de_and (de_cb (pe_callB call_isi rfl T.b_isinstance (by decide +kernel) (da_cons (de_var (pv 0)) (da_cons (de_bty rfl T.b_int (by decide +kernel)) da_nil))) cd_is) (de_one (de_cmp (op_eqA (hu_of64 hr)) opd_eqA (de_var (pv 0)) (de_var (pv 1)) rfl)))))
    dss_nil)
  (dss_one (ds_ret (de_and (de_cb (pe_callB call_isi rfl T.b_isinstance (by decide +kernel) (da_cons (de_var (pv 1)) (da_cons (de_bty rfl T.b_str (by decide +kernel)) da_nil))) cd_is) (de_and (de_cb (pe_callB call_isi rfl T.b_isinstance (by decide +kernel) (da_cons (de_var (pv 0)) (da_cons (de_bty rfl T.b_str (by decide +kernel)) da_nil))) cd_is) (de_one (de_cmp (op_eqA (hu_of64 hr)) opd_eqA (de_var (pv 0)) (de_var (pv 1)) rfl)))))))))))
abbrev sm_all_different : Stmt := topS 8
theorem scm_all_different : FnScope ["row", "seen", "x"] ["row"] (defScope sm_all_different) := ⟨rfl, rfl, rfl, by decide +kernel, rfl, by decide +kernel, by decide +kernel⟩
theorem goodm_all_different (T : Tx P w K mg) (D : DefAt K mg "all_different" "all_different" sm_all_different ["row"])  : Good P w K mg base "all_different" 1 ["row"] m_all_different :=
  (D.good (N := ["row", "seen", "x"]) scm_all_different fun f cdv A outer s H E hr =>
  (dss_cons (ds_set (ps_set (i := 1) scm_all_different.nd rfl (by first | exact .inl rfl | exact .inr rfl) de_dct0))
  (dss_cons (ds_for (ps_for (passes_of rfl) rfl (di_seq (de_var (pv 0))) (dg_n (pg_name (i := 2) scm_all_different.nd rfl (by first | exact .inl rfl | exact .inr rfl)))
    (dss_cons (ds_if (dt_din (hu_1 hr) (de_var (pv 2)) (de_var (pv 1)))
      (dss_one (ds_ret de_bl))
      dss_nil)
    (dss_one (ds_dput (hu_1 hr) (de_var (pv 1)) (de_var (pv 2)) de_bl)))))
  (dss_one (ds_ret de_bl)))))
abbrev sm_is_sequence : Stmt := topS 5
theorem scm_is_sequence : FnScope ["x"] ["x"] (defScope sm_is_sequence) := ⟨rfl, rfl, rfl, by decide +kernel, rfl, by decide +kernel, by decide +kernel⟩
theorem goodm_is_sequence (T : Tx P w K mg) (D : DefAt K mg "is_sequence" "is_sequence" sm_is_sequence ["x"])  : Good P w K mg base "is_sequence" 1 ["x"] m_is_sequence :=
  (D.good (N := ["x"]) scm_is_sequence fun f cdv A outer s H E hr =>
  (dss_one (ds_ret (de_is2 (pe_callB call_isiT rfl T.b_isinstance PyProof.Rows.boot_isinstance (pa_cons (de_var (pv 0)) (pa_cons (pe_tup (pa_cons (pe_bltn rfl T.b_list (by decide +kernel) rfl) (pa_cons (pe_bltn rfl T.b_tuple (by decide +kernel) rfl) pa_nil))) pa_nil)))))))
abbrev sm_is_row : Stmt := topS 6
theorem scm_is_row : FnScope ["x", "least", "most"] ["x", "least", "most"] (defScope sm_is_row) := ⟨rfl, rfl, rfl, by decide +kernel, rfl, by decide +kernel, by decide +kernel⟩
theorem goodm_is_row (T : Tx P w K mg) (D : DefAt K mg "is_row" "is_row" sm_is_row ["x", "least", "most"]) (Gis_sequence : Good P w K mg base "is_sequence" 1 ["x"] m_is_sequence) : Good P w K mg base "is_row" 2 ["x", "least", "most"] m_is_row :=
  (D.good (N := ["x", "least", "most"]) scm_is_row fun f cdv A outer s H E hr =>
  (dss_one (ds_ret (de_and (dc (takes_of rfl rfl rfl rfl) Gis_sequence (hr.mono (by decide)) rfl rfl ((aCons_len aNil_len)) (da_cons (de_var (pv 0)) da_nil)) (de_and (de_cmp op_leA opd_ord (de_var (pv 1)) (de_cb (pe_callB call_lenA rfl T.b_len (by decide +kernel) (da_cons (de_var (pv 0)) da_nil)) cd_len) rfl) (de_one (de_cmp op_leA opd_ord (de_cb (pe_callB call_lenA rfl T.b_len (by decide +kernel) (da_cons (de_var (pv 0)) da_nil)) cd_len) (de_var (pv 2)) rfl)))))))
abbrev sm_is_integer : Stmt := topS 3
theorem scm_is_integer : FnScope ["x"] ["x"] (defScope sm_is_integer) := ⟨rfl, rfl, rfl, by decide +kernel, rfl, by decide +kernel, by decide +kernel⟩
theorem goodm_is_integer (T : Tx P w K mg) (D : DefAt K mg "is_integer" "is_integer" sm_is_integer ["x"])  : Good P w K mg base "is_integer" 1 ["x"] m_is_integer :=
  (D.good (N := ["x"]) scm_is_integer fun f cdv A outer s H E hr =>
  (dss_one (ds_ret (de_and (de_cb (pe_callB call_isi rfl T.b_isinstance (by decide +kernel) (da_cons (de_var (pv 0)) (da_cons (de_bty rfl T.b_int (by decide +kernel)) da_nil))) cd_is) (de_one (de_not (de_cb (pe_callB call_isi rfl T.b_isinstance (by decide +kernel) (da_cons (de_var (pv 0)) (da_cons (de_bty rfl T.b_bool (by decide +kernel)) da_nil))) cd_is)))))))
abbrev sm_is_within : Stmt := topS 4
theorem scm_is_within : FnScope ["x", "low", "high"] ["x", "low", "high"] (defScope sm_is_within) := ⟨rfl, rfl, rfl, by decide +kernel, rfl, by decide +kernel, by decide +kernel⟩
theorem goodm_is_within (T : Tx P w K mg) (D : DefAt K mg "is_within" "is_within" sm_is_within ["x", "low", "high"]) (Gis_integer : Good P w K mg base "is_integer" 1 ["x"] m_is_integer) : Good P w K mg base "is_within" 2 ["x", "low", "high"] m_is_within :=
  (D.good (N := ["x", "low", "high"]) scm_is_within fun f cdv A outer s H E hr =>
  (dss_one (ds_ret (de_and (dc (takes_of rfl rfl rfl rfl) Gis_integer (hr.mono (by decide)) rfl rfl ((aCons_len aNil_len)) (da_cons (de_var (pv 0)) da_nil)) (de_and (de_cmp op_leA opd_ord (de_var (pv 1)) (de_var (pv 0)) rfl) (de_one (de_cmp op_leA opd_ord (de_var (pv 0)) (de_var (pv 2)) rfl)))))))
abbrev sm_is_name : Stmt := topS 7
theorem scm_is_name : FnScope ["x", "sign"] ["x"] (defScope sm_is_name) := ⟨rfl, rfl, rfl, by decide +kernel, rfl, by decide +kernel, by decide +kernel⟩
theorem goodm_is_name (T : Tx P w K mg) (D : DefAt K mg "is_name" "is_name" sm_is_name ["x"])  : Good P w K mg base "is_name" 1 ["x"] m_is_name :=
  (D.good (N := ["x", "sign"]) scm_is_name fun f cdv A outer s H E hr =>
  (dss_cons (ds_if (PW.pt (dw_or (dt_not (dt_tru (de_cb (pe_callB call_isi rfl T.b_isinstance (by decide +kernel) (da_cons (de_var (pv 0)) (da_cons (de_bty rfl T.b_str (by decide +kernel)) da_nil))) cd_is))) (dw_or (dt_cmp (op_eqA (hu_of64 hr)) opd_eqA (de_cb (pe_callB call_lenA rfl T.b_len (by decide +kernel) (da_cons (de_var (pv 0)) da_nil)) cd_len) de_int rfl) (dw_or (dt_cmp op_gtA opd_ord (de_cb (pe_callB call_lenA rfl T.b_len (by decide +kernel) (da_cons (de_var (pv 0)) da_nil)) cd_len) de_int rfl) (dw_or1 (dt_cmp op_inA opd_in (de_var (pv 0)) (de_top rfl T.c_WORDS) rfl))))))
    (dss_one (ds_ret de_bl))
    dss_nil)
  (dss_one (ds_ret (de_cb (pe_callB (cr_all rfl) rfl T.b_all (by decide +kernel) (da_cons (de_lc (by decide) (pe_lc (own := [("sign", 1)]) rfl scm_is_name.nd (di_str (de_var (pv 0))) (blkOk_by (N := ["x", "sign"]) (sc := (defScope sm_is_name)) (by decide +kernel)) (fun _ _ _ _ _ => (dg_n (pg_name (i := 1) scm_is_name.nd rfl (by first | exact .inl rfl | exact .inr rfl)))) (fun _ _ _ _ _ => dts_nil) (fun _ _ _ _ _ => (de_cmp op_inA opd_in (de_var (pv 1)) (de_top rfl T.c_LETTERS) rfl)))) da_nil)) cd_all)))))
abbrev sm_is_triple : Stmt := topS 21
theorem scm_is_triple : FnScope ["row"] ["row"] (defScope sm_is_triple) := ⟨rfl, rfl, rfl, by decide +kernel, rfl, by decide +kernel, by decide +kernel⟩
theorem goodm_is_triple (T : Tx P w K mg) (D : DefAt K mg "is_triple" "is_triple" sm_is_triple ["row"]) (Gis_within : Good P w K mg base "is_within" 2 ["x", "low", "high"] m_is_within) (Gis_row : Good P w K mg base "is_row" 2 ["x", "least", "most"] m_is_row) (Gis_name : Good P w K mg base "is_name" 1 ["x"] m_is_name) : Good P w K mg base "is_triple" 3 ["row"] m_is_triple :=
  (D.good (N := ["row"]) scm_is_triple fun f cdv A outer s H E hr =>
  (dss_cons (ds_if (PW.pt (dw_or (dt_not (dt_tru (dc (takes_of rfl rfl rfl rfl) Gis_row (hr.mono (by decide)) rfl rfl ((aCons_len (aCons_len (aCons_len aNil_len)))) (da_cons (de_var (pv 0)) (da_cons de_int (da_cons de_int da_nil)))))) (dw_or1 (dt_not (dt_tru (dc (takes_of rfl rfl rfl rfl) Gis_name (hr.mono (by decide)) rfl rfl ((aCons_len aNil_len)) (da_cons (de_ix ix_seq opd_ix (de_var (pv 0)) de_int (fun _ _ => rfl)) da_nil)))))))
    (dss_one (ds_ret de_bl))
    dss_nil)
  (dss_one (ds_ret (de_and (dc (takes_of rfl rfl rfl rfl) Gis_within (hr.mono (by decide)) rfl rfl ((aCons_len (aCons_len (aCons_len aNil_len)))) (da_cons (de_ix ix_seq opd_ix (de_var (pv 0)) de_int (fun _ _ => rfl)) (da_cons de_int (da_cons (de_top rfl T.c_LAST_DAY) da_nil)))) (de_one (dc (takes_of rfl rfl rfl rfl) Gis_within (hr.mono (by decide)) rfl rfl ((aCons_len (aCons_len (aCons_len aNil_len)))) (da_cons (de_ix ix_seq opd_ix (de_var (pv 0)) de_int (fun _ _ => rfl)) (da_cons (de_ix ix_seq opd_ix (de_var (pv 0)) de_int (fun _ _ => rfl)) (da_cons (de_top rfl T.c_LAST_DAY) da_nil))))))))))
abbrev sm_are_triples : Stmt := topS 22
theorem scm_are_triples : FnScope ["rows", "row"] ["rows"] (defScope sm_are_triples) := ⟨rfl, rfl, rfl, by decide +kernel, rfl, by decide +kernel, by decide +kernel⟩
theorem goodm_are_triples (T : Tx P w K mg) (D : DefAt K mg "are_triples" "are_triples" sm_are_triples ["rows"]) (Gall_different : Good P w K mg base "all_different" 1 ["row"] m_all_different) (Gis_row : Good P w K mg base "is_row" 2 ["x", "least", "most"] m_is_row) (Gis_triple : Good P w K mg base "is_triple" 3 ["row"] m_is_triple) : Good P w K mg base "are_triples" 4 ["rows"] m_are_triples :=
  (D.good (N := ["rows", "row"]) scm_are_triples fun f cdv A outer s H E hr =>
  (dss_cons (ds_if (PW.pt (dw_or (dt_not (dt_tru (dc (takes_of rfl rfl rfl rfl) Gis_row (hr.mono (by decide)) rfl rfl ((aCons_len (aCons_len (aCons_len aNil_len)))) (da_cons (de_var (pv 0)) (da_cons de_int (da_cons (de_top rfl T.c_MOST_TRIPLES) da_nil)))))) (dw_or1 (dt_not (dt_tru (de_cb (pe_callB (cr_all rfl) rfl T.b_all (by decide +kernel) (da_cons (de_lc (by decide) (pe_lc (own := [("row", 1)]) rfl scm_are_triples.nd (di_seq (de_var (pv 0))) (blkOk_by (N := ["rows", "row"]) (sc := (defScope sm_are_triples)) (by decide +kernel)) (fun _ _ _ _ _ => (dg_n (pg_name (i := 1) scm_are_triples.nd rfl (by first | exact .inl rfl | exact .inr rfl)))) (fun _ _ _ _ _ => dts_nil) (fun _ _ _ _ _ => (dc takes0 Gis_triple (hr.mono (by decide)) rfl rfl ((aCons_len aNil_len)) (da_cons (de_var (pv 1)) da_nil))))) da_nil)) cd_all))))))
    (dss_one (ds_ret de_bl))
    dss_nil)
  (dss_one (ds_ret (dc (takes_of rfl rfl rfl rfl) Gall_different (hr.mono (by decide)) rfl rfl ((aCons_len aNil_len)) (da_cons (de_lc (by decide) (pe_lc (own := [("row", 1)]) rfl scm_are_triples.nd (di_seq (de_var (pv 0))) (blkOk_by (N := ["rows", "row"]) (sc := (defScope sm_are_triples)) (by decide +kernel)) (fun _ _ _ _ _ => (dg_n (pg_name (i := 1) scm_are_triples.nd rfl (by first | exact .inl rfl | exact .inr rfl)))) (fun _ _ _ _ _ => dts_nil) (fun _ _ _ _ _ => (de_ix ix_seq opd_ix (de_var (pv 1)) de_int (fun _ _ => rfl))))) da_nil))))))
abbrev sm_check_triples : Stmt := topS 48
theorem scm_check_triples : FnScope ["rows"] ["rows"] (defScope sm_check_triples) := ⟨rfl, rfl, rfl, by decide +kernel, rfl, by decide +kernel, by decide +kernel⟩
theorem goodm_check_triples (T : Tx P w K mg) (D : DefAt K mg "check_triples" "check_triples" sm_check_triples ["rows"]) (Gare_triples : Good P w K mg base "are_triples" 4 ["rows"] m_are_triples) : Good P w K mg base "check_triples" 5 ["rows"] m_check_triples :=
  (D.good (N := ["rows"]) scm_check_triples fun f cdv A outer s H E hr =>
  (dss_one (ds_if (dt_not (dt_tru (dc (takes_of rfl rfl rfl rfl) Gare_triples (hr.mono (by decide)) rfl rfl ((aCons_len aNil_len)) (da_cons (de_var (pv 0)) da_nil))))
    (dss_one (ds_raise1 rfl (takes_of rfl rfl rfl rfl) T.x_BadValue (hr.mono (by decide)) rfl (da_cons de_int da_nil)))
    dss_nil)))
abbrev sm_are_closed : Stmt := topS 23
theorem scm_are_closed : FnScope ["days", "day"] ["days"] (defScope sm_are_closed) := ⟨rfl, rfl, rfl, by decide +kernel, rfl, by decide +kernel, by decide +kernel⟩
theorem goodm_are_closed (T : Tx P w K mg) (D : DefAt K mg "are_closed" "are_closed" sm_are_closed ["days"]) (Gis_row : Good P w K mg base "is_row" 2 ["x", "least", "most"] m_is_row) (Gis_within : Good P w K mg base "is_within" 2 ["x", "low", "high"] m_is_within) : Good P w K mg base "are_closed" 3 ["days"] m_are_closed :=
  (D.good (N := ["days", "day"]) scm_are_closed fun f cdv A outer s H E hr =>
  (dss_one (ds_ret (de_and (dc (takes_of rfl rfl rfl rfl) Gis_row (hr.mono (by decide)) rfl rfl ((aCons_len (aCons_len (aCons_len aNil_len)))) (da_cons (de_var (pv 0)) (da_cons de_int (da_cons (de_op op_addA opd_add (de_top rfl T.c_LAST_DAY) de_int) da_nil)))) (de_one (de_cb (pe_callB (cr_all rfl) rfl T.b_all (by decide +kernel) (da_cons (de_lc (by decide) (pe_lc (own := [("day", 1)]) rfl scm_are_closed.nd (di_seq (de_var (pv 0))) (blkOk_by (N := ["days", "day"]) (sc := (defScope sm_are_closed)) (by decide +kernel)) (fun _ _ _ _ _ => (dg_n (pg_name (i := 1) scm_are_closed.nd rfl (by first | exact .inl rfl | exact .inr rfl)))) (fun _ _ _ _ _ => dts_nil) (fun _ _ _ _ _ => (dc takes0 Gis_within (hr.mono (by decide)) rfl rfl ((aCons_len (aCons_len (aCons_len aNil_len)))) (da_cons (de_var (pv 1)) (da_cons de_int (da_cons (de_top rfl T.c_LAST_DAY) da_nil))))))) da_nil)) cd_all))))))
abbrev sm_check_visits : Stmt := topS 47
theorem scm_check_visits : FnScope ["jobs", "crews", "closed", "at"] ["jobs", "crews", "closed", "at"] (defScope sm_check_visits) := ⟨rfl, rfl, rfl, by decide +kernel, rfl, by decide +kernel, by decide +kernel⟩
theorem goodm_check_visits (T : Tx P w K mg) (D : DefAt K mg "check_visits" "check_visits" sm_check_visits ["jobs", "crews", "closed", "at"]) (Gis_within : Good P w K mg base "is_within" 2 ["x", "low", "high"] m_is_within) (Gare_closed : Good P w K mg base "are_closed" 3 ["days"] m_are_closed) : Good P w K mg base "check_visits" 4 ["jobs", "crews", "closed", "at"] m_check_visits :=
  (D.good (N := ["jobs", "crews", "closed", "at"]) scm_check_visits fun f cdv A outer s H E hr =>
  (dss_cons (ds_if (dt_not (dt_tru (dc (takes_of rfl rfl rfl rfl) Gis_within (hr.mono (by decide)) rfl rfl ((aCons_len (aCons_len (aCons_len aNil_len)))) (da_cons (de_var (pv 1)) (da_cons de_int (da_cons (de_top rfl T.c_MOST_CREWS) da_nil))))))
    (dss_one (ds_raise1 rfl (takes_of rfl rfl rfl rfl) T.x_BadValue (hr.mono (by decide)) rfl (da_cons (de_var (pv 3)) da_nil)))
    dss_nil)
  (dss_one (ds_if (dt_not (dt_tru (dc (takes_of rfl rfl rfl rfl) Gare_closed (hr.mono (by decide)) rfl rfl ((aCons_len aNil_len)) (da_cons (de_var (pv 2)) da_nil))))
    (dss_one (ds_raise1 rfl (takes_of rfl rfl rfl rfl) T.x_BadValue (hr.mono (by decide)) rfl (da_cons (de_op op_addA opd_add (de_var (pv 3)) de_int) da_nil)))
    dss_nil))))
abbrev sm_open_counts : Stmt := topS 24
theorem scm_open_counts : FnScope ["closed", "counts", "day"] ["closed"] (defScope sm_open_counts) := ⟨rfl, rfl, rfl, by decide +kernel, rfl, by decide +kernel, by decide +kernel⟩
theorem goodm_open_counts (T : Tx P w K mg) (D : DefAt K mg "open_counts" "open_counts" sm_open_counts ["closed"])  : Good P w K mg base "open_counts" 1 ["closed"] m_open_counts :=
  (D.good (N := ["closed", "counts", "day"]) scm_open_counts fun f cdv A outer s H E hr =>
  (dss_cons (ds_set (ps_set (i := 1) scm_open_counts.nd rfl (by first | exact .inl rfl | exact .inr rfl) (de_cell (da_cons de_int da_nil))))
  (dss_cons (ds_for (ps_for (passes_of rfl) rfl (di_rg1 (pi_range1 rfl T.b_range (da_cons (de_op op_addA opd_add (de_top rfl T.c_LAST_DAY) de_int) da_nil))) (dg_n (pg_name (i := 2) scm_open_counts.nd rfl (by first | exact .inl rfl | exact .inr rfl)))
    (dss_one (ds_drop (de_bm (pe_bm PySem.F.plainAttrs_list PySem.F.slot_list_append PySem.F.type_list_append mt_append (de_var (pv 1)) (da_cons (de_op op_addA opd_add (de_ix ix_seq opd_ix (de_var (pv 1)) (de_var (pv 2)) (fun _ _ => rfl)) (de_if (dt_cmp op_inA opd_in (de_var (pv 2)) (de_var (pv 0)) rfl) de_int de_int)) da_nil)) md_app)))))
  (dss_one (ds_ret (de_var (pv 1)))))))
abbrev sm_count_within : Stmt := topS 25
theorem scm_count_within : FnScope ["jobs", "first", "last", "job"] ["jobs", "first", "last"] (defScope sm_count_within) := ⟨rfl, rfl, rfl, by decide +kernel, rfl, by decide +kernel, by decide +kernel⟩
theorem goodm_count_within (T : Tx P w K mg) (D : DefAt K mg "count_within" "count_within" sm_count_within ["jobs", "first", "last"])  : Good P w K mg base "count_within" 1 ["jobs", "first", "last"] m_count_within :=
  (D.good (N := ["jobs", "first", "last", "job"]) scm_count_within fun f cdv A outer s H E hr =>
  (dss_one (ds_ret (de_cb (pe_callB call_lenA rfl T.b_len (by decide +kernel) (da_cons (de_lc (by decide) (pe_lc (own := [("job", 3)]) rfl scm_count_within.nd (di_seq (de_var (pv 0))) (blkOk_by (N := ["jobs", "first", "last", "job"]) (sc := (defScope sm_count_within)) (by decide +kernel)) (fun _ _ _ _ _ => (dg_n (pg_name (i := 3) scm_count_within.nd rfl (by first | exact .inl rfl | exact .inr rfl)))) (fun _ _ _ _ _ => (dts_one (PW.pt (dw_and (dt_cmp op_leA opd_ord (de_var (pv 1)) (de_ix ix_seq opd_ix (de_var (pv 3)) de_int (fun _ _ => rfl)) rfl) (dw_and1 (dt_cmp op_leA opd_ord (de_ix ix_seq opd_ix (de_var (pv 3)) de_int (fun _ _ => rfl)) (de_var (pv 2)) rfl)))))) (fun _ _ _ _ _ => (de_var (pv 3))))) da_nil)) cd_len))))
abbrev sm_crowded_days : Stmt := topS 26
theorem scm_crowded_days : FnScope ["jobs", "crews", "closed", "counts", "first", "last", "visits"] ["jobs", "crews", "closed"] (defScope sm_crowded_days) := ⟨rfl, rfl, rfl, by decide +kernel, rfl, by decide +kernel, by decide +kernel⟩
theorem goodm_crowded_days (T : Tx P w K mg) (D : DefAt K mg "crowded_days" "crowded_days" sm_crowded_days ["jobs", "crews", "closed"]) (Gopen_counts : Good P w K mg base "open_counts" 1 ["closed"] m_open_counts) (Gcount_within : Good P w K mg base "count_within" 1 ["jobs", "first", "last"] m_count_within) : Good P w K mg base "crowded_days" 2 ["jobs", "crews", "closed"] m_crowded_days :=
  (D.good (N := ["jobs", "crews", "closed", "counts", "first", "last", "visits"]) scm_crowded_days fun f cdv A outer s H E hr =>
  (dss_cons (ds_set (ps_set (i := 3) scm_crowded_days.nd rfl (by first | exact .inl rfl | exact .inr rfl) (dc (takes_of rfl rfl rfl rfl) Gopen_counts (hr.mono (by decide)) rfl rfl ((aCons_len aNil_len)) (da_cons (de_var (pv 2)) da_nil))))
  (dss_cons (ds_for (ps_for (passes_of rfl) rfl (di_rg1 (pi_range1 rfl T.b_range (da_cons (de_op op_addA opd_add (de_top rfl T.c_LAST_DAY) de_int) da_nil))) (dg_n (pg_name (i := 4) scm_crowded_days.nd rfl (by first | exact .inl rfl | exact .inr rfl)))
    (dss_one (ds_for (ps_for (passes_of rfl) rfl (di_rg2 (pi_range2 rfl T.b_range (da_cons (de_var (pv 4)) (da_cons (de_op op_addA opd_add (de_top rfl T.c_LAST_DAY) de_int) da_nil)))) (dg_n (pg_name (i := 5) scm_crowded_days.nd rfl (by first | exact .inl rfl | exact .inr rfl)))
      (dss_cons (ds_set (ps_set (i := 6) scm_crowded_days.nd rfl (by first | exact .inl rfl | exact .inr rfl) (de_op op_mulA opd_mul (de_var (pv 1)) (de_op op_sub opd_sub (de_ix ix_seq opd_ix (de_var (pv 3)) (de_op op_addA opd_add (de_var (pv 5)) de_int) (fun _ _ => rfl)) (de_ix ix_seq opd_ix (de_var (pv 3)) (de_var (pv 4)) (fun _ _ => rfl))))))
      (dss_one (ds_if (dt_cmp op_gtA opd_ord (dc (takes_of rfl rfl rfl rfl) Gcount_within (hr.mono (by decide)) rfl rfl ((aCons_len (aCons_len (aCons_len aNil_len)))) (da_cons (de_var (pv 0)) (da_cons (de_var (pv 4)) (da_cons (de_var (pv 5)) da_nil)))) (de_var (pv 6)) rfl)
        (dss_one (ds_ret (de_tup (da_cons (de_var (pv 4)) (da_cons (de_var (pv 5)) da_nil)))))
        dss_nil))))))))
  (dss_one (ds_ret de_non)))))
abbrev sm_earliest_days : Stmt := topS 27
theorem scm_earliest_days : FnScope ["jobs", "crews", "closed", "days", "day", "waiting", "_", "at", "job"] ["jobs", "crews", "closed"] (defScope sm_earliest_days) := ⟨rfl, rfl, rfl, by decide +kernel, rfl, by decide +kernel, by decide +kernel⟩
theorem goodm_earliest_days (T : Tx P w K mg) (D : DefAt K mg "earliest_days" "earliest_days" sm_earliest_days ["jobs", "crews", "closed"])  : Good P w K mg base "earliest_days" 1 ["jobs", "crews", "closed"] m_earliest_days :=
  (D.good (N := ["jobs", "crews", "closed", "days", "day", "waiting", "_", "at", "job"]) scm_earliest_days fun f cdv A outer s H E hr =>
  (dss_cons (ds_set (ps_set (i := 3) scm_earliest_days.nd rfl (by first | exact .inl rfl | exact .inr rfl) (de_op op_mulA opd_mulC (de_lst (da_cons de_non da_nil)) (de_cb (pe_callB call_lenA rfl T.b_len (by decide +kernel) (da_cons (de_var (pv 0)) da_nil)) cd_len))))
  (dss_cons (ds_for (ps_for (passes_of rfl) rfl (di_rg1 (pi_range1 rfl T.b_range (da_cons (de_op op_addA opd_add (de_top rfl T.c_LAST_DAY) de_int) da_nil))) (dg_n (pg_name (i := 4) scm_earliest_days.nd rfl (by first | exact .inl rfl | exact .inr rfl)))
    (dss_cons (ds_if (dt_cmp op_inA opd_in (de_var (pv 4)) (de_var (pv 2)) rfl)
      (dss_one ds_continue)
      dss_nil)
    (dss_cons (ds_set (ps_set (i := 5) scm_earliest_days.nd rfl (by first | exact .inl rfl | exact .inr rfl) (de_cb (pe_callB (call_sortA rfl) rfl T.b_sorted (by decide +kernel) (da_cons (de_lc (by decide) (pe_lc (own := [("at", 7), ("job", 8)]) rfl scm_earliest_days.nd (di_enu (pi_enB rfl T.b_enumerate (da_cons (de_var (pv 0)) da_nil))) (blkOk_by (N := ["jobs", "crews", "closed", "days", "day", "waiting", "_", "at", "job"]) (sc := (defScope sm_earliest_days)) (by decide +kernel)) (fun _ _ _ _ _ => (dgT rfl (dgsC (dg_n (pg_name (i := 7) scm_earliest_days.nd rfl (by first | exact .inl rfl | exact .inr rfl))) (dgsC (dg_n (pg_name (i := 8) scm_earliest_days.nd rfl (by first | exact .inl rfl | exact .inr rfl))) dgs_nil (fun a b => pgs_cons a b)) (fun a b => pgs_cons a b)) (fun a => pg_tup rfl a) (fun a => pg_lst rfl a))) (fun _ _ _ _ _ => (dts_one (PW.pt (dw_and (dt_cmp op_leA opd_ord (de_ix ix_seq opd_ix (de_var (pv 8)) de_int (fun _ _ => rfl)) (de_var (pv 4)) rfl) (dw_and1 (dt_cmp op_isN opd_isn (de_ix ix_seq opd_ix (de_var (pv 3)) (de_var (pv 7)) (fun _ _ => rfl)) de_non rfl)))))) (fun _ _ _ _ _ => (de_tup (da_cons (de_ix ix_seq opd_ix (de_var (pv 8)) de_int (fun _ _ => rfl)) (da_cons (de_var (pv 7)) da_nil)))))) da_nil)) cd_sort)))
    (dss_one (ds_for (ps_for (passes_of rfl) rfl (di_seq (de_sl (pe_slice sl_all (de_var (pv 5)) do_none (do_some (de_var (pv 1)))) sld_f)) (dgT rfl (dgsC (dg_n (pg_name (i := 6) scm_earliest_days.nd rfl (by first | exact .inl rfl | exact .inr rfl))) (dgsC (dg_n (pg_name (i := 7) scm_earliest_days.nd rfl (by first | exact .inl rfl | exact .inr rfl))) dgs_nil (fun a b => pgs_cons a b)) (fun a b => pgs_cons a b)) (fun a => pg_tup rfl a) (fun a => pg_lst rfl a))
      (dss_one (ds_put (ps_asg (de_var (pv 4)) (pg_sub (de_var (pv 3)) (de_var (pv 7)) set_list)) sd_set)))))))))
  (dss_one (ds_ret (de_cb (pe_callTy call_tuple_of rfl T.b_tuple (by decide +kernel) (da_cons (de_var (pv 3)) da_nil)) cd_tuple))))))
abbrev sm_schedule : Stmt := topS 49
theorem scm_schedule : FnScope ["jobs", "crews", "closed", "crowded"] ["jobs", "crews", "closed"] (defScope sm_schedule) := ⟨rfl, rfl, rfl, by decide +kernel, rfl, by decide +kernel, by decide +kernel⟩
theorem goodm_schedule (T : Tx P w K mg) (D : DefAt K mg "schedule" "schedule" sm_schedule ["jobs", "crews", "closed"]) (Gcheck_triples : Good P w K mg base "check_triples" 5 ["rows"] m_check_triples) (Gcheck_visits : Good P w K mg base "check_visits" 4 ["jobs", "crews", "closed", "at"] m_check_visits) (Gcrowded_days : Good P w K mg base "crowded_days" 2 ["jobs", "crews", "closed"] m_crowded_days) (Gearliest_days : Good P w K mg base "earliest_days" 1 ["jobs", "crews", "closed"] m_earliest_days) : Good P w K mg base "schedule" 6 ["jobs", "crews", "closed"] m_schedule :=
  (D.good (N := ["jobs", "crews", "closed", "crowded"]) scm_schedule fun f cdv A outer s H E hr =>
  (dss_cons (ds_drop (dc (takes_of rfl rfl rfl rfl) Gcheck_triples (hr.mono (by decide)) rfl rfl ((aCons_len aNil_len)) (da_cons (de_var (pv 0)) da_nil)))
  (dss_cons (ds_drop (dc (takes_of rfl rfl rfl rfl) Gcheck_visits (hr.mono (by decide)) rfl rfl ((aCons_len (aCons_len (aCons_len (aCons_len aNil_len))))) (da_cons (de_var (pv 0)) (da_cons (de_var (pv 1)) (da_cons (de_var (pv 2)) (da_cons de_int da_nil))))))
  (dss_cons (ds_set (ps_set (i := 3) scm_schedule.nd rfl (by first | exact .inl rfl | exact .inr rfl) (dc (takes_of rfl rfl rfl rfl) Gcrowded_days (hr.mono (by decide)) rfl rfl ((aCons_len (aCons_len (aCons_len aNil_len)))) (da_cons (de_var (pv 0)) (da_cons (de_var (pv 1)) (da_cons (de_var (pv 2)) da_nil))))))
  (dss_cons (ds_if (dt_cmp op_notN opd_notn (de_var (pv 3)) de_non rfl)
    (dss_one (ds_raise2 rfl (takes_of rfl rfl rfl rfl) T.x_Crowded (hr.mono (by decide)) rfl (da_cons (de_ix ix_seq opd_ix (de_var (pv 3)) de_int (fun _ _ => rfl)) (da_cons (de_ix ix_seq opd_ix (de_var (pv 3)) de_int (fun _ _ => rfl)) da_nil))))
    dss_nil)
  (dss_one (ds_ret (dc (takes_of rfl rfl rfl rfl) Gearliest_days (hr.mono (by decide)) rfl rfl ((aCons_len (aCons_len (aCons_len aNil_len)))) (da_cons (de_var (pv 0)) (da_cons (de_var (pv 1)) (da_cons (de_var (pv 2)) da_nil)))))))))))
abbrev sm_check_gaps : Stmt := topS 55
theorem scm_check_gaps : FnScope ["gaps", "gap"] ["gaps"] (defScope sm_check_gaps) := ⟨rfl, rfl, rfl, by decide +kernel, rfl, by decide +kernel, by decide +kernel⟩
theorem goodm_check_gaps (T : Tx P w K mg) (D : DefAt K mg "check_gaps" "check_gaps" sm_check_gaps ["gaps"]) (Gis_row : Good P w K mg base "is_row" 2 ["x", "least", "most"] m_is_row) (Gis_within : Good P w K mg base "is_within" 2 ["x", "low", "high"] m_is_within) : Good P w K mg base "check_gaps" 3 ["gaps"] m_check_gaps :=
  (D.good (N := ["gaps", "gap"]) scm_check_gaps fun f cdv A outer s H E hr =>
  (dss_one (ds_if (PW.pt (dw_or (dt_not (dt_tru (dc (takes_of rfl rfl rfl rfl) Gis_row (hr.mono (by decide)) rfl rfl ((aCons_len (aCons_len (aCons_len aNil_len)))) (da_cons (de_var (pv 0)) (da_cons de_int (da_cons (de_top rfl T.c_MOST_GAPS) da_nil)))))) (dw_or1 (dt_not (dt_tru (de_cb (pe_callB (cr_all rfl) rfl T.b_all (by decide +kernel) (da_cons (de_lc (by decide) (pe_lc (own := [("gap", 1)]) rfl scm_check_gaps.nd (di_seq (de_var (pv 0))) (blkOk_by (N := ["gaps", "gap"]) (sc := (defScope sm_check_gaps)) (by decide +kernel)) (fun _ _ _ _ _ => (dg_n (pg_name (i := 1) scm_check_gaps.nd rfl (by first | exact .inl rfl | exact .inr rfl)))) (fun _ _ _ _ _ => dts_nil) (fun _ _ _ _ _ => (dc takes0 Gis_within (hr.mono (by decide)) rfl rfl ((aCons_len (aCons_len (aCons_len aNil_len)))) (da_cons (de_var (pv 1)) (da_cons de_int (da_cons (de_top rfl T.c_MOST_GAP) da_nil))))))) da_nil)) cd_all))))))
    (dss_one (ds_raise1 rfl (takes_of rfl rfl rfl rfl) T.x_BadValue (hr.mono (by decide)) rfl (da_cons de_int da_nil)))
    dss_nil)))
abbrev sm_all_waits : Stmt := topS 11
theorem scm_all_waits : FnScope ["gaps", "rows", "gap", "row", "wait"] ["gaps"] (defScope sm_all_waits) := ⟨rfl, rfl, rfl, by decide +kernel, rfl, by decide +kernel, by decide +kernel⟩
theorem goodm_all_waits (T : Tx P w K mg) (D : DefAt K mg "all_waits" "all_waits" sm_all_waits ["gaps"])  : Good P w K mg base "all_waits" 1 ["gaps"] m_all_waits :=
  (D.good (N := ["gaps", "rows", "gap", "row", "wait"]) scm_all_waits fun f cdv A outer s H E hr =>
  (dss_cons (ds_set (ps_set (i := 1) scm_all_waits.nd rfl (by first | exact .inl rfl | exact .inr rfl) (de_cell (da_cons (de_tup da_nil) da_nil))))
  (dss_cons (ds_for (ps_for (passes_of rfl) rfl (di_seq (de_var (pv 0))) (dg_n (pg_name (i := 2) scm_all_waits.nd rfl (by first | exact .inl rfl | exact .inr rfl)))
    (dss_one (ds_setLt (by decide) (by decide) (ps_setLc2 (own := [("row", 3), ("wait", 4)]) (vs1 := [4]) rfl scm_all_waits.nd rfl rfl (sw_true rfl rfl rfl (by decide +kernel)) (di_seq (de_var (pv 1))) (blkOk_by (N := ["gaps", "rows", "gap", "row", "wait"]) (sc := (defScope sm_all_waits)) (by decide +kernel)) (by decide) (fun _ _ _ _ _ => (dg_n (pg_name (i := 3) scm_all_waits.nd rfl (by first | exact .inl rfl | exact .inr rfl)))) (fun _ _ _ _ _ => dts_nil) (fun _ _ _ _ _ => (dih_rg1 (pi_range1 rfl T.b_range (da_cons (de_var (pv 2)) da_nil)))) (fun _ _ _ _ _ => (dg_n (pg_name (i := 4) scm_all_waits.nd rfl (by first | exact .inl rfl | exact .inr rfl)))) (fun _ _ _ _ _ => (dts_one (dt_cmp op_notInA opd_in (de_var (pv 4)) (de_var (pv 3)) rfl))) (fun _ _ _ _ _ => (de_op op_addA opd_add (de_var (pv 3)) (de_tup (da_cons (de_var (pv 4)) da_nil)))))))))
  (dss_one (ds_ret (de_lc (by decide) (pe_lc (own := [("row", 3)]) rfl scm_all_waits.nd (di_seq (de_var (pv 1))) (blkOk_by (N := ["gaps", "rows", "gap", "row", "wait"]) (sc := (defScope sm_all_waits)) (by decide +kernel)) (fun _ _ _ _ _ => (dg_n (pg_name (i := 3) scm_all_waits.nd rfl (by first | exact .inl rfl | exact .inr rfl)))) (fun _ _ _ _ _ => (dts_one (dt_cmp op_inA opd_in de_int (de_var (pv 3)) rfl))) (fun _ _ _ _ _ => (de_var (pv 3))))))))))
abbrev sm_next_waits : Stmt := topS 12
theorem scm_next_waits : FnScope ["gaps", "waits", "at", "later", "wait", "gap", "k"] ["gaps", "waits", "at"] (defScope sm_next_waits) := ⟨rfl, rfl, rfl, by decide +kernel, rfl, by decide +kernel, by decide +kernel⟩
theorem goodm_next_waits (T : Tx P w K mg) (D : DefAt K mg "next_waits" "next_waits" sm_next_waits ["gaps", "waits", "at"])  : Good P w K mg base "next_waits" 1 ["gaps", "waits", "at"] m_next_waits :=
  (D.good (N := ["gaps", "waits", "at", "later", "wait", "gap", "k"]) scm_next_waits fun f cdv A outer s H E hr =>
  (dss_cons (ds_set (ps_set (i := 3) scm_next_waits.nd rfl (by first | exact .inl rfl | exact .inr rfl) (de_cb (pe_callTy call_tuple_of rfl T.b_tuple (by decide +kernel) (da_cons (de_lc (by decide) (pe_lc (own := [("k", 6), ("wait", 4)]) rfl scm_next_waits.nd (di_enu (pi_enB rfl T.b_enumerate (da_cons (de_var (pv 1)) da_nil))) (blkOk_by (N := ["gaps", "waits", "at", "later", "wait", "gap", "k"]) (sc := (defScope sm_next_waits)) (by decide +kernel)) (fun _ _ _ _ _ => (dgT rfl (dgsC (dg_n (pg_name (i := 6) scm_next_waits.nd rfl (by first | exact .inl rfl | exact .inr rfl))) (dgsC (dg_n (pg_name (i := 4) scm_next_waits.nd rfl (by first | exact .inl rfl | exact .inr rfl))) dgs_nil (fun a b => pgs_cons a b)) (fun a b => pgs_cons a b)) (fun a => pg_tup rfl a) (fun a => pg_lst rfl a))) (fun _ _ _ _ _ => dts_nil) (fun _ _ _ _ _ => (de_if (dt_cmp (op_eqA (hu_of64 hr)) opd_eqA (de_var (pv 6)) (de_var (pv 2)) rfl) de_int (de_op op_addA opd_add (de_var (pv 4)) de_int))))) da_nil)) cd_tuple)))
  (dss_cons (ds_for (ps_for (passes_of rfl) rfl (di_zip (pi_zpB rfl T.b_zip (da_cons (de_var (pv 3)) (da_cons (de_var (pv 0)) da_nil)))) (dgT rfl (dgsC (dg_n (pg_name (i := 4) scm_next_waits.nd rfl (by first | exact .inl rfl | exact .inr rfl))) (dgsC (dg_n (pg_name (i := 5) scm_next_waits.nd rfl (by first | exact .inl rfl | exact .inr rfl))) dgs_nil (fun a b => pgs_cons a b)) (fun a b => pgs_cons a b)) (fun a => pg_tup rfl a) (fun a => pg_lst rfl a))
    (dss_one (ds_if (dt_cmp op_geA opd_ord (de_var (pv 4)) (de_var (pv 5)) rfl)
      (dss_one (ds_ret de_non))
      dss_nil))))
  (dss_one (ds_ret (de_var (pv 3)))))))
abbrev sm_days_between : Stmt := topS 13
theorem scm_days_between : FnScope ["gaps", "links", "waits", "row", "at", "later"] ["gaps"] (defScope sm_days_between) := ⟨rfl, rfl, rfl, by decide +kernel, rfl, by decide +kernel, by decide +kernel⟩
theorem goodm_days_between (T : Tx P w K mg) (D : DefAt K mg "days_between" "days_between" sm_days_between ["gaps"]) (Gall_waits : Good P w K mg base "all_waits" 1 ["gaps"] m_all_waits) (Gnext_waits : Good P w K mg base "next_waits" 1 ["gaps", "waits", "at"] m_next_waits) : Good P w K mg base "days_between" 2 ["gaps"] m_days_between :=
  (D.good (N := ["gaps", "links", "waits", "row", "at", "later"]) scm_days_between fun f cdv A outer s H E hr =>
  (dss_cons (ds_set (ps_set (i := 1) scm_days_between.nd rfl (by first | exact .inl rfl | exact .inr rfl) de_dtt0))
  (dss_cons (ds_for (ps_for (passes_of rfl) rfl (di_seq (dc (takes_of rfl rfl rfl rfl) Gall_waits (hr.mono (by decide)) rfl rfl ((aCons_len aNil_len)) (da_cons (de_var (pv 0)) da_nil))) (dg_n (pg_name (i := 2) scm_days_between.nd rfl (by first | exact .inl rfl | exact .inr rfl)))
    (dss_cons (ds_set (ps_set (i := 3) scm_days_between.nd rfl (by first | exact .inl rfl | exact .inr rfl) (de_cell da_nil)))
    (dss_cons (ds_for (ps_for (passes_of rfl) rfl (di_rg1 (pi_range1 rfl T.b_range (da_cons (de_cb (pe_callB call_lenA rfl T.b_len (by decide +kernel) (da_cons (de_var (pv 0)) da_nil)) cd_len) da_nil))) (dg_n (pg_name (i := 4) scm_days_between.nd rfl (by first | exact .inl rfl | exact .inr rfl)))
      (dss_cons (ds_set (ps_set (i := 5) scm_days_between.nd rfl (by first | exact .inl rfl | exact .inr rfl) (dc (takes_of rfl rfl rfl rfl) Gnext_waits (hr.mono (by decide)) rfl rfl ((aCons_len (aCons_len (aCons_len aNil_len)))) (da_cons (de_var (pv 0)) (da_cons (de_var (pv 2)) (da_cons (de_var (pv 4)) da_nil))))))
      (dss_one (ds_if (dt_cmp op_notN opd_notn (de_var (pv 5)) de_non rfl)
        (dss_one (ds_drop (de_bm (pe_bm PySem.F.plainAttrs_list PySem.F.slot_list_append PySem.F.type_list_append mt_append (de_var (pv 3)) (da_cons (de_tup (da_cons (de_var (pv 4)) (da_cons (de_var (pv 5)) da_nil))) da_nil)) md_app)))
        dss_nil)))))
    (dss_one (ds_dputT (hu_1 hr) (de_var (pv 1)) (de_var (pv 2)) (de_var (pv 3))))))))
  (dss_one (ds_ret (de_var (pv 1)))))))
abbrev sm_turned_2 : Stmt := topS 14
theorem scm_turned_2 : FnScope ["links", "sources", "waits", "_", "later"] ["links"] (defScope sm_turned_2) := ⟨rfl, rfl, rfl, by decide +kernel, rfl, by decide +kernel, by decide +kernel⟩
theorem goodm_turned_2 (T : Tx P w K mg) (D : DefAt K mg "turned" "turned" sm_turned_2 ["links"])  : Good P w K mg base "turned" 1 ["links"] m_turned_2 :=
  (D.good (N := ["links", "sources", "waits", "_", "later"]) scm_turned_2 fun f cdv A outer s H E hr =>
  (dss_cons (ds_lock (ds_setDt (by decide) (ps_setDt (own := [("waits", 2)]) (hu_1 hr) rfl scm_turned_2.nd rfl rfl (swD_true rfl rfl rfl (by decide +kernel)) (di_key (de_var (pv 0))) (blkOk_by (N := ["links", "sources", "waits", "_", "later"]) (sc := (defScope sm_turned_2)) (by decide +kernel)) (fun _ _ _ _ _ => (dg_n (pg_name (i := 2) scm_turned_2.nd rfl (by first | exact .inl rfl | exact .inr rfl)))) (fun _ _ _ _ _ => dts_nil) (fun _ _ _ _ _ => (de_var (pv 2))) (fun _ _ _ _ _ => (de_cell da_nil)))))
  (dss_cons (ds_lock (ds_for (ps_for (passes_of rfl) rfl (di_key (de_var (pv 0))) (dg_n (pg_name (i := 2) scm_turned_2.nd rfl (by first | exact .inl rfl | exact .inr rfl)))
    (dss_one (ds_for (ps_for (passes_of rfl) rfl (di_seq (de_dgetL (hu_1 hr) (de_var (pv 0)) (de_var (pv 2)) (fun _ _ => rfl))) (dgT rfl (dgsC (dg_n (pg_name (i := 3) scm_turned_2.nd rfl (by first | exact .inl rfl | exact .inr rfl))) (dgsC (dg_n (pg_name (i := 4) scm_turned_2.nd rfl (by first | exact .inl rfl | exact .inr rfl))) dgs_nil (fun a b => pgs_cons a b)) (fun a b => pgs_cons a b)) (fun a => pg_tup rfl a) (fun a => pg_lst rfl a))
      (dss_one (ds_drop (de_bm (pe_bm PySem.F.plainAttrs_list PySem.F.slot_list_append PySem.F.type_list_append mt_append (de_dgetL (hu_1 hr) (de_var (pv 1)) (de_var (pv 4)) (fun _ _ => rfl)) (da_cons (de_var (pv 2)) da_nil)) md_app)))))))))
  (dss_one (ds_ret (de_var (pv 1)))))))
abbrev sm_ring_through : Stmt := topS 16
theorem scm_ring_through : FnScope ["links", "far", "start", "lengths", "ring", "waits", "rest", "steps", "at", "_", "later", "step"] ["links", "far", "start"] (defScope sm_ring_through) := ⟨rfl, rfl, rfl, by decide +kernel, rfl, by decide +kernel, by decide +kernel⟩
theorem goodm_ring_through (T : Tx P w K mg) (D : DefAt K mg "ring_through" "ring_through" sm_ring_through ["links", "far", "start"])  : Good P w K mg base "ring_through" 1 ["links", "far", "start"] m_ring_through :=
  (D.good (N := ["links", "far", "start", "lengths", "ring", "waits", "rest", "steps", "at", "_", "later", "step"]) scm_ring_through fun f cdv A outer s H E hr =>
  (dss_cons (ds_setLc (by decide) (ps_setLc (own := [("_", 9), ("later", 10)]) rfl scm_ring_through.nd rfl rfl (sw_true rfl rfl rfl (by decide +kernel)) (di_seq (de_dgetL (hu_1 hr) (de_var (pv 0)) (de_var (pv 2)) (fun _ _ => rfl))) (blkOk_by (N := ["links", "far", "start", "lengths", "ring", "waits", "rest", "steps", "at", "_", "later", "step"]) (sc := (defScope sm_ring_through)) (by decide +kernel)) (fun _ _ _ _ _ => (dgT rfl (dgsC (dg_n (pg_name (i := 9) scm_ring_through.nd rfl (by first | exact .inl rfl | exact .inr rfl))) (dgsC (dg_n (pg_name (i := 10) scm_ring_through.nd rfl (by first | exact .inl rfl | exact .inr rfl))) dgs_nil (fun a b => pgs_cons a b)) (fun a b => pgs_cons a b)) (fun a => pg_tup rfl a) (fun a => pg_lst rfl a))) (fun _ _ _ _ _ => (dts_one (dt_dinT (hu_1 hr) (de_var (pv 10)) (de_var (pv 1))))) (fun _ _ _ _ _ => (de_op op_addA opd_add (de_dgetL (hu_1 hr) (de_var (pv 1)) (de_var (pv 10)) (fun _ _ => rfl)) de_int))))
  (dss_cons (ds_if (dt_not (dt_tru (de_var (pv 3))))
    (dss_one (ds_ret de_non))
    dss_nil)
  (dss_cons (ds_set (ps_set (i := 4) scm_ring_through.nd rfl (by first | exact .inl rfl | exact .inr rfl) (de_cell da_nil)))
  (dss_cons (ds_set (ps_set (i := 5) scm_ring_through.nd rfl (by first | exact .inl rfl | exact .inr rfl) (de_var (pv 2))))
  (dss_cons (ds_for (ps_for (passes_of rfl) rfl (di_rg3 (pi_range3 rfl T.b_range (da_cons (de_op op_sub opd_sub (de_cb (pe_callB (call_minB rfl) rfl T.b_min (by decide +kernel) (da_cons (de_var (pv 3)) da_nil)) cd_min) de_int) (da_cons (de_un un_neg und_neg de_int) (da_cons (de_un un_neg und_neg de_int) da_nil))))) (dg_n (pg_name (i := 6) scm_ring_through.nd rfl (by first | exact .inl rfl | exact .inr rfl)))
    (dss_cons (ds_setLc (by decide) (ps_setLc (own := [("step", 11)]) rfl scm_ring_through.nd rfl rfl (sw_true rfl rfl rfl (by decide +kernel)) (di_seq (de_dgetL (hu_1 hr) (de_var (pv 0)) (de_var (pv 5)) (fun _ _ => rfl))) (blkOk_by (N := ["links", "far", "start", "lengths", "ring", "waits", "rest", "steps", "at", "_", "later", "step"]) (sc := (defScope sm_ring_through)) (by decide +kernel)) (fun _ _ _ _ _ => (dg_n (pg_name (i := 11) scm_ring_through.nd rfl (by first | exact .inl rfl | exact .inr rfl)))) (fun _ _ _ _ _ => (dts_one (dt_cmp (op_eqA (hu_of64 hr)) opd_eqA (de_getT (hu_1 hr) (de_var (pv 1)) (de_ix ix_seq opd_ix (de_var (pv 11)) de_int (fun _ _ => rfl)) ⟨rfl, rfl, rfl, rfl⟩) (de_var (pv 6)) rfl))) (fun _ _ _ _ _ => (de_var (pv 11)))))
    (dss_cons (ds_asg (ps_asg (de_ix ix_seq opd_ix (de_var (pv 7)) de_int (fun _ _ => rfl)) (dgT rfl (dgsC (dg_n (pg_name (i := 8) scm_ring_through.nd rfl (by first | exact .inl rfl | exact .inr rfl))) (dgsC (dg_n (pg_name (i := 5) scm_ring_through.nd rfl (by first | exact .inl rfl | exact .inr rfl))) dgs_nil (fun a b => pgs_cons a b)) (fun a b => pgs_cons a b)) (fun a => pg_tup rfl a) (fun a => pg_lst rfl a))))
    (dss_one (ds_drop (de_bm (pe_bm PySem.F.plainAttrs_list PySem.F.slot_list_append PySem.F.type_list_append mt_append (de_var (pv 4)) (da_cons (de_var (pv 8)) da_nil)) md_app)))))))
  (dss_one (ds_ret (de_cb (pe_callTy call_tuple_of rfl T.b_tuple (by decide +kernel) (da_cons (de_var (pv 4)) da_nil)) cd_tuple)))))))))
abbrev sm_far_from : Stmt := topS 15
theorem scm_far_from : FnScope ["sources", "goal", "far", "queue", "at", "waits", "before"] ["sources", "goal"] (defScope sm_far_from) := ⟨rfl, rfl, rfl, by decide +kernel, rfl, by decide +kernel, by decide +kernel⟩
theorem goodm_far_from (T : Tx P w K mg) (D : DefAt K mg "far_from" "far_from" sm_far_from ["sources", "goal"])  : Good P w K mg base "far_from" 1 ["sources", "goal"] m_far_from :=
  (D.good (N := ["sources", "goal", "far", "queue", "at", "waits", "before"]) scm_far_from fun f cdv A outer s H E hr =>
  (dss_cons (ds_set (ps_set (i := 2) scm_far_from.nd rfl (by first | exact .inl rfl | exact .inr rfl) (de_ds1 (hu_1 hr) (pl_var (pv 1)) pl_int)))
  (dss_cons (ds_set (ps_set (i := 3) scm_far_from.nd rfl (by first | exact .inl rfl | exact .inr rfl) (de_cell (da_cons (de_var (pv 1)) da_nil))))
  (dss_cons (ds_set (ps_set (i := 4) scm_far_from.nd rfl (by first | exact .inl rfl | exact .inr rfl) de_int))
  (dss_cons (ds_while 100000 (passes_of rfl) (dt_cmp op_ltA opd_ord (de_var (pv 4)) (de_cb (pe_callB call_lenA rfl T.b_len (by decide +kernel) (da_cons (de_var (pv 3)) da_nil)) cd_len) rfl)
    (dss_cons (ds_set (ps_set (i := 5) scm_far_from.nd rfl (by first | exact .inl rfl | exact .inr rfl) (de_ix ix_seq opd_ix (de_var (pv 3)) (de_var (pv 4)) (fun _ _ => rfl))))
    (dss_cons (ds_aug (ps_aug (i := 4) scm_far_from.nd rfl (by first | exact .inl rfl | exact .inr rfl) de_int iop_add) opd_addI)
    (dss_one (ds_for (ps_for (passes_of rfl) rfl (di_seq (de_dgetL (hu_1 hr) (de_var (pv 0)) (de_var (pv 5)) (fun _ _ => rfl))) (dg_n (pg_name (i := 6) scm_far_from.nd rfl (by first | exact .inl rfl | exact .inr rfl)))
      (dss_one (ds_if (dt_dninT (hu_1 hr) (de_var (pv 6)) (de_var (pv 2)))
        (dss_cons (ds_dputT (hu_1 hr) (de_var (pv 2)) (de_var (pv 6)) (de_op op_addA opd_add (de_dgetL (hu_1 hr) (de_var (pv 2)) (de_var (pv 5)) (fun _ _ => rfl)) de_int))
        (dss_one (ds_drop (de_bm (pe_bm PySem.F.plainAttrs_list PySem.F.slot_list_append PySem.F.type_list_append mt_append (de_var (pv 3)) (da_cons (de_var (pv 6)) da_nil)) md_app))))
        dss_nil))))))))
  (dss_one (ds_ret (de_var (pv 2)))))))))
abbrev sm_first_ring : Stmt := topS 17
theorem scm_first_ring : FnScope ["gaps", "links", "sources", "best", "start", "ring"] ["gaps"] (defScope sm_first_ring) := ⟨rfl, rfl, rfl, by decide +kernel, rfl, by decide +kernel, by decide +kernel⟩
theorem goodm_first_ring (T : Tx P w K mg) (D : DefAt K mg "first_ring" "first_ring" sm_first_ring ["gaps"]) (Gdays_between : Good P w K mg base "days_between" 2 ["gaps"] m_days_between) (Gturned : Good P w K mg base "turned" 1 ["links"] m_turned_2) (Gring_through : Good P w K mg base "ring_through" 1 ["links", "far", "start"] m_ring_through) (Gfar_from : Good P w K mg base "far_from" 1 ["sources", "goal"] m_far_from) : Good P w K mg base "first_ring" 3 ["gaps"] m_first_ring :=
  (D.good (N := ["gaps", "links", "sources", "best", "start", "ring"]) scm_first_ring fun f cdv A outer s H E hr =>
  (dss_cons (ds_set (ps_set (i := 1) scm_first_ring.nd rfl (by first | exact .inl rfl | exact .inr rfl) (dcG (takes_of rfl rfl rfl rfl) Gdays_between (hr.mono (by decide)) rfl rfl ((aCons_len aNil_len)) (da_cons (de_var (pv 0)) da_nil))))
  (dss_cons (ds_set (ps_set (i := 2) scm_first_ring.nd rfl (by first | exact .inl rfl | exact .inr rfl) (dcG (takes_of rfl rfl rfl rfl) Gturned (hr.mono (by decide)) rfl rfl ((aCons_len aNil_len)) (da_cons (de_var (pv 1)) da_nil))))
  (dss_cons (ds_set (ps_set (i := 3) scm_first_ring.nd rfl (by first | exact .inl rfl | exact .inr rfl) de_non))
  (dss_cons (ds_lock (ds_for (ps_for (passes_of rfl) rfl (di_key (de_var (pv 1))) (dg_n (pg_name (i := 4) scm_first_ring.nd rfl (by first | exact .inl rfl | exact .inr rfl)))
    (dss_cons (ds_set (ps_set (i := 5) scm_first_ring.nd rfl (by first | exact .inl rfl | exact .inr rfl) (dcG (takes_of rfl rfl rfl rfl) Gring_through (hr.mono (by decide)) rfl rfl ((aCons_len (aCons_len (aCons_len aNil_len)))) (da_cons (de_var (pv 1)) (da_cons (dcG (takes_of rfl rfl rfl rfl) Gfar_from (hr.mono (by decide)) rfl rfl ((aCons_len (aCons_len aNil_len))) (da_cons (de_var (pv 2)) (da_cons (de_var (pv 4)) da_nil))) (da_cons (de_var (pv 4)) da_nil))))))
    (dss_cons (ds_if (dt_cmp op_isN opd_isn (de_var (pv 5)) de_non rfl)
      (dss_one ds_continue)
      dss_nil)
    (dss_one (ds_if (PW.pt (dw_or (dt_cmp op_isN opd_isn (de_var (pv 3)) de_non rfl) (dw_or (dt_cmp (op_ltZ (hu_of64 hr)) opd_ltZ (de_cb (pe_callB call_lenA rfl T.b_len (by decide +kernel) (da_cons (de_var (pv 5)) da_nil)) cd_len) (de_cb (pe_callB call_lenA rfl T.b_len (by decide +kernel) (da_cons (de_var (pv 3)) da_nil)) cd_len) rfl) (dw_or1 (PW.pt (dw_and (dt_cmp (op_eqA (hu_of64 hr)) opd_eqA (de_cb (pe_callB call_lenA rfl T.b_len (by decide +kernel) (da_cons (de_var (pv 5)) da_nil)) cd_len) (de_cb (pe_callB call_lenA rfl T.b_len (by decide +kernel) (da_cons (de_var (pv 3)) da_nil)) cd_len) rfl) (dw_and1 (dt_cmp (op_ltZ (hu_of64 hr)) opd_ltZ (de_var (pv 5)) (de_var (pv 3)) rfl))))))))
      (dss_one (ds_set (ps_set (i := 3) scm_first_ring.nd rfl (by first | exact .inl rfl | exact .inr rfl) (de_var (pv 5)))))
      dss_nil)))))))
  (dss_one (ds_ret (de_var (pv 3)))))))))
abbrev sm_rota : Stmt := topS 57
theorem scm_rota : FnScope ["gaps"] ["gaps"] (defScope sm_rota) := ⟨rfl, rfl, rfl, by decide +kernel, rfl, by decide +kernel, by decide +kernel⟩
theorem goodm_rota (T : Tx P w K mg) (D : DefAt K mg "rota" "rota" sm_rota ["gaps"]) (Gcheck_gaps : Good P w K mg base "check_gaps" 3 ["gaps"] m_check_gaps) (Gfirst_ring : Good P w K mg base "first_ring" 3 ["gaps"] m_first_ring) : Good P w K mg base "rota" 4 ["gaps"] m_rota :=
  (D.good (N := ["gaps"]) scm_rota fun f cdv A outer s H E hr =>
  (dss_cons (ds_drop (dc (takes_of rfl rfl rfl rfl) Gcheck_gaps (hr.mono (by decide)) rfl rfl ((aCons_len aNil_len)) (da_cons (de_var (pv 0)) da_nil)))
  (dss_one (ds_ret (dc (takes_of rfl rfl rfl rfl) Gfirst_ring (hr.mono (by decide)) rfl rfl ((aCons_len aNil_len)) (da_cons (de_var (pv 0)) da_nil))))))
abbrev sm_check_worths : Stmt := topS 51
theorem scm_check_worths : FnScope ["jobs", "worths", "worth"] ["jobs", "worths"] (defScope sm_check_worths) := ⟨rfl, rfl, rfl, by decide +kernel, rfl, by decide +kernel, by decide +kernel⟩
theorem goodm_check_worths (T : Tx P w K mg) (D : DefAt K mg "check_worths" "check_worths" sm_check_worths ["jobs", "worths"]) (Gis_sequence : Good P w K mg base "is_sequence" 1 ["x"] m_is_sequence) (Gis_within : Good P w K mg base "is_within" 2 ["x", "low", "high"] m_is_within) : Good P w K mg base "check_worths" 3 ["jobs", "worths"] m_check_worths :=
  (D.good (N := ["jobs", "worths", "worth"]) scm_check_worths fun f cdv A outer s H E hr =>
  (dss_one (ds_if (PW.pt (dw_or (dt_not (dt_tru (dc (takes_of rfl rfl rfl rfl) Gis_sequence (hr.mono (by decide)) rfl rfl ((aCons_len aNil_len)) (da_cons (de_var (pv 1)) da_nil)))) (dw_or1 (dt_not (dt_tru (de_cb (pe_callB (cr_all rfl) rfl T.b_all (by decide +kernel) (da_cons (de_lc (by decide) (pe_lc (own := [("worth", 2)]) rfl scm_check_worths.nd (di_seq (de_var (pv 1))) (blkOk_by (N := ["jobs", "worths", "worth"]) (sc := (defScope sm_check_worths)) (by decide +kernel)) (fun _ _ _ _ _ => (dg_n (pg_name (i := 2) scm_check_worths.nd rfl (by first | exact .inl rfl | exact .inr rfl)))) (fun _ _ _ _ _ => dts_nil) (fun _ _ _ _ _ => (dc takes0 Gis_within (hr.mono (by decide)) rfl rfl ((aCons_len (aCons_len (aCons_len aNil_len)))) (da_cons (de_var (pv 2)) (da_cons de_int (da_cons (de_top rfl T.c_MOST_WORTH) da_nil))))))) da_nil)) cd_all))))))
    (dss_one (ds_raise1 rfl (takes_of rfl rfl rfl rfl) T.x_BadValue (hr.mono (by decide)) rfl (da_cons de_int da_nil)))
    dss_nil)))
abbrev sm_chosen : Stmt := topS 52
theorem scm_chosen : FnScope ["jobs", "worths", "crews", "closed", "order", "taken", "_", "at", "wanted", "names", "worth", "k"] ["jobs", "worths", "crews", "closed"] (defScope sm_chosen) := ⟨rfl, rfl, rfl, by decide +kernel, rfl, by decide +kernel, by decide +kernel⟩
theorem goodm_chosen (T : Tx P w K mg) (D : DefAt K mg "chosen" "chosen" sm_chosen ["jobs", "worths", "crews", "closed"]) (Gcheck_triples : Good P w K mg base "check_triples" 5 ["rows"] m_check_triples) (Gcheck_worths : Good P w K mg base "check_worths" 3 ["jobs", "worths"] m_check_worths) (Gcheck_visits : Good P w K mg base "check_visits" 4 ["jobs", "crews", "closed", "at"] m_check_visits) (Gcrowded_days : Good P w K mg base "crowded_days" 2 ["jobs", "crews", "closed"] m_crowded_days) : Good P w K mg base "chosen" 6 ["jobs", "worths", "crews", "closed"] m_chosen :=
  (D.good (N := ["jobs", "worths", "crews", "closed", "order", "taken", "_", "at", "wanted", "names", "worth", "k"]) scm_chosen fun f cdv A outer s H E hr =>
  (dss_cons (ds_drop (dc (takes_of rfl rfl rfl rfl) Gcheck_triples (hr.mono (by decide)) rfl rfl ((aCons_len aNil_len)) (da_cons (de_var (pv 0)) da_nil)))
  (dss_cons (ds_drop (dc (takes_of rfl rfl rfl rfl) Gcheck_worths (hr.mono (by decide)) rfl rfl ((aCons_len (aCons_len aNil_len))) (da_cons (de_var (pv 0)) (da_cons (de_var (pv 1)) da_nil))))
  (dss_cons (ds_drop (dc (takes_of rfl rfl rfl rfl) Gcheck_visits (hr.mono (by decide)) rfl rfl ((aCons_len (aCons_len (aCons_len (aCons_len aNil_len))))) (da_cons (de_var (pv 0)) (da_cons (de_var (pv 2)) (da_cons (de_var (pv 3)) (da_cons de_int da_nil))))))
  (dss_cons (ds_if (dt_cmp (op_neA (hu_of64 hr)) opd_eqA (de_cb (pe_callB call_lenA rfl T.b_len (by decide +kernel) (da_cons (de_var (pv 1)) da_nil)) cd_len) (de_cb (pe_callB call_lenA rfl T.b_len (by decide +kernel) (da_cons (de_var (pv 0)) da_nil)) cd_len) rfl)
    (dss_one (ds_raise1 rfl (takes_of rfl rfl rfl rfl) T.x_BadValue (hr.mono (by decide)) rfl (da_cons de_int da_nil)))
    dss_nil)
  (dss_cons (ds_set (ps_set (i := 4) scm_chosen.nd rfl (by first | exact .inl rfl | exact .inr rfl) (de_cb (pe_callB (call_sortA rfl) rfl T.b_sorted (by decide +kernel) (da_cons (de_lc (by decide) (pe_lc (own := [("at", 7), ("worth", 10)]) rfl scm_chosen.nd (di_enu (pi_enB rfl T.b_enumerate (da_cons (de_var (pv 1)) da_nil))) (blkOk_by (N := ["jobs", "worths", "crews", "closed", "order", "taken", "_", "at", "wanted", "names", "worth", "k"]) (sc := (defScope sm_chosen)) (by decide +kernel)) (fun _ _ _ _ _ => (dgT rfl (dgsC (dg_n (pg_name (i := 7) scm_chosen.nd rfl (by first | exact .inl rfl | exact .inr rfl))) (dgsC (dg_n (pg_name (i := 10) scm_chosen.nd rfl (by first | exact .inl rfl | exact .inr rfl))) dgs_nil (fun a b => pgs_cons a b)) (fun a b => pgs_cons a b)) (fun a => pg_tup rfl a) (fun a => pg_lst rfl a))) (fun _ _ _ _ _ => dts_nil) (fun _ _ _ _ _ => (de_tup (da_cons (de_un un_neg und_neg (de_var (pv 10))) (da_cons (de_var (pv 7)) da_nil)))))) da_nil)) cd_sort)))
  (dss_cons (ds_set (ps_set (i := 5) scm_chosen.nd rfl (by first | exact .inl rfl | exact .inr rfl) (de_cell da_nil)))
  (dss_cons (ds_for (ps_for (passes_of rfl) rfl (di_seq (de_var (pv 4))) (dgT rfl (dgsC (dg_n (pg_name (i := 6) scm_chosen.nd rfl (by first | exact .inl rfl | exact .inr rfl))) (dgsC (dg_n (pg_name (i := 7) scm_chosen.nd rfl (by first | exact .inl rfl | exact .inr rfl))) dgs_nil (fun a b => pgs_cons a b)) (fun a b => pgs_cons a b)) (fun a => pg_tup rfl a) (fun a => pg_lst rfl a))
    (dss_cons (ds_setLc (by decide) (ps_setLc (own := [("k", 11)]) rfl scm_chosen.nd rfl rfl (sw_true rfl rfl rfl (by decide +kernel)) (di_seq (de_op op_addA opd_add (de_var (pv 5)) (de_lst (da_cons (de_var (pv 7)) da_nil)))) (blkOk_by (N := ["jobs", "worths", "crews", "closed", "order", "taken", "_", "at", "wanted", "names", "worth", "k"]) (sc := (defScope sm_chosen)) (by decide +kernel)) (fun _ _ _ _ _ => (dg_n (pg_name (i := 11) scm_chosen.nd rfl (by first | exact .inl rfl | exact .inr rfl)))) (fun _ _ _ _ _ => dts_nil) (fun _ _ _ _ _ => (de_ix ix_seq opd_ix (de_var (pv 0)) (de_var (pv 11)) (fun _ _ => rfl)))))
    (dss_one (ds_if (dt_cmp op_isN opd_isn (dc (takes_of rfl rfl rfl rfl) Gcrowded_days (hr.mono (by decide)) rfl rfl ((aCons_len (aCons_len (aCons_len aNil_len)))) (da_cons (de_var (pv 8)) (da_cons (de_var (pv 2)) (da_cons (de_var (pv 3)) da_nil)))) de_non rfl)
      (dss_one (ds_drop (de_bm (pe_bm PySem.F.plainAttrs_list PySem.F.slot_list_append PySem.F.type_list_append mt_append (de_var (pv 5)) (da_cons (de_var (pv 7)) da_nil)) md_app)))
      dss_nil)))))
  (dss_cons (ds_set (ps_set (i := 9) scm_chosen.nd rfl (by first | exact .inl rfl | exact .inr rfl) (de_cb (pe_callTy call_tuple_of rfl T.b_tuple (by decide +kernel) (da_cons (de_lc (by decide) (pe_lc (own := [("at", 7)]) rfl scm_chosen.nd (di_seq (de_cb (pe_callB (call_sortA rfl) rfl T.b_sorted (by decide +kernel) (da_cons (de_var (pv 5)) da_nil)) cd_sort)) (blkOk_by (N := ["jobs", "worths", "crews", "closed", "order", "taken", "_", "at", "wanted", "names", "worth", "k"]) (sc := (defScope sm_chosen)) (by decide +kernel)) (fun _ _ _ _ _ => (dg_n (pg_name (i := 7) scm_chosen.nd rfl (by first | exact .inl rfl | exact .inr rfl)))) (fun _ _ _ _ _ => dts_nil) (fun _ _ _ _ _ => (de_ix ix_seq opd_ix (de_ix ix_seq opd_ix (de_var (pv 0)) (de_var (pv 7)) (fun _ _ => rfl)) de_int (fun _ _ => rfl))))) da_nil)) cd_tuple)))
  (dss_one (ds_ret (de_tup (da_cons (de_cb (pe_callB (call_sumB rfl) rfl T.b_sum (by decide +kernel) (da_cons (de_lc (by decide) (pe_lc (own := [("at", 7)]) rfl scm_chosen.nd (di_seq (de_var (pv 5))) (blkOk_by (N := ["jobs", "worths", "crews", "closed", "order", "taken", "_", "at", "wanted", "names", "worth", "k"]) (sc := (defScope sm_chosen)) (by decide +kernel)) (fun _ _ _ _ _ => (dg_n (pg_name (i := 7) scm_chosen.nd rfl (by first | exact .inl rfl | exact .inr rfl)))) (fun _ _ _ _ _ => dts_nil) (fun _ _ _ _ _ => (de_ix ix_seq opd_ix (de_var (pv 1)) (de_var (pv 7)) (fun _ _ => rfl))))) da_nil)) cd_sumA) (da_cons (de_var (pv 9)) da_nil))))))))))))))
abbrev sm_overlap : Stmt := topS 29
theorem scm_overlap : FnScope ["one", "other"] ["one", "other"] (defScope sm_overlap) := ⟨rfl, rfl, rfl, by decide +kernel, rfl, by decide +kernel, by decide +kernel⟩
theorem goodm_overlap (T : Tx P w K mg) (D : DefAt K mg "overlap" "overlap" sm_overlap ["one", "other"])  : Good P w K mg base "overlap" 1 ["one", "other"] m_overlap :=
  (D.good (N := ["one", "other"]) scm_overlap fun f cdv A outer s H E hr =>
  (dss_one (ds_ret (de_and (de_cmp op_leA opd_ord (de_ix ix_seq opd_ix (de_var (pv 0)) de_int (fun _ _ => rfl)) (de_ix ix_seq opd_ix (de_var (pv 1)) de_int (fun _ _ => rfl)) rfl) (de_one (de_cmp op_leA opd_ord (de_ix ix_seq opd_ix (de_var (pv 1)) de_int (fun _ _ => rfl)) (de_ix ix_seq opd_ix (de_var (pv 0)) de_int (fun _ _ => rfl)) rfl))))))
abbrev sm_free_hand : Stmt := topS 53
theorem scm_free_hand : FnScope ["spans", "numbers", "at", "busy", "hand", "k", "span"] ["spans", "numbers", "at"] (defScope sm_free_hand) := ⟨rfl, rfl, rfl, by decide +kernel, rfl, by decide +kernel, by decide +kernel⟩
theorem goodm_free_hand (T : Tx P w K mg) (D : DefAt K mg "free_hand" "free_hand" sm_free_hand ["spans", "numbers", "at"]) (Goverlap : Good P w K mg base "overlap" 1 ["one", "other"] m_overlap) : Good P w K mg base "free_hand" 2 ["spans", "numbers", "at"] m_free_hand :=
  (D.good (N := ["spans", "numbers", "at", "busy", "hand", "k", "span"]) scm_free_hand fun f cdv A outer s H E hr =>
  (dss_cons (ds_setLc (by decide) (ps_setLc (own := [("k", 5), ("span", 6)]) rfl scm_free_hand.nd rfl rfl (sw_true rfl rfl rfl (by decide +kernel)) (di_enu (pi_enB rfl T.b_enumerate (da_cons (de_var (pv 0)) da_nil))) (blkOk_by (N := ["spans", "numbers", "at", "busy", "hand", "k", "span"]) (sc := (defScope sm_free_hand)) (by decide +kernel)) (fun _ _ _ _ _ => (dgT rfl (dgsC (dg_n (pg_name (i := 5) scm_free_hand.nd rfl (by first | exact .inl rfl | exact .inr rfl))) (dgsC (dg_n (pg_name (i := 6) scm_free_hand.nd rfl (by first | exact .inl rfl | exact .inr rfl))) dgs_nil (fun a b => pgs_cons a b)) (fun a b => pgs_cons a b)) (fun a => pg_tup rfl a) (fun a => pg_lst rfl a))) (fun _ _ _ _ _ => (dts_one (PW.pt (dw_and (dt_cmp op_notN opd_notn (de_ix ix_seq opd_ix (de_var (pv 1)) (de_var (pv 5)) (fun _ _ => rfl)) de_non rfl) (dw_and1 (dt_tru (dc takes0 Goverlap (hr.mono (by decide)) rfl rfl ((aCons_len (aCons_len aNil_len))) (da_cons (de_var (pv 6)) (da_cons (de_ix ix_seq opd_ix (de_var (pv 0)) (de_var (pv 2)) (fun _ _ => rfl)) da_nil))))))))) (fun _ _ _ _ _ => (de_ix ix_seq opd_ix (de_var (pv 1)) (de_var (pv 5)) (fun _ _ => rfl)))))
  (dss_cons (ds_set (ps_set (i := 4) scm_free_hand.nd rfl (by first | exact .inl rfl | exact .inr rfl) de_int))
  (dss_cons (ds_while 100000 (passes_of rfl) (dt_cmp op_inA opd_in (de_var (pv 4)) (de_var (pv 3)) rfl)
    (dss_one (ds_aug (ps_aug (i := 4) scm_free_hand.nd rfl (by first | exact .inl rfl | exact .inr rfl) de_int iop_add) opd_addI)))
  (dss_one (ds_ret (de_var (pv 4))))))))
abbrev sm_hands : Stmt := topS 54
theorem scm_hands : FnScope ["spans", "numbers", "_", "at", "count", "span", "number"] ["spans"] (defScope sm_hands) := ⟨rfl, rfl, rfl, by decide +kernel, rfl, by decide +kernel, by decide +kernel⟩
theorem goodm_hands (T : Tx P w K mg) (D : DefAt K mg "hands" "hands" sm_hands ["spans"]) (Gcheck_triples : Good P w K mg base "check_triples" 5 ["rows"] m_check_triples) (Gfree_hand : Good P w K mg base "free_hand" 2 ["spans", "numbers", "at"] m_free_hand) : Good P w K mg base "hands" 6 ["spans"] m_hands :=
  (D.good (N := ["spans", "numbers", "_", "at", "count", "span", "number"]) scm_hands fun f cdv A outer s H E hr =>
  (dss_cons (ds_drop (dc (takes_of rfl rfl rfl rfl) Gcheck_triples (hr.mono (by decide)) rfl rfl ((aCons_len aNil_len)) (da_cons (de_var (pv 0)) da_nil)))
  (dss_cons (ds_set (ps_set (i := 1) scm_hands.nd rfl (by first | exact .inl rfl | exact .inr rfl) (de_op op_mulA opd_mulC (de_lst (da_cons de_non da_nil)) (de_cb (pe_callB call_lenA rfl T.b_len (by decide +kernel) (da_cons (de_var (pv 0)) da_nil)) cd_len))))
  (dss_cons (ds_for (ps_for (passes_of rfl) rfl (di_seq (de_cb (pe_callB (call_sortA rfl) rfl T.b_sorted (by decide +kernel) (da_cons (de_lc (by decide) (pe_lc (own := [("at", 3), ("span", 5)]) rfl scm_hands.nd (di_enu (pi_enB rfl T.b_enumerate (da_cons (de_var (pv 0)) da_nil))) (blkOk_by (N := ["spans", "numbers", "_", "at", "count", "span", "number"]) (sc := (defScope sm_hands)) (by decide +kernel)) (fun _ _ _ _ _ => (dgT rfl (dgsC (dg_n (pg_name (i := 3) scm_hands.nd rfl (by first | exact .inl rfl | exact .inr rfl))) (dgsC (dg_n (pg_name (i := 5) scm_hands.nd rfl (by first | exact .inl rfl | exact .inr rfl))) dgs_nil (fun a b => pgs_cons a b)) (fun a b => pgs_cons a b)) (fun a => pg_tup rfl a) (fun a => pg_lst rfl a))) (fun _ _ _ _ _ => dts_nil) (fun _ _ _ _ _ => (de_tup (da_cons (de_ix ix_seq opd_ix (de_var (pv 5)) de_int (fun _ _ => rfl)) (da_cons (de_var (pv 3)) da_nil)))))) da_nil)) cd_sort)) (dgT rfl (dgsC (dg_n (pg_name (i := 2) scm_hands.nd rfl (by first | exact .inl rfl | exact .inr rfl))) (dgsC (dg_n (pg_name (i := 3) scm_hands.nd rfl (by first | exact .inl rfl | exact .inr rfl))) dgs_nil (fun a b => pgs_cons a b)) (fun a b => pgs_cons a b)) (fun a => pg_tup rfl a) (fun a => pg_lst rfl a))
    (dss_one (ds_put (ps_asg (dc (takes_of rfl rfl rfl rfl) Gfree_hand (hr.mono (by decide)) rfl rfl ((aCons_len (aCons_len (aCons_len aNil_len)))) (da_cons (de_var (pv 0)) (da_cons (de_var (pv 1)) (da_cons (de_var (pv 3)) da_nil)))) (pg_sub (de_var (pv 1)) (de_var (pv 3)) set_list)) sd_set))))
  (dss_cons (ds_set (ps_set (i := 4) scm_hands.nd rfl (by first | exact .inl rfl | exact .inr rfl) (de_maxD rfl (hu_of65 hr) rfl T.b_max (by decide +kernel) (de_lc (by decide) (pe_lc (own := [("number", 6)]) rfl scm_hands.nd (di_seq (de_var (pv 1))) (blkOk_by (N := ["spans", "numbers", "_", "at", "count", "span", "number"]) (sc := (defScope sm_hands)) (by decide +kernel)) (fun _ _ _ _ _ => (dg_n (pg_name (i := 6) scm_hands.nd rfl (by first | exact .inl rfl | exact .inr rfl)))) (fun _ _ _ _ _ => dts_nil) (fun _ _ _ _ _ => (de_op op_addA opd_add (de_var (pv 6)) de_int)))) de_int)))
  (dss_one (ds_ret (de_tup (da_cons (de_var (pv 4)) (da_cons (de_cb (pe_callTy call_tuple_of rfl T.b_tuple (by decide +kernel) (da_cons (de_var (pv 1)) da_nil)) cd_tuple) da_nil))))))))))
abbrev sm_shut_out : Stmt := topS 28
theorem scm_shut_out : FnScope ["jobs", "closed", "counts", "at", "job"] ["jobs", "closed"] (defScope sm_shut_out) := ⟨rfl, rfl, rfl, by decide +kernel, rfl, by decide +kernel, by decide +kernel⟩
theorem goodm_shut_out (T : Tx P w K mg) (D : DefAt K mg "shut_out" "shut_out" sm_shut_out ["jobs", "closed"]) (Gopen_counts : Good P w K mg base "open_counts" 1 ["closed"] m_open_counts) : Good P w K mg base "shut_out" 2 ["jobs", "closed"] m_shut_out :=
  (D.good (N := ["jobs", "closed", "counts", "at", "job"]) scm_shut_out fun f cdv A outer s H E hr =>
  (dss_cons (ds_set (ps_set (i := 2) scm_shut_out.nd rfl (by first | exact .inl rfl | exact .inr rfl) (dc (takes_of rfl rfl rfl rfl) Gopen_counts (hr.mono (by decide)) rfl rfl ((aCons_len aNil_len)) (da_cons (de_var (pv 1)) da_nil))))
  (dss_cons (ds_for (ps_for (passes_of rfl) rfl (di_enu (pi_enB rfl T.b_enumerate (da_cons (de_var (pv 0)) da_nil))) (dgT rfl (dgsC (dg_n (pg_name (i := 3) scm_shut_out.nd rfl (by first | exact .inl rfl | exact .inr rfl))) (dgsC (dg_n (pg_name (i := 4) scm_shut_out.nd rfl (by first | exact .inl rfl | exact .inr rfl))) dgs_nil (fun a b => pgs_cons a b)) (fun a b => pgs_cons a b)) (fun a => pg_tup rfl a) (fun a => pg_lst rfl a))
    (dss_one (ds_if (dt_cmp (op_eqA (hu_of64 hr)) opd_eqA (de_ix ix_seq opd_ix (de_var (pv 2)) (de_op op_addA opd_add (de_ix ix_seq opd_ix (de_var (pv 4)) de_int (fun _ _ => rfl)) de_int) (fun _ _ => rfl)) (de_ix ix_seq opd_ix (de_var (pv 2)) (de_ix ix_seq opd_ix (de_var (pv 4)) de_int (fun _ _ => rfl)) (fun _ _ => rfl)) rfl)
      (dss_one (ds_ret (de_var (pv 3))))
      dss_nil))))
  (dss_one (ds_ret de_non)))))
abbrev sm_crews_needed : Stmt := topS 50
theorem scm_crews_needed : FnScope ["jobs", "closed", "at", "crews"] ["jobs", "closed"] (defScope sm_crews_needed) := ⟨rfl, rfl, rfl, by decide +kernel, rfl, by decide +kernel, by decide +kernel⟩
theorem goodm_crews_needed (T : Tx P w K mg) (D : DefAt K mg "crews_needed" "crews_needed" sm_crews_needed ["jobs", "closed"]) (Gcheck_triples : Good P w K mg base "check_triples" 5 ["rows"] m_check_triples) (Gshut_out : Good P w K mg base "shut_out" 2 ["jobs", "closed"] m_shut_out) (Gare_closed : Good P w K mg base "are_closed" 3 ["days"] m_are_closed) (Gcrowded_days : Good P w K mg base "crowded_days" 2 ["jobs", "crews", "closed"] m_crowded_days) : Good P w K mg base "crews_needed" 6 ["jobs", "closed"] m_crews_needed :=
  (D.good (N := ["jobs", "closed", "at", "crews"]) scm_crews_needed fun f cdv A outer s H E hr =>
  (dss_cons (ds_drop (dc (takes_of rfl rfl rfl rfl) Gcheck_triples (hr.mono (by decide)) rfl rfl ((aCons_len aNil_len)) (da_cons (de_var (pv 0)) da_nil)))
  (dss_cons (ds_if (dt_not (dt_tru (dc (takes_of rfl rfl rfl rfl) Gare_closed (hr.mono (by decide)) rfl rfl ((aCons_len aNil_len)) (da_cons (de_var (pv 1)) da_nil))))
    (dss_one (ds_raise1 rfl (takes_of rfl rfl rfl rfl) T.x_BadValue (hr.mono (by decide)) rfl (da_cons de_int da_nil)))
    dss_nil)
  (dss_cons (ds_set (ps_set (i := 2) scm_crews_needed.nd rfl (by first | exact .inl rfl | exact .inr rfl) (dc (takes_of rfl rfl rfl rfl) Gshut_out (hr.mono (by decide)) rfl rfl ((aCons_len (aCons_len aNil_len))) (da_cons (de_var (pv 0)) (da_cons (de_var (pv 1)) da_nil)))))
  (dss_cons (ds_if (dt_cmp op_notN opd_notn (de_var (pv 2)) de_non rfl)
    (dss_one (ds_raise1 rfl (takes_of rfl rfl rfl rfl) T.x_NoDay (hr.mono (by decide)) rfl (da_cons (de_ix ix_seq opd_ix (de_ix ix_seq opd_ix (de_var (pv 0)) (de_var (pv 2)) (fun _ _ => rfl)) de_int (fun _ _ => rfl)) da_nil)))
    dss_nil)
  (dss_cons (ds_set (ps_set (i := 3) scm_crews_needed.nd rfl (by first | exact .inl rfl | exact .inr rfl) de_int))
  (dss_cons (ds_while 100000 (passes_of rfl) (dt_cmp op_notN opd_notn (dc (takes_of rfl rfl rfl rfl) Gcrowded_days (hr.mono (by decide)) rfl rfl ((aCons_len (aCons_len (aCons_len aNil_len)))) (da_cons (de_var (pv 0)) (da_cons (de_var (pv 3)) (da_cons (de_var (pv 1)) da_nil)))) de_non rfl)
    (dss_one (ds_aug (ps_aug (i := 3) scm_crews_needed.nd rfl (by first | exact .inl rfl | exact .inr rfl) de_int iop_add) opd_addI)))
  (dss_one (ds_ret (de_var (pv 3)))))))))))
abbrev sm_widest : Stmt := topS 10
theorem scm_widest : FnScope ["ring", "at", "places", "most", "one", "other", "k", "i"] ["ring", "at"] (defScope sm_widest) := ⟨rfl, rfl, rfl, by decide +kernel, rfl, by decide +kernel, by decide +kernel⟩
theorem goodm_widest (T : Tx P w K mg) (D : DefAt K mg "widest" "widest" sm_widest ["ring", "at"])  : Good P w K mg base "widest" 1 ["ring", "at"] m_widest :=
  (D.good (N := ["ring", "at", "places", "most", "one", "other", "k", "i"]) scm_widest fun f cdv A outer s H E hr =>
  (dss_cons (ds_setLc (by decide) (ps_setLc (own := [("k", 6), ("i", 7)]) rfl scm_widest.nd rfl rfl (sw_true rfl rfl rfl (by decide +kernel)) (di_enu (pi_enB rfl T.b_enumerate (da_cons (de_var (pv 0)) da_nil))) (blkOk_by (N := ["ring", "at", "places", "most", "one", "other", "k", "i"]) (sc := (defScope sm_widest)) (by decide +kernel)) (fun _ _ _ _ _ => (dgT rfl (dgsC (dg_n (pg_name (i := 6) scm_widest.nd rfl (by first | exact .inl rfl | exact .inr rfl))) (dgsC (dg_n (pg_name (i := 7) scm_widest.nd rfl (by first | exact .inl rfl | exact .inr rfl))) dgs_nil (fun a b => pgs_cons a b)) (fun a b => pgs_cons a b)) (fun a => pg_tup rfl a) (fun a => pg_lst rfl a))) (fun _ _ _ _ _ => (dts_one (dt_cmp (op_eqA (hu_of64 hr)) opd_eqA (de_var (pv 7)) (de_var (pv 1)) rfl))) (fun _ _ _ _ _ => (de_var (pv 6)))))
  (dss_cons (ds_if (dt_not (dt_tru (de_var (pv 2))))
    (dss_one (ds_ret de_non))
    dss_nil)
  (dss_cons (ds_set (ps_set (i := 3) scm_widest.nd rfl (by first | exact .inl rfl | exact .inr rfl) (de_op op_sub opd_sub (de_op op_addA opd_add (de_ix ix_seq opd_ix (de_var (pv 2)) de_int (fun _ _ => rfl)) (de_cb (pe_callB call_lenA rfl T.b_len (by decide +kernel) (da_cons (de_var (pv 0)) da_nil)) cd_len)) (de_ix ix_seq opd_ix (de_var (pv 2)) (de_un un_neg und_neg de_int) (fun _ _ => rfl)))))
  (dss_cons (ds_for (ps_for (passes_of rfl) rfl (di_zip (pi_zpB rfl T.b_zip (da_cons (de_var (pv 2)) (da_cons (de_sl (pe_slice sl_all (de_var (pv 2)) (do_some de_int) do_none) sld_f) da_nil)))) (dgT rfl (dgsC (dg_n (pg_name (i := 4) scm_widest.nd rfl (by first | exact .inl rfl | exact .inr rfl))) (dgsC (dg_n (pg_name (i := 5) scm_widest.nd rfl (by first | exact .inl rfl | exact .inr rfl))) dgs_nil (fun a b => pgs_cons a b)) (fun a b => pgs_cons a b)) (fun a => pg_tup rfl a) (fun a => pg_lst rfl a))
    (dss_one (ds_set (ps_set (i := 3) scm_widest.nd rfl (by first | exact .inl rfl | exact .inr rfl) (de_cb (pe_callB (call_maxB rfl) rfl T.b_max (by decide +kernel) (da_cons (de_var (pv 3)) (da_cons (de_op op_sub opd_sub (de_var (pv 5)) (de_var (pv 4))) da_nil))) cd_max))))))
  (dss_one (ds_ret (de_var (pv 3)))))))))
abbrev sm_keeps : Stmt := topS 56
theorem scm_keeps : FnScope ["gaps", "ring", "at", "gap", "most", "i"] ["gaps", "ring"] (defScope sm_keeps) := ⟨rfl, rfl, rfl, by decide +kernel, rfl, by decide +kernel, by decide +kernel⟩
theorem goodm_keeps (T : Tx P w K mg) (D : DefAt K mg "keeps" "keeps" sm_keeps ["gaps", "ring"]) (Gcheck_gaps : Good P w K mg base "check_gaps" 3 ["gaps"] m_check_gaps) (Gwidest : Good P w K mg base "widest" 1 ["ring", "at"] m_widest) (Gis_row : Good P w K mg base "is_row" 2 ["x", "least", "most"] m_is_row) (Gis_within : Good P w K mg base "is_within" 2 ["x", "low", "high"] m_is_within) : Good P w K mg base "keeps" 4 ["gaps", "ring"] m_keeps :=
  (D.good (N := ["gaps", "ring", "at", "gap", "most", "i"]) scm_keeps fun f cdv A outer s H E hr =>
  (dss_cons (ds_drop (dc (takes_of rfl rfl rfl rfl) Gcheck_gaps (hr.mono (by decide)) rfl rfl ((aCons_len aNil_len)) (da_cons (de_var (pv 0)) da_nil)))
  (dss_cons (ds_if (PW.pt (dw_or (dt_not (dt_tru (dc (takes_of rfl rfl rfl rfl) Gis_row (hr.mono (by decide)) rfl rfl ((aCons_len (aCons_len (aCons_len aNil_len)))) (da_cons (de_var (pv 1)) (da_cons de_int (da_cons (de_top rfl T.c_MOST_RING) da_nil)))))) (dw_or1 (dt_not (dt_tru (de_cb (pe_callB (cr_all rfl) rfl T.b_all (by decide +kernel) (da_cons (de_lc (by decide) (pe_lc (own := [("i", 5)]) rfl scm_keeps.nd (di_seq (de_var (pv 1))) (blkOk_by (N := ["gaps", "ring", "at", "gap", "most", "i"]) (sc := (defScope sm_keeps)) (by decide +kernel)) (fun _ _ _ _ _ => (dg_n (pg_name (i := 5) scm_keeps.nd rfl (by first | exact .inl rfl | exact .inr rfl)))) (fun _ _ _ _ _ => dts_nil) (fun _ _ _ _ _ => (dc takes0 Gis_within (hr.mono (by decide)) rfl rfl ((aCons_len (aCons_len (aCons_len aNil_len)))) (da_cons (de_var (pv 5)) (da_cons de_int (da_cons (de_op op_sub opd_sub (de_cb (pe_callB call_lenA rfl T.b_len (by decide +kernel) (da_cons (de_var (pv 0)) da_nil)) cd_len) de_int) da_nil))))))) da_nil)) cd_all))))))
    (dss_one (ds_raise1 rfl (takes_of rfl rfl rfl rfl) T.x_BadValue (hr.mono (by decide)) rfl (da_cons de_int da_nil)))
    dss_nil)
  (dss_cons (ds_for (ps_for (passes_of rfl) rfl (di_enu (pi_enB rfl T.b_enumerate (da_cons (de_var (pv 0)) da_nil))) (dgT rfl (dgsC (dg_n (pg_name (i := 2) scm_keeps.nd rfl (by first | exact .inl rfl | exact .inr rfl))) (dgsC (dg_n (pg_name (i := 3) scm_keeps.nd rfl (by first | exact .inl rfl | exact .inr rfl))) dgs_nil (fun a b => pgs_cons a b)) (fun a b => pgs_cons a b)) (fun a => pg_tup rfl a) (fun a => pg_lst rfl a))
    (dss_cons (ds_set (ps_set (i := 4) scm_keeps.nd rfl (by first | exact .inl rfl | exact .inr rfl) (dc (takes_of rfl rfl rfl rfl) Gwidest (hr.mono (by decide)) rfl rfl ((aCons_len (aCons_len aNil_len))) (da_cons (de_var (pv 1)) (da_cons (de_var (pv 2)) da_nil)))))
    (dss_one (ds_if (PW.pt (dw_or (dt_cmp op_isN opd_isn (de_var (pv 4)) de_non rfl) (dw_or1 (dt_cmp op_gtA opd_ord (de_var (pv 4)) (de_var (pv 3)) rfl))))
      (dss_one (ds_ret de_bl))
      dss_nil)))))
  (dss_one (ds_ret de_bl))))))
abbrev sm_law : Stmt := topS 65
theorem scm_law : FnScope ["script", "row", "spot", "good", "bad", "shut", "wrong", "k"] ["script"] (defScope sm_law) := ⟨rfl, rfl, rfl, by decide +kernel, rfl, by decide +kernel, by decide +kernel⟩
theorem goodm_law {cL PL : Addr} (T : Tx P w K mg) (D : DefAtC K mg "law" "law" sm_law ["script"] cL) (TT : TellTxt K mg sm_law_told) (TB : LawTab K mg base cL PL) (G_law_numbers : Good P w K mg base "_law_numbers" 1 ["script"] m_law_numbers) (G_law_pick : Good P w K mg base "_law_pick" 3 ["row", "spot", "things"] m_law_pick) (G_law_so : ∀ n, Good P w K mg base "_law_so" (1 + n) ["found", "meant"] (m_law_so n)) (Gschedule : Good P w K mg base "schedule" 6 ["jobs", "crews", "closed"] m_schedule) (Grota : Good P w K mg base "rota" 4 ["gaps"] m_rota) (Gchosen : Good P w K mg base "chosen" 6 ["jobs", "worths", "crews", "closed"] m_chosen) (Ghands : Good P w K mg base "hands" 6 ["spans"] m_hands) (Gcrews_needed : Good P w K mg base "crews_needed" 6 ["jobs", "closed"] m_crews_needed) (Gkeeps : Good P w K mg base "keeps" 4 ["gaps", "ring"] m_keeps) : Good P w K mg base "law" 28 ["script"] m_law :=
  (D.good (N := ["script", "row", "spot", "good", "bad", "shut", "wrong", "k"]) scm_law fun f A outer s H E hr =>
  (dss_cons (ds_set (ps_set (i := 1) scm_law.nd rfl (by first | exact .inl rfl | exact .inr rfl) (dc (takes_of rfl rfl rfl rfl) G_law_numbers (hr.mono (by decide)) rfl rfl ((aCons_len aNil_len)) (da_cons (de_var (pv 0)) da_nil))))
  (dss_cons (ds_set (ps_set (i := 2) scm_law.nd rfl (by first | exact .inl rfl | exact .inr rfl) (de_cell (da_cons de_int da_nil))))
  (dss_cons (ds_set (ps_set (i := 3) scm_law.nd rfl (by first | exact .inl rfl | exact .inr rfl) (de_tup (da_cons (de_tup (da_cons de_str (da_cons de_int (da_cons de_int da_nil)))) (da_cons (de_tup (da_cons de_str (da_cons de_int (da_cons de_int da_nil)))) da_nil)))))
  (dss_cons (ds_set (ps_set (i := 4) scm_law.nd rfl (by first | exact .inl rfl | exact .inr rfl) (dc (takes_of rfl rfl rfl rfl) G_law_pick (hr.mono (by decide)) rfl rfl ((aCons_len (aCons_len (aCons_len aNil_len)))) (da_cons (de_var (pv 1)) (da_cons (de_var (pv 2)) (da_cons (de_lst (da_cons (de_tup (da_cons (de_tup (da_cons de_str (da_cons de_int (da_cons de_int da_nil)))) da_nil)) (da_cons (de_tup (da_cons (de_tup (da_cons de_str (da_cons de_int (da_cons de_int da_nil)))) da_nil)) (da_cons (de_tup (da_cons (de_tup (da_cons de_str (da_cons (de_un un_neg und_neg de_int) (da_cons de_int da_nil)))) da_nil)) (da_cons (de_tup (da_cons (de_tup (da_cons de_str (da_cons de_int (da_cons de_int da_nil)))) (da_cons (de_tup (da_cons de_str (da_cons de_int (da_cons de_int da_nil)))) da_nil))) (da_cons (de_tup (da_cons (de_tup (da_cons de_str (da_cons de_int (da_cons de_int da_nil)))) da_nil)) (da_cons (de_tup (da_cons (de_tup (da_cons de_str (da_cons de_int da_nil))) da_nil)) (da_cons de_non (da_cons (de_tup (da_cons de_str da_nil)) (da_cons (de_tup (da_cons (de_tup (da_cons de_str (da_cons de_bl (da_cons de_int da_nil)))) da_nil)) (da_cons (de_cb (pe_callTy call_tuple_of rfl T.b_tuple (by decide +kernel) (da_cons (de_lc (by decide) (pe_lc (own := [("k", 7)]) rfl scm_law.nd (di_rg1 (pi_range1 rfl T.b_range (da_cons de_int da_nil))) (blkOk_by (N := ["script", "row", "spot", "good", "bad", "shut", "wrong", "k"]) (sc := (defScope sm_law)) (by decide +kernel)) (fun _ _ _ _ _ => (dg_n (pg_name (i := 7) scm_law.nd rfl (by first | exact .inl rfl | exact .inr rfl)))) (fun _ _ _ _ _ => dts_nil) (fun _ _ _ _ _ => (de_tup (da_cons (de_ix ix_seq opd_ix de_str (de_var (pv 7)) (fun _ _ => rfl)) (da_cons de_int (da_cons de_int da_nil))))))) da_nil)) cd_tuple) da_nil))))))))))) da_nil))))))
  (dss_cons (ds_if (PW.pt (dw_or (dt_cmp (op_neA (hu_of64 hr)) opd_eqA (de_told (k := 25) TT TB rfl (by kernel_rfl) (hr.mono (by decide)) (LamX.lamS_by (sc := defScope sm_law) (by decide +kernel)) rfl rfl (fun _ _ _ _ _ => rfl) (fun A outer s H E f c hr => (dc (takes_of rfl rfl rfl rfl) Gschedule (hr.mono (by decide)) rfl rfl ((aCons_len (aCons_len (aCons_len aNil_len)))) (da_cons (de_var (pv 4)) (da_cons de_int (da_cons (de_tup da_nil) da_nil)))))) (de_tup (da_cons de_str (da_cons de_int da_nil))) rfl) (dw_or1 (dt_cmp (op_neA (hu_of64 hr)) opd_eqA (de_told (k := 25) TT TB rfl (by kernel_rfl) (hr.mono (by decide)) (LamX.lamS_by (sc := defScope sm_law) (by decide +kernel)) rfl rfl (fun _ _ _ _ _ => rfl) (fun A outer s H E f c hr => (dc (takes_of rfl rfl rfl rfl) Gcrews_needed (hr.mono (by decide)) rfl rfl ((aCons_len (aCons_len aNil_len))) (da_cons (de_var (pv 4)) (da_cons de_non da_nil))))) (de_tup (da_cons de_str (da_cons de_int da_nil))) rfl))))
    (dss_one (ds_ret de_bl))
    dss_nil)
  (dss_cons (ds_if (PW.pt (dw_or (dt_cmp (op_neA (hu_of64 hr)) opd_eqA (de_told (k := 25) TT TB rfl (by kernel_rfl) (hr.mono (by decide)) (LamX.lamS_by (sc := defScope sm_law) (by decide +kernel)) rfl rfl (fun _ _ _ _ _ => rfl) (fun A outer s H E f c hr => (dc (takes_of rfl rfl rfl rfl) Gchosen (hr.mono (by decide)) rfl rfl ((aCons_len (aCons_len (aCons_len (aCons_len aNil_len))))) (da_cons (de_var (pv 4)) (da_cons (de_tup da_nil) (da_cons de_int (da_cons (de_tup da_nil) da_nil))))))) (de_tup (da_cons de_str (da_cons de_int da_nil))) rfl) (dw_or1 (dt_cmp (op_neA (hu_of64 hr)) opd_eqA (de_told (k := 25) TT TB rfl (by kernel_rfl) (hr.mono (by decide)) (LamX.lamS_by (sc := defScope sm_law) (by decide +kernel)) rfl rfl (fun _ _ _ _ _ => rfl) (fun A outer s H E f c hr => (dc (takes_of rfl rfl rfl rfl) Ghands (hr.mono (by decide)) rfl rfl ((aCons_len aNil_len)) (da_cons (de_var (pv 4)) da_nil)))) (de_tup (da_cons de_str (da_cons de_int da_nil))) rfl))))
    (dss_one (ds_ret de_bl))
    dss_nil)
  (dss_cons (ds_if (PW.pt (dw_or (dt_cmp (op_neA (hu_of64 hr)) opd_eqA (de_told (k := 25) TT TB rfl (by kernel_rfl) (hr.mono (by decide)) (LamX.lamS_by (sc := defScope sm_law) (by decide +kernel)) rfl rfl (fun _ _ _ _ _ => rfl) (fun A outer s H E f c hr => (dc (takes_of rfl rfl rfl rfl) Gschedule (hr.mono (by decide)) rfl rfl ((aCons_len (aCons_len (aCons_len aNil_len)))) (da_cons (de_var (pv 3)) (da_cons de_int (da_cons de_int da_nil)))))) (de_tup (da_cons de_str (da_cons de_int da_nil))) rfl) (dw_or1 (dt_cmp (op_neA (hu_of64 hr)) opd_eqA (de_told (k := 25) TT TB rfl (by kernel_rfl) (hr.mono (by decide)) (LamX.lamS_by (sc := defScope sm_law) (by decide +kernel)) rfl rfl (fun _ _ _ _ _ => rfl) (fun A outer s H E f c hr => (dc (takes_of rfl rfl rfl rfl) Gschedule (hr.mono (by decide)) rfl rfl ((aCons_len (aCons_len (aCons_len aNil_len)))) (da_cons (de_var (pv 3)) (da_cons de_bl (da_cons (de_tup da_nil) da_nil)))))) (de_tup (da_cons de_str (da_cons de_int da_nil))) rfl))))
    (dss_one (ds_ret de_bl))
    dss_nil)
  (dss_cons (ds_set (ps_set (i := 5) scm_law.nd rfl (by first | exact .inl rfl | exact .inr rfl) (dc (takes_of rfl rfl rfl rfl) G_law_pick (hr.mono (by decide)) rfl rfl ((aCons_len (aCons_len (aCons_len aNil_len)))) (da_cons (de_var (pv 1)) (da_cons (de_var (pv 2)) (da_cons (de_lst (da_cons (de_tup (da_cons de_int da_nil)) (da_cons (de_tup (da_cons (de_un un_neg und_neg de_int) da_nil)) (da_cons (de_tup (da_cons de_str da_nil)) (da_cons de_non (da_cons de_int (da_cons (de_tup (da_cons de_bl da_nil)) (da_cons (de_cb (pe_callTy call_tuple_of rfl T.b_tuple (by decide +kernel) (da_cons (de_lc (by decide) (pe_lc (own := [("k", 7)]) rfl scm_law.nd (di_rg1 (pi_range1 rfl T.b_range (da_cons de_int da_nil))) (blkOk_by (N := ["script", "row", "spot", "good", "bad", "shut", "wrong", "k"]) (sc := (defScope sm_law)) (by decide +kernel)) (fun _ _ _ _ _ => (dg_n (pg_name (i := 7) scm_law.nd rfl (by first | exact .inl rfl | exact .inr rfl)))) (fun _ _ _ _ _ => dts_nil) (fun _ _ _ _ _ => (de_op op_fdivA opd_fdiv (de_var (pv 7)) de_int)))) da_nil)) cd_tuple) da_nil)))))))) da_nil))))))
  (dss_cons (ds_if (PW.pt (dw_or (dt_cmp (op_neA (hu_of64 hr)) opd_eqA (de_told (k := 25) TT TB rfl (by kernel_rfl) (hr.mono (by decide)) (LamX.lamS_by (sc := defScope sm_law) (by decide +kernel)) rfl rfl (fun _ _ _ _ _ => rfl) (fun A outer s H E f c hr => (dc (takes_of rfl rfl rfl rfl) Gschedule (hr.mono (by decide)) rfl rfl ((aCons_len (aCons_len (aCons_len aNil_len)))) (da_cons (de_var (pv 3)) (da_cons de_int (da_cons (de_var (pv 5)) da_nil)))))) (de_tup (da_cons de_str (da_cons de_int da_nil))) rfl) (dw_or1 (dt_cmp (op_neA (hu_of64 hr)) opd_eqA (de_told (k := 25) TT TB rfl (by kernel_rfl) (hr.mono (by decide)) (LamX.lamS_by (sc := defScope sm_law) (by decide +kernel)) rfl rfl (fun _ _ _ _ _ => rfl) (fun A outer s H E f c hr => (dc (takes_of rfl rfl rfl rfl) Gcrews_needed (hr.mono (by decide)) rfl rfl ((aCons_len (aCons_len aNil_len))) (da_cons (de_var (pv 3)) (da_cons (de_var (pv 5)) da_nil))))) (de_tup (da_cons de_str (da_cons de_int da_nil))) rfl))))
    (dss_one (ds_ret de_bl))
    dss_nil)
  (dss_cons (ds_if (PW.pt (dw_or (dt_cmp (op_neA (hu_of64 hr)) opd_eqA (de_told (k := 25) TT TB rfl (by kernel_rfl) (hr.mono (by decide)) (LamX.lamS_by (sc := defScope sm_law) (by decide +kernel)) rfl rfl (fun _ _ _ _ _ => rfl) (fun A outer s H E f c hr => (dc (takes_of rfl rfl rfl rfl) Gchosen (hr.mono (by decide)) rfl rfl ((aCons_len (aCons_len (aCons_len (aCons_len aNil_len))))) (da_cons (de_var (pv 3)) (da_cons (de_tup (da_cons de_int (da_cons de_int da_nil))) (da_cons de_int (da_cons (de_var (pv 5)) da_nil))))))) (de_tup (da_cons de_str (da_cons de_int da_nil))) rfl) (dw_or1 (dt_cmp (op_neA (hu_of64 hr)) opd_eqA (de_told (k := 25) TT TB rfl (by kernel_rfl) (hr.mono (by decide)) (LamX.lamS_by (sc := defScope sm_law) (by decide +kernel)) rfl rfl (fun _ _ _ _ _ => rfl) (fun A outer s H E f c hr => (dc (takes_of rfl rfl rfl rfl) Gchosen (hr.mono (by decide)) rfl rfl ((aCons_len (aCons_len (aCons_len (aCons_len aNil_len))))) (da_cons (de_var (pv 3)) (da_cons (de_tup (da_cons de_int da_nil)) (da_cons de_int (da_cons (de_tup da_nil) da_nil))))))) (de_tup (da_cons de_str (da_cons de_int da_nil))) rfl))))
    (dss_one (ds_ret de_bl))
    dss_nil)
  (dss_cons (ds_if (PW.pt (dw_or (dt_cmp (op_neA (hu_of64 hr)) opd_eqA (de_told (k := 25) TT TB rfl (by kernel_rfl) (hr.mono (by decide)) (LamX.lamS_by (sc := defScope sm_law) (by decide +kernel)) rfl rfl (fun _ _ _ _ _ => rfl) (fun A outer s H E f c hr => (dc (takes_of rfl rfl rfl rfl) Gchosen (hr.mono (by decide)) rfl rfl ((aCons_len (aCons_len (aCons_len (aCons_len aNil_len))))) (da_cons (de_var (pv 3)) (da_cons (de_tup (da_cons de_int (da_cons de_int da_nil))) (da_cons de_int (da_cons (de_tup da_nil) da_nil))))))) (de_tup (da_cons de_str (da_cons de_int da_nil))) rfl) (dw_or1 (dt_cmp (op_neA (hu_of64 hr)) opd_eqA (de_told (k := 25) TT TB rfl (by kernel_rfl) (hr.mono (by decide)) (LamX.lamS_by (sc := defScope sm_law) (by decide +kernel)) rfl rfl (fun _ _ _ _ _ => rfl) (fun A outer s H E f c hr => (dc (takes_of rfl rfl rfl rfl) Gchosen (hr.mono (by decide)) rfl rfl ((aCons_len (aCons_len (aCons_len (aCons_len aNil_len))))) (da_cons (de_var (pv 3)) (da_cons (de_tup (da_cons de_int (da_cons de_int da_nil))) (da_cons de_int (da_cons (de_tup da_nil) da_nil))))))) (de_tup (da_cons de_str (da_cons de_int da_nil))) rfl))))
    (dss_one (ds_ret de_bl))
    dss_nil)
  (dss_cons (ds_set (ps_set (i := 6) scm_law.nd rfl (by first | exact .inl rfl | exact .inr rfl) (dc (takes_of rfl rfl rfl rfl) G_law_pick (hr.mono (by decide)) rfl rfl ((aCons_len (aCons_len (aCons_len aNil_len)))) (da_cons (de_var (pv 1)) (da_cons (de_var (pv 2)) (da_cons (de_lst (da_cons (de_tup da_nil) (da_cons (de_tup (da_cons de_int da_nil)) (da_cons (de_tup (da_cons de_int da_nil)) (da_cons (de_tup (da_cons de_int (da_cons de_int (da_cons de_int (da_cons de_int (da_cons de_int da_nil)))))) (da_cons de_non (da_cons (de_tup (da_cons de_bl da_nil)) (da_cons de_int da_nil)))))))) da_nil))))))
  (dss_cons (ds_if (PW.pt (dw_or (dt_cmp (op_neA (hu_of64 hr)) opd_eqA (de_told (k := 25) TT TB rfl (by kernel_rfl) (hr.mono (by decide)) (LamX.lamS_by (sc := defScope sm_law) (by decide +kernel)) rfl rfl (fun _ _ _ _ _ => rfl) (fun A outer s H E f c hr => (dc (takes_of rfl rfl rfl rfl) Gkeeps (hr.mono (by decide)) rfl rfl ((aCons_len (aCons_len aNil_len))) (da_cons (de_var (pv 6)) (da_cons (de_tup (da_cons de_int da_nil)) da_nil))))) (de_tup (da_cons de_str (da_cons de_int da_nil))) rfl) (dw_or1 (dt_cmp (op_neA (hu_of64 hr)) opd_eqA (de_told (k := 25) TT TB rfl (by kernel_rfl) (hr.mono (by decide)) (LamX.lamS_by (sc := defScope sm_law) (by decide +kernel)) rfl rfl (fun _ _ _ _ _ => rfl) (fun A outer s H E f c hr => (dc (takes_of rfl rfl rfl rfl) Grota (hr.mono (by decide)) rfl rfl ((aCons_len aNil_len)) (da_cons (de_var (pv 6)) da_nil)))) (de_tup (da_cons de_str (da_cons de_int da_nil))) rfl))))
    (dss_one (ds_ret de_bl))
    dss_nil)
  (dss_cons (ds_if (PW.pt (dw_or (dt_cmp (op_neA (hu_of64 hr)) opd_eqA (de_told (k := 25) TT TB rfl (by kernel_rfl) (hr.mono (by decide)) (LamX.lamS_by (sc := defScope sm_law) (by decide +kernel)) rfl rfl (fun _ _ _ _ _ => rfl) (fun A outer s H E f c hr => (dc (takes_of rfl rfl rfl rfl) Gkeeps (hr.mono (by decide)) rfl rfl ((aCons_len (aCons_len aNil_len))) (da_cons (de_tup (da_cons de_int (da_cons de_int da_nil))) (da_cons (de_tup da_nil) da_nil))))) (de_tup (da_cons de_str (da_cons de_int da_nil))) rfl) (dw_or1 (dt_cmp (op_neA (hu_of64 hr)) opd_eqA (de_told (k := 25) TT TB rfl (by kernel_rfl) (hr.mono (by decide)) (LamX.lamS_by (sc := defScope sm_law) (by decide +kernel)) rfl rfl (fun _ _ _ _ _ => rfl) (fun A outer s H E f c hr => (dc (takes_of rfl rfl rfl rfl) Gkeeps (hr.mono (by decide)) rfl rfl ((aCons_len (aCons_len aNil_len))) (da_cons (de_tup (da_cons de_int (da_cons de_int da_nil))) (da_cons (de_tup (da_cons de_int (da_cons de_int da_nil))) da_nil))))) (de_tup (da_cons de_str (da_cons de_int da_nil))) rfl))))
    (dss_one (ds_ret de_bl))
    dss_nil)
  (dss_one (ds_ret (de_and (dc (takes_of rfl rfl rfl rfl) (G_law_so 24) (hr.mono (by decide)) rfl rfl ((aCons_len (aCons_len aNil_len))) (da_cons (dc (takes_of rfl rfl rfl rfl) Gschedule (hr.mono (by decide)) rfl rfl ((aCons_len (aCons_len (aCons_len aNil_len)))) (da_cons (de_var (pv 3)) (da_cons de_int (da_cons (de_tup da_nil) da_nil)))) (da_cons (de_tup (da_cons de_int (da_cons de_int da_nil))) da_nil))) (de_and (dc (takes_of rfl rfl rfl rfl) (G_law_so 24) (hr.mono (by decide)) rfl rfl ((aCons_len (aCons_len aNil_len))) (da_cons (dc (takes_of rfl rfl rfl rfl) Grota (hr.mono (by decide)) rfl rfl ((aCons_len aNil_len)) (da_cons (de_tup (da_cons de_int da_nil)) da_nil)) (da_cons (de_tup (da_cons de_int da_nil)) da_nil))) (de_and (dc (takes_of rfl rfl rfl rfl) (G_law_so 24) (hr.mono (by decide)) rfl rfl ((aCons_len (aCons_len aNil_len))) (da_cons (dc (takes_of rfl rfl rfl rfl) Gchosen (hr.mono (by decide)) rfl rfl ((aCons_len (aCons_len (aCons_len (aCons_len aNil_len))))) (da_cons (de_tup da_nil) (da_cons (de_tup da_nil) (da_cons de_int (da_cons (de_tup da_nil) da_nil))))) (da_cons (de_tup (da_cons de_int (da_cons (de_tup da_nil) da_nil))) da_nil))) (de_one (dc (takes_of rfl rfl rfl rfl) (G_law_so 24) (hr.mono (by decide)) rfl rfl ((aCons_len (aCons_len aNil_len))) (da_cons (dc (takes_of rfl rfl rfl rfl) Ghands (hr.mono (by decide)) rfl rfl ((aCons_len aNil_len)) (da_cons (de_tup da_nil) da_nil)) (da_cons (de_tup (da_cons de_int (da_cons (de_tup da_nil) da_nil))) da_nil))))))))))))))))))))))))
end
end Mp
namespace Mp
open PySem PySem.Spec PyProof.Rows L2
def fnL0 : List He.FnD := [fnD "_law_numbers" "_law_numbers" sm_law_numbers, fnD "_law_draw" "_law_draw" sm_law_draw, fnD "_law_take" "_law_take" sm_law_take, fnD "_law_pick" "_law_pick" sm_law_pick, fnD "_law_so" "_law_so" sm_law_so, fnD "all_different" "all_different" sm_all_different, fnD "is_sequence" "is_sequence" sm_is_sequence, fnD "is_row" "is_row" sm_is_row, fnD "is_integer" "is_integer" sm_is_integer, fnD "is_within" "is_within" sm_is_within, fnD "is_name" "is_name" sm_is_name, fnD "is_triple" "is_triple" sm_is_triple, fnD "are_triples" "are_triples" sm_are_triples, fnD "check_triples" "check_triples" sm_check_triples, fnD "are_closed" "are_closed" sm_are_closed, fnD "check_visits" "check_visits" sm_check_visits, fnD "open_counts" "open_counts" sm_open_counts, fnD "count_within" "count_within" sm_count_within, fnD "crowded_days" "crowded_days" sm_crowded_days, fnD "earliest_days" "earliest_days" sm_earliest_days, fnD "schedule" "schedule" sm_schedule, fnD "check_gaps" "check_gaps" sm_check_gaps, fnD "all_waits" "all_waits" sm_all_waits, fnD "next_waits" "next_waits" sm_next_waits, fnD "days_between" "days_between" sm_days_between, fnD "turned" "turned" sm_turned_2, fnD "ring_through" "ring_through" sm_ring_through, fnD "far_from" "far_from" sm_far_from, fnD "first_ring" "first_ring" sm_first_ring, fnD "rota" "rota" sm_rota]
def fnL1 : List He.FnD := [fnD "check_worths" "check_worths" sm_check_worths, fnD "chosen" "chosen" sm_chosen, fnD "overlap" "overlap" sm_overlap, fnD "free_hand" "free_hand" sm_free_hand, fnD "hands" "hands" sm_hands, fnD "shut_out" "shut_out" sm_shut_out, fnD "crews_needed" "crews_needed" sm_crews_needed, fnD "widest" "widest" sm_widest, fnD "keeps" "keeps" sm_keeps, fnD "law" "law" sm_law, fnD "_law_told" "_law_told" sm_law_told, ⟨("BadValue", some "__init__"), "__init__", "BadValue.__init__", defArgs sx_BadValue, defBody sx_BadValue, defScope sx_BadValue⟩, ⟨("Crowded", some "__init__"), "__init__", "Crowded.__init__", defArgs sx_Crowded, defBody sx_Crowded, defScope sx_Crowded⟩, ⟨("NoDay", some "__init__"), "__init__", "NoDay.__init__", defArgs sx_NoDay, defBody sx_NoDay, defScope sx_NoDay⟩]
def fnL : List He.FnD := fnL0 ++ fnL1
def faL0 : List Fq := [fFree "range", fFree "int", fFree "len", fFree "tuple", fFree "isinstance", fFree "bool", fFree "str", fFree "list", fFree "all", fFree "enumerate", fFree "sorted", fFree "zip", fFree "min", fFree "sum", fFree "max", fStrs "WORDS" ["and", "or", "of", "always", "never"], fStr "LETTERS" "abcdefghijklmnopqrstuvwxyz", fInt "LAST_DAY" 30, fInt "MOST_TRIPLES" 12, fInt "MOST_CREWS" 4]
def faL1 : List Fq := [fInt "MOST_GAPS" 4, fInt "MOST_GAP" 6, fInt "MOST_WORTH" 1000, fInt "MOST_RING" 1300, fXcl "BadValue" ["at"], fXcl "Crowded" ["first", "last"], fXcl "NoDay" ["name"], fTab "law", fFree "_masks", fFree "purchases", fXrd "BadValue" ["at"], fXrd "BadText" ["at"], fXrd "Unknown" ["name"], fXrd "NoChance" ["word"], fXrd "Crowded" ["first", "last"], fXrd "NoDay" ["name"], fXrd "Missing" ["at"], fXrd "TakenName" ["name"], fXrd "Short" ["rows"], fExm [("BadValue", ["at"]), ("BadText", ["at"]), ("Unknown", ["name"]), ("NoChance", ["word"]), ("Crowded", ["first", "last"]), ("NoDay", ["name"]), ("Missing", ["at"]), ("TakenName", ["name"]), ("Short", ["rows"])]]
def faL : List Fq := faL0 ++ faL1
def looseL0 : List Str := ["WORDS", "LETTERS", "is_integer", "is_within", "is_sequence", "is_row", "is_name", "all_different", "widest", "all_waits", "next_waits", "days_between", "turned", "far_from", "ring_through", "first_ring", "LAST_DAY", "MOST_TRIPLES", "is_triple", "are_triples", "are_closed", "open_counts", "count_within", "crowded_days", "earliest_days", "shut_out", "overlap", "MendError", "BadValue", "BadText"]
def looseL1 : List Str := ["Unknown", "NoChance", "Crowded", "NoDay", "Missing", "TakenName", "Short", "MOST_CREWS", "MOST_WORTH", "MOST_GAPS", "MOST_GAP", "MOST_RING", "check_visits", "check_triples", "schedule", "crews_needed", "check_worths", "chosen", "free_hand", "hands", "check_gaps", "keeps", "rota", "_law_so", "_law_numbers", "_law_draw", "_law_take", "_law_pick", "_law_told"]
def looseL : List Str := looseL0 ++ looseL1
theorem all_mk {l : PySem.W.OpenLaw} {w : World} {K : PySem.W.Frag} {h : Heap} {mg : Str → Option Value} {fa' : Addr} (X : K.In h) (G : h.Ns mainGlobals mg) (hfa : mg "law" = some (.ref fa')) (c : SaysM faL fnL K) :
    ∃ (fd : FuncData) (c P : Addr), PySem.W.tabIn K "law" = some (c, P) ∧ K.lookup P = none ∧ (∀ x ∈ lamNames, PySem.W.tabIn K x = none ∨ (x ∈ ([] : List Str) ∧ ∃ c' P', PySem.W.tabIn K x = some (c', P') ∧ K.lookup P' = none)) ∧ (∀ (s : Shared) (v : Value), BindsTo s fd ⟨[v], []⟩ [("script", v)]) ∧ ∀ base : Heap, K.In base → base.Ns mainGlobals mg → LawTab K mg base c P → FnOk l.prog w K mg base (L2.CX l.prog w) 28 fa' fd ["script"] (spTrue K) := by
  obtain ⟨cL, PL, htL, nL⟩ := fTab_ok (c.fact 27 rfl)
  have T : Tx l.prog w K mg := { ok := trivial, b_range := fFree_ok X G (c.fact 0 rfl), b_int := fFree_ok X G (c.fact 1 rfl), b_len := fFree_ok X G (c.fact 2 rfl), b_tuple := fFree_ok X G (c.fact 3 rfl), b_isinstance := fFree_ok X G (c.fact 4 rfl), b_bool := fFree_ok X G (c.fact 5 rfl), b_str := fFree_ok X G (c.fact 6 rfl), b_list := fFree_ok X G (c.fact 7 rfl), b_all := fFree_ok X G (c.fact 8 rfl), b_enumerate := fFree_ok X G (c.fact 9 rfl), b_sorted := fFree_ok X G (c.fact 10 rfl), b_zip := fFree_ok X G (c.fact 11 rfl), b_min := fFree_ok X G (c.fact 12 rfl), b_sum := fFree_ok X G (c.fact 13 rfl), b_max := fFree_ok X G (c.fact 14 rfl), c_WORDS := fStrs_ok X G (c.fact 15 rfl), c_LETTERS := fStr_ok X G (c.fact 16 rfl), c_LAST_DAY := fInt_ok X G (c.fact 17 rfl), c_MOST_TRIPLES := fInt_ok X G (c.fact 18 rfl), c_MOST_CREWS := fInt_ok X G (c.fact 19 rfl), c_MOST_GAPS := fInt_ok X G (c.fact 20 rfl), c_MOST_GAP := fInt_ok X G (c.fact 21 rfl), c_MOST_WORTH := fInt_ok X G (c.fact 22 rfl), c_MOST_RING := fInt_ok X G (c.fact 23 rfl), x_BadValue := fXcl_ok X G c 41 rfl (fun _ _ _ _ _ _ us hl => match us, hl with | [_, _], _ => rfl) (fun f fd F base => init_BadValue F) (c.fact 24 rfl), x_Crowded := fXcl_ok X G c 42 rfl (fun _ _ _ _ _ _ us hl => match us, hl with | [_, _, _], _ => rfl) (fun f fd F base => init_Crowded F) (c.fact 25 rfl), x_NoDay := fXcl_ok X G c 43 rfl (fun _ _ _ _ _ _ us hl => match us, hl with | [_, _], _ => rfl) (fun f fd F base => init_NoDay F) (c.fact 26 rfl) }
  have D1 : DefAt K mg "_law_numbers" "_law_numbers" sm_law_numbers ["script"] := defM X G c 0 (fun _ _ _ _ _ _ us hl => match us, hl with | [_], _ => rfl) rfl
  have D2 : DefAt K mg "_law_draw" "_law_draw" sm_law_draw ["row", "at", "limit"] := defM X G c 1 (fun _ _ _ _ _ _ us hl => match us, hl with | [_, _, _], _ => rfl) rfl
  have D3 : DefAt K mg "_law_take" "_law_take" sm_law_take ["row", "spot", "limit"] := defM X G c 2 (fun _ _ _ _ _ _ us hl => match us, hl with | [_, _, _], _ => rfl) rfl
  have D4 : DefAt K mg "_law_pick" "_law_pick" sm_law_pick ["row", "spot", "things"] := defM X G c 3 (fun _ _ _ _ _ _ us hl => match us, hl with | [_, _, _], _ => rfl) rfl
  have D5 : DefAt K mg "_law_so" "_law_so" sm_law_so ["found", "meant"] := defM X G c 4 (fun _ _ _ _ _ _ us hl => match us, hl with | [_, _], _ => rfl) rfl
  have D6 : DefAt K mg "all_different" "all_different" sm_all_different ["row"] := defM X G c 5 (fun _ _ _ _ _ _ us hl => match us, hl with | [_], _ => rfl) rfl
  have D7 : DefAt K mg "is_sequence" "is_sequence" sm_is_sequence ["x"] := defM X G c 6 (fun _ _ _ _ _ _ us hl => match us, hl with | [_], _ => rfl) rfl
  have D8 : DefAt K mg "is_row" "is_row" sm_is_row ["x", "least", "most"] := defM X G c 7 (fun _ _ _ _ _ _ us hl => match us, hl with | [_, _, _], _ => rfl) rfl
  have D9 : DefAt K mg "is_integer" "is_integer" sm_is_integer ["x"] := defM X G c 8 (fun _ _ _ _ _ _ us hl => match us, hl with | [_], _ => rfl) rfl
  have D10 : DefAt K mg "is_within" "is_within" sm_is_within ["x", "low", "high"] := defM X G c 9 (fun _ _ _ _ _ _ us hl => match us, hl with | [_, _, _], _ => rfl) rfl
  have D11 : DefAt K mg "is_name" "is_name" sm_is_name ["x"] := defM X G c 10 (fun _ _ _ _ _ _ us hl => match us, hl with | [_], _ => rfl) rfl
  have D12 : DefAt K mg "is_triple" "is_triple" sm_is_triple ["row"] := defM X G c 11 (fun _ _ _ _ _ _ us hl => match us, hl with | [_], _ => rfl) rfl
  have D13 : DefAt K mg "are_triples" "are_triples" sm_are_triples ["rows"] := defM X G c 12 (fun _ _ _ _ _ _ us hl => match us, hl with | [_], _ => rfl) rfl
  have D14 : DefAt K mg "check_triples" "check_triples" sm_check_triples ["rows"] := defM X G c 13 (fun _ _ _ _ _ _ us hl => match us, hl with | [_], _ => rfl) rfl
  have D15 : DefAt K mg "are_closed" "are_closed" sm_are_closed ["days"] := defM X G c 14 (fun _ _ _ _ _ _ us hl => match us, hl with | [_], _ => rfl) rfl
  have D16 : DefAt K mg "check_visits" "check_visits" sm_check_visits ["jobs", "crews", "closed", "at"] := defM X G c 15 (fun _ _ _ _ _ _ us hl => match us, hl with | [_, _, _, _], _ => rfl) rfl
  have D17 : DefAt K mg "open_counts" "open_counts" sm_open_counts ["closed"] := defM X G c 16 (fun _ _ _ _ _ _ us hl => match us, hl with | [_], _ => rfl) rfl
  have D18 : DefAt K mg "count_within" "count_within" sm_count_within ["jobs", "first", "last"] := defM X G c 17 (fun _ _ _ _ _ _ us hl => match us, hl with | [_, _, _], _ => rfl) rfl
  have D19 : DefAt K mg "crowded_days" "crowded_days" sm_crowded_days ["jobs", "crews", "closed"] := defM X G c 18 (fun _ _ _ _ _ _ us hl => match us, hl with | [_, _, _], _ => rfl) rfl
  have D20 : DefAt K mg "earliest_days" "earliest_days" sm_earliest_days ["jobs", "crews", "closed"] := defM X G c 19 (fun _ _ _ _ _ _ us hl => match us, hl with | [_, _, _], _ => rfl) rfl
  have D21 : DefAt K mg "schedule" "schedule" sm_schedule ["jobs", "crews", "closed"] := defM X G c 20 (fun _ _ _ _ _ _ us hl => match us, hl with | [_, _, _], _ => rfl) rfl
  have D22 : DefAt K mg "check_gaps" "check_gaps" sm_check_gaps ["gaps"] := defM X G c 21 (fun _ _ _ _ _ _ us hl => match us, hl with | [_], _ => rfl) rfl
  have D23 : DefAt K mg "all_waits" "all_waits" sm_all_waits ["gaps"] := defM X G c 22 (fun _ _ _ _ _ _ us hl => match us, hl with | [_], _ => rfl) rfl
  have D24 : DefAt K mg "next_waits" "next_waits" sm_next_waits ["gaps", "waits", "at"] := defM X G c 23 (fun _ _ _ _ _ _ us hl => match us, hl with | [_, _, _], _ => rfl) rfl
  have D25 : DefAt K mg "days_between" "days_between" sm_days_between ["gaps"] := defM X G c 24 (fun _ _ _ _ _ _ us hl => match us, hl with | [_], _ => rfl) rfl
  have D26 : DefAt K mg "turned" "turned" sm_turned_2 ["links"] := defM X G c 25 (fun _ _ _ _ _ _ us hl => match us, hl with | [_], _ => rfl) rfl
  have D27 : DefAt K mg "ring_through" "ring_through" sm_ring_through ["links", "far", "start"] := defM X G c 26 (fun _ _ _ _ _ _ us hl => match us, hl with | [_, _, _], _ => rfl) rfl
  have D28 : DefAt K mg "far_from" "far_from" sm_far_from ["sources", "goal"] := defM X G c 27 (fun _ _ _ _ _ _ us hl => match us, hl with | [_, _], _ => rfl) rfl
  have D29 : DefAt K mg "first_ring" "first_ring" sm_first_ring ["gaps"] := defM X G c 28 (fun _ _ _ _ _ _ us hl => match us, hl with | [_], _ => rfl) rfl
  have D30 : DefAt K mg "rota" "rota" sm_rota ["gaps"] := defM X G c 29 (fun _ _ _ _ _ _ us hl => match us, hl with | [_], _ => rfl) rfl
  have D31 : DefAt K mg "check_worths" "check_worths" sm_check_worths ["jobs", "worths"] := defM X G c 30 (fun _ _ _ _ _ _ us hl => match us, hl with | [_, _], _ => rfl) rfl
  have D32 : DefAt K mg "chosen" "chosen" sm_chosen ["jobs", "worths", "crews", "closed"] := defM X G c 31 (fun _ _ _ _ _ _ us hl => match us, hl with | [_, _, _, _], _ => rfl) rfl
  have D33 : DefAt K mg "overlap" "overlap" sm_overlap ["one", "other"] := defM X G c 32 (fun _ _ _ _ _ _ us hl => match us, hl with | [_, _], _ => rfl) rfl
  have D34 : DefAt K mg "free_hand" "free_hand" sm_free_hand ["spans", "numbers", "at"] := defM X G c 33 (fun _ _ _ _ _ _ us hl => match us, hl with | [_, _, _], _ => rfl) rfl
  have D35 : DefAt K mg "hands" "hands" sm_hands ["spans"] := defM X G c 34 (fun _ _ _ _ _ _ us hl => match us, hl with | [_], _ => rfl) rfl
  have D36 : DefAt K mg "shut_out" "shut_out" sm_shut_out ["jobs", "closed"] := defM X G c 35 (fun _ _ _ _ _ _ us hl => match us, hl with | [_, _], _ => rfl) rfl
  have D37 : DefAt K mg "crews_needed" "crews_needed" sm_crews_needed ["jobs", "closed"] := defM X G c 36 (fun _ _ _ _ _ _ us hl => match us, hl with | [_, _], _ => rfl) rfl
  have D38 : DefAt K mg "widest" "widest" sm_widest ["ring", "at"] := defM X G c 37 (fun _ _ _ _ _ _ us hl => match us, hl with | [_, _], _ => rfl) rfl
  have D39 : DefAt K mg "keeps" "keeps" sm_keeps ["gaps", "ring"] := defM X G c 38 (fun _ _ _ _ _ _ us hl => match us, hl with | [_, _], _ => rfl) rfl
  have D40 : DefAtC K mg "law" "law" sm_law ["script"] cL := defMC X G c 39 htL (fun _ _ _ _ _ _ us hl => match us, hl with | [_], _ => rfl) rfl
  have D41 : DefAt K mg "_law_told" "_law_told" sm_law_told ["deed"] := defM X G c 40 (fun _ _ _ _ _ _ us hl => match us, hl with | [_], _ => rfl) rfl
  have TT : TellTxt K mg sm_law_told := tell_mk D41 (fXrd_ok X G (c.fact 30 rfl)) (fXrd_ok X G (c.fact 31 rfl)) (fXrd_ok X G (c.fact 32 rfl)) (fXrd_ok X G (c.fact 33 rfl)) (fXrd_ok X G (c.fact 34 rfl)) (fXrd_ok X G (c.fact 35 rfl)) (fXrd_ok X G (c.fact 36 rfl)) (fXrd_ok X G (c.fact 37 rfl)) (fXrd_ok X G (c.fact 38 rfl)) (c.fact 39 rfl)
  refine law_fin (m := m_law) hfa D40 htL nL (lam_two (.inl (tabIn_none (eqQ_ok (c.fact 28 rfl)))) (.inl (tabIn_none (eqQ_ok (c.fact 29 rfl))))) (fun _ _ _ _ _ _ us hl => match us, hl with | [_], _ => rfl) law_ok fun base TB => ?_
  have gm_law_numbers : Good l.prog w K mg base "_law_numbers" 1 ["script"] m_law_numbers := goodm_law_numbers T D1 
  have gm_law_draw : Good l.prog w K mg base "_law_draw" 1 ["row", "at", "limit"] m_law_draw := goodm_law_draw T D2 
  have gm_law_take : Good l.prog w K mg base "_law_take" 2 ["row", "spot", "limit"] m_law_take := goodm_law_take T D3 gm_law_draw
  have gm_law_pick : Good l.prog w K mg base "_law_pick" 3 ["row", "spot", "things"] m_law_pick := goodm_law_pick T D4 gm_law_take
  have gm_law_so : ∀ n, Good l.prog w K mg base "_law_so" (1 + n) ["found", "meant"] (m_law_so n) := goodm_law_so T D5 
  have gm_all_different : Good l.prog w K mg base "all_different" 1 ["row"] m_all_different := goodm_all_different T D6 
  have gm_is_sequence : Good l.prog w K mg base "is_sequence" 1 ["x"] m_is_sequence := goodm_is_sequence T D7 
  have gm_is_row : Good l.prog w K mg base "is_row" 2 ["x", "least", "most"] m_is_row := goodm_is_row T D8 gm_is_sequence
  have gm_is_integer : Good l.prog w K mg base "is_integer" 1 ["x"] m_is_integer := goodm_is_integer T D9 
  have gm_is_within : Good l.prog w K mg base "is_within" 2 ["x", "low", "high"] m_is_within := goodm_is_within T D10 gm_is_integer
  have gm_is_name : Good l.prog w K mg base "is_name" 1 ["x"] m_is_name := goodm_is_name T D11 
  have gm_is_triple : Good l.prog w K mg base "is_triple" 3 ["row"] m_is_triple := goodm_is_triple T D12 gm_is_within gm_is_row gm_is_name
  have gm_are_triples : Good l.prog w K mg base "are_triples" 4 ["rows"] m_are_triples := goodm_are_triples T D13 gm_all_different gm_is_row gm_is_triple
  have gm_check_triples : Good l.prog w K mg base "check_triples" 5 ["rows"] m_check_triples := goodm_check_triples T D14 gm_are_triples
  have gm_are_closed : Good l.prog w K mg base "are_closed" 3 ["days"] m_are_closed := goodm_are_closed T D15 gm_is_row gm_is_within
  have gm_check_visits : Good l.prog w K mg base "check_visits" 4 ["jobs", "crews", "closed", "at"] m_check_visits := goodm_check_visits T D16 gm_is_within gm_are_closed
  have gm_open_counts : Good l.prog w K mg base "open_counts" 1 ["closed"] m_open_counts := goodm_open_counts T D17 
  have gm_count_within : Good l.prog w K mg base "count_within" 1 ["jobs", "first", "last"] m_count_within := goodm_count_within T D18 
  have gm_crowded_days : Good l.prog w K mg base "crowded_days" 2 ["jobs", "crews", "closed"] m_crowded_days := goodm_crowded_days T D19 gm_open_counts gm_count_within
  have gm_earliest_days : Good l.prog w K mg base "earliest_days" 1 ["jobs", "crews", "closed"] m_earliest_days := goodm_earliest_days T D20 
  have gm_schedule : Good l.prog w K mg base "schedule" 6 ["jobs", "crews", "closed"] m_schedule := goodm_schedule T D21 gm_check_triples gm_check_visits gm_crowded_days gm_earliest_days
  have gm_check_gaps : Good l.prog w K mg base "check_gaps" 3 ["gaps"] m_check_gaps := goodm_check_gaps T D22 gm_is_row gm_is_within
  have gm_all_waits : Good l.prog w K mg base "all_waits" 1 ["gaps"] m_all_waits := goodm_all_waits T D23 
  have gm_next_waits : Good l.prog w K mg base "next_waits" 1 ["gaps", "waits", "at"] m_next_waits := goodm_next_waits T D24 
  have gm_days_between : Good l.prog w K mg base "days_between" 2 ["gaps"] m_days_between := goodm_days_between T D25 gm_all_waits gm_next_waits
  have gm_turned_2 : Good l.prog w K mg base "turned" 1 ["links"] m_turned_2 := goodm_turned_2 T D26 
  have gm_ring_through : Good l.prog w K mg base "ring_through" 1 ["links", "far", "start"] m_ring_through := goodm_ring_through T D27 
  have gm_far_from : Good l.prog w K mg base "far_from" 1 ["sources", "goal"] m_far_from := goodm_far_from T D28 
  have gm_first_ring : Good l.prog w K mg base "first_ring" 3 ["gaps"] m_first_ring := goodm_first_ring T D29 gm_days_between gm_turned_2 gm_ring_through gm_far_from
  have gm_rota : Good l.prog w K mg base "rota" 4 ["gaps"] m_rota := goodm_rota T D30 gm_check_gaps gm_first_ring
  have gm_check_worths : Good l.prog w K mg base "check_worths" 3 ["jobs", "worths"] m_check_worths := goodm_check_worths T D31 gm_is_sequence gm_is_within
  have gm_chosen : Good l.prog w K mg base "chosen" 6 ["jobs", "worths", "crews", "closed"] m_chosen := goodm_chosen T D32 gm_check_triples gm_check_worths gm_check_visits gm_crowded_days
  have gm_overlap : Good l.prog w K mg base "overlap" 1 ["one", "other"] m_overlap := goodm_overlap T D33 
  have gm_free_hand : Good l.prog w K mg base "free_hand" 2 ["spans", "numbers", "at"] m_free_hand := goodm_free_hand T D34 gm_overlap
  have gm_hands : Good l.prog w K mg base "hands" 6 ["spans"] m_hands := goodm_hands T D35 gm_check_triples gm_free_hand
  have gm_shut_out : Good l.prog w K mg base "shut_out" 2 ["jobs", "closed"] m_shut_out := goodm_shut_out T D36 gm_open_counts
  have gm_crews_needed : Good l.prog w K mg base "crews_needed" 6 ["jobs", "closed"] m_crews_needed := goodm_crews_needed T D37 gm_check_triples gm_shut_out gm_are_closed gm_crowded_days
  have gm_widest : Good l.prog w K mg base "widest" 1 ["ring", "at"] m_widest := goodm_widest T D38 
  have gm_keeps : Good l.prog w K mg base "keeps" 4 ["gaps", "ring"] m_keeps := goodm_keeps T D39 gm_check_gaps gm_widest gm_is_row gm_is_within
  exact goodm_law T D40 TT TB gm_law_numbers gm_law_pick gm_law_so gm_schedule gm_rota gm_chosen gm_hands gm_crews_needed gm_keeps
abbrev rowR : PySem.W.OpenRow := PySem.W.OpenLaw.row PySem.Challenge.rw_mendplan_k63_refusals_of_visits
def obL (s : PySem.W.SharedT) : He.Al := obsMG faL fnL (HandSHeadRun.getT s)
theorem obL_eq (s : PySem.W.SharedT) : obL s = (hookM faL fnL).obs s.abs := obsMG_eq (HandSHeadRun.getT_eq s)
@[irreducible] noncomputable def runW (w : World) (os : OsState) : Option (PySem.W.SharedT) := HandSHeadRun.endF (HandSHeadRun.stepQ (HandSHeadRun.denQ HandSHeadRun.tabQ) rowR.prog w) 20000 rowR.prog w os
@[irreducible] noncomputable def lkF (w : World) (x : PySem.W.SharedT) : Bool := HandSHeadRun.looksF rowR.prog (PySem.W.boot_heap w.params) x.abs
@[irreducible] noncomputable def snF (x : PySem.W.SharedT) := HandSHeadRun.seenQ (PySem.W.view rowR.prog [65]) looseL (importedModules rowR.prog.main.body) (fun s => PySem.W.xlAt (PySem.W.view rowR.prog [65]) [] s && PySem.W.recOk rowR.toRowW.records s) x.abs
@[irreducible] def obF (x : PySem.W.SharedT) : He.Al := obL x
set_option maxRecDepth 1000000 in
set_option maxHeartbeats 0 in
theorem runL1 (w : World) (os : OsState) : (runW w os).map (lkF w) = some true := by kernel_rfl
set_option maxRecDepth 1000000 in
set_option maxHeartbeats 0 in
theorem runL2 (w : World) (os : OsState) : (runW w os).map snF = some (PySem.W.openGood (PySem.W.view rowR.prog [65]) looseL) := by kernel_rfl
set_option maxRecDepth 1000000 in
set_option maxHeartbeats 0 in
theorem runL3 (w : World) (os : OsState) : (runW w os).map (fun x => (obF x).1) = some true := by kernel_rfl
set_option maxRecDepth 1000000 in
set_option maxHeartbeats 0 in
theorem runL4 (w : World) (os : OsState) : (runW w os).map (fun x => (obF x).2) = some (fnL.map He.FnD.val) := by kernel_rfl
theorem runL0 (w : World) (os : OsState) : (runW w os).map (fun x => ((lkF w) x, snF x, obF x)) = some (true, PySem.W.openGood (PySem.W.view rowR.prog [65]) looseL, valM fnL) := run_parts (runL1 w os) (runL2 w os) (obs_parts (runL3 w os) (runL4 w os))
theorem runL (w : World) : HandSHeadRun.RunEq rowR (PySem.W.view rowR.prog [65]) (hookM faL fnL) obL 20000 looseL w := by
  intro os; have e := runL0 w os
  unfold runW lkF snF obF at e
  exact e
end Mp
open PySem PySem.W PyProof.Rows
set_option maxRecDepth 100000 in
set_option maxHeartbeats 0 in
theorem PySem.Challenge.cw_mendplan_k63_refusals_of_visits_holds : PySem.Challenge.rw_mendplan_k63_refusals_of_visits.Holds := by
  w_on; o_law
  refine HandSHeadRun.head_any (r := Mp.rowR) (q := PySem.W.view Mp.rowR.prog [65]) (H := Mp.hookM Mp.faL Mp.fnL) (ob := Mp.obL) (M := 20000) (loose := Mp.looseL) (d := HandSHeadRun.topDef Mp.rowR.prog 65) (kwd := []) Mp.obL_eq
    (by kernel_rfl) (fun s => by kernel_rfl) Mp.runL (by kernel_rfl) (by kernel_rfl) (by kernel_rfl) (by rfl) (by first | assumption | decide +kernel) (by decide +kernel) ⟨rfl, rfl, rfl, rfl, rfl, by decide +kernel⟩ ?hw ?hc
  case hw => w_witness2
  case hc =>
    refine Mp.walk_lawM (l := PySem.Challenge.rw_mendplan_k63_refusals_of_visits) (k := 28) ([] : List Str) rfl rfl ⟨rfl, by decide, by decide⟩ ⟨_, rfl⟩ (fun x hx => by cases hx) ?F
    intro w mg fa h K c KX G hmg0
    have hmg : mg ("law" : PySem.Str) = some (.ref fa) := by
      have e : (HandSHeadRun.topDef Mp.rowR.prog 65).name = ("law" : PySem.Str) := by kernel_rfl
      rw [← e]
      exact hmg0
    exact Mp.all_mk KX G hmg c
