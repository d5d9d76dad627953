import PyProof.Rows.All
import Wide.All
import OpenK.AllK
import Wide.FinOn
import HandS.ForMost
import HandS.ForExc
import HandS.Lambda
import KE.KNest
import HandS.Wide
import HandS.WideBits
import HandS.IsInst
import HandS.Gcd
import HandS.TupAny
import HandS.Codes
import HandS.Zip
import HandS.SortInts
import HandS.EndTab
import KE.GoesEnum
import KE.KMathGC
import KE.GoesZip
import HandS.DictComp
import HandS.More
import HandS.Iter
import HandS.ExcInit
import HandS.ExcSuper
import HandS.ExcField
import HandS.TryMany
import HandS.Flow
import HandS.Style
import KE.GoesMore
import HandS.Deep
import HandS.SortKw
import KE.DataMinMax
import HandS.Nested
import HandS.ExcValue
import KE.SortKeyHeap
import HandS.Star
import KE.LtData
import HandS.SetFor
import HandS.Strs
import HandS.SetBool
import PyProof.ListRange
import KE.KDictDisplayH
import KE.KDictLaws
import HandS.Head3
import HandS.HeadHook1
import PySem.Challenge.RW_mendplan_k21_blame
set_option Elab.async false
set_option linter.all false
set_option maxRecDepth 100000
set_option maxHeartbeats 4000000
/-! LayA: data, cells, worlds; what a value of the program stands for. -/
namespace Mp
open PySem PySem.Spec PyProof.Rows L2

inductive D where
  | non | bl (b : Bool) | int (i : Int) | str (x : Str) | tup (xs : List D) | lst (xs : List D) | scr (xs : List D) | dct (ks : List Key) (ds : List D) | ref (n : Nat) | ty (n : String)
  deriving Inhabited
inductive C where
  | lst (xs : List D) | dct (ks : List Key) (ds : List D) | dtt (ks : List (List Key)) (ds : List D) | obj (cls : Str) (fs : List Str) (ds : List D) | rng (lo hi : Int) | lkd (ks : List Key) (ds : List D) | lkt (ks : List (List Key)) (ds : List D)
  deriving Inhabited
abbrev Hc := List C
abbrev Sl := List (Option D)
/-- what an expression comes to -/
inductive R (α : Type) where
  | ok (a : α) (h : Hc) | ex (x : Str) (fs : List Str) (ds : List D) (h : Hc) | bad
def R.bd {α β : Type} (r : R α) (f : α → Hc → R β) : R β := match r with
  | .ok a h => f a h
  | .ex x fs ds h => .ex x fs ds h
  | .bad => .bad
@[simp] theorem R.bd_ok {α β : Type} (a : α) (h : Hc) (f : α → Hc → R β) : (R.ok a h).bd f = f a h := Eq.trans rfl rfl
/-- the defs besides the law that make lambdas -/
def lamNames : List Str := ["_masks", "purchases"]
def lamQual (x : Str) : Str := x ++ ".<locals>.<lambda>"
def tabGo (K : PySem.W.Frag) : List Str → List (Addr × Str) → List (Addr × Str)
  | [], acc => acc
  | x :: r, acc => match PySem.W.tabIn K x with
    | some (_, P) => if acc.any (fun p => decide (p.1 = P)) = true then tabGo K r acc else tabGo K r (acc ++ [(P, lamQual x)])
    | none => tabGo K r acc
/-- where the tables of code objects stand: the law's, and those of the other defs that make lambdas -/
def tabT (K : PySem.W.Frag) : List (Addr × Str) := tabGo K (("law" : Str) :: lamNames) []
theorem tabGo_sub (K : PySem.W.Frag) : ∀ (l : List Str) (acc : List (Addr × Str)) (p : Addr × Str), p ∈ acc → p ∈ tabGo K l acc
  | [], acc, p, h => h
  | x :: r, acc, p, h => by
    unfold tabGo
    cases q : PySem.W.tabIn K x with
    | none => exact tabGo_sub K r acc p h
    | some cp =>
      obtain ⟨c, P⟩ := cp
      show p ∈ (if acc.any (fun p => decide (p.1 = P)) = true then tabGo K r acc else tabGo K r (acc ++ [(P, lamQual x)]))
      split
      · exact tabGo_sub K r acc p h
      · exact tabGo_sub K r _ p (List.mem_append.mpr (.inl h))
theorem tabGo_all (K : PySem.W.Frag) : ∀ (l : List Str) (acc : List (Addr × Str)) (p : Addr × Str), p ∈ tabGo K l acc → p ∈ acc ∨ ∃ x c, x ∈ l ∧ PySem.W.tabIn K x = some (c, p.1) ∧ p.2 = lamQual x
  | [], acc, p, h => .inl h
  | x :: r, acc, p, h => by
    unfold tabGo at h
    cases q : PySem.W.tabIn K x with
    | none =>
      rw [q] at h
      rcases tabGo_all K r acc p h with z | ⟨y, c, h1, h2⟩
      · exact .inl z
      · exact .inr ⟨y, c, List.mem_cons_of_mem _ h1, h2⟩
    | some cp =>
      obtain ⟨c, P⟩ := cp
      rw [q] at h
      simp only at h
      split at h
      · rcases tabGo_all K r acc p h with z | ⟨y, c, h1, h2⟩
        · exact .inl z
        · exact .inr ⟨y, c, List.mem_cons_of_mem _ h1, h2⟩
      · rcases tabGo_all K r _ p h with z | ⟨y, c, h1, h2⟩
        · rcases List.mem_append.mp z with z | z
          · exact .inl z
          · have e := List.mem_singleton.mp z
            subst e
            exact .inr ⟨x, c, List.mem_cons_self .., q, rfl⟩
        · exact .inr ⟨y, c, List.mem_cons_of_mem _ h1, h2⟩
theorem tabGo_uniq (K : PySem.W.Frag) : ∀ (l : List Str) (acc : List (Addr × Str)), (∀ p ∈ acc, ∀ q ∈ acc, p.1 = q.1 → p = q) → ∀ p ∈ tabGo K l acc, ∀ q ∈ tabGo K l acc, p.1 = q.1 → p = q
  | [], acc, h => h
  | x :: r, acc, h => by
    unfold tabGo
    cases q : PySem.W.tabIn K x with
    | none => exact tabGo_uniq K r acc h
    | some cp =>
      obtain ⟨c, P⟩ := cp
      show ∀ p ∈ (if acc.any (fun p => decide (p.1 = P)) = true then tabGo K r acc else tabGo K r (acc ++ [(P, lamQual x)])), ∀ q ∈ (if acc.any (fun p => decide (p.1 = P)) = true then tabGo K r acc else tabGo K r (acc ++ [(P, lamQual x)])), p.1 = q.1 → p = q
      split
      · exact tabGo_uniq K r acc h
      · rename_i hn
        have hn' : ∀ p ∈ acc, p.1 ≠ P := fun p hp e => hn (List.any_eq_true.mpr ⟨p, hp, by simpa using e⟩)
        refine tabGo_uniq K r _ fun p hp q hq e => ?_
        rcases List.mem_append.mp hp with hp | hp <;> rcases List.mem_append.mp hq with hq | hq
        · exact h p hp q hq e
        · rw [List.mem_singleton.mp hq] at e
          exact absurd e (hn' p hp)
        · rw [List.mem_singleton.mp hp] at e
          exact absurd e.symm (hn' q hq)
        · rw [List.mem_singleton.mp hp, List.mem_singleton.mp hq]
theorem tab_uniq {K : PySem.W.Frag} : ∀ p ∈ tabT K, ∀ q ∈ tabT K, p.1 = q.1 → p = q := tabGo_uniq K _ [] fun p hp => by cases hp
theorem tab_all {K : PySem.W.Frag} {p : Addr × Str} (h : p ∈ tabT K) : ∃ x c, x ∈ ("law" : Str) :: lamNames ∧ PySem.W.tabIn K x = some (c, p.1) ∧ p.2 = lamQual x := by
  rcases tabGo_all K _ [] p h with z | z
  · cases z
  · exact z
theorem tab_law {K : PySem.W.Frag} {c P : Addr} (h : PySem.W.tabIn K "law" = some (c, P)) : (P, lamQual "law") ∈ tabT K := by
  unfold tabT tabGo
  rw [h]
  exact tabGo_sub K _ _ _ (List.mem_append.mpr (.inr (List.mem_singleton.mpr rfl)))
abbrev TabsK (K : PySem.W.Frag) (H : Hp) : Prop := LamX.Tabs (tabT K) H
/-- a world: the addresses that may change, where the cells stand, how many, the tracked heap -/
structure Wo where
  A : Addr → Prop
  β : Nat → Addr
  n : Nat
  H : Hp
/-- what may be changed -/
def MutO : HO → Prop
  | .lst _ => True
  | .dK _ => True
  | .dT _ => True
  | .ins _ _ _ => True
  | .rng _ _ => True
  | .frz _ (.dK _) => True
  | .frz _ (.dT _) => True
  | _ => False
/-- a locked thing -/
def isFz : HO → Prop
  | .frz _ _ => True
  | _ => False
structure Ext (ω ω' : Wo) : Prop where
  n : ω.n ≤ ω'.n
  b : ∀ i, i < ω.n → ω'.β i = ω.β i
  a : ∀ q, ω.A q → ω'.A q
  aN : ∀ q, ω'.A q → ω.A q ∨ ω.H q = none
  nw : ∀ i, ω.n ≤ i → i < ω'.n → ω.H (ω'.β i) = none
  dom : ∀ q, ω'.H q = none → ω.H q = none
  keep : ∀ q o, ω.H q = some o → (∀ ps, o ≠ .tbl ps) → ((∀ i, i < ω.n → ω.β i ≠ q) ∨ isFz o) → ω'.H q = some o
theorem Ext.refl (ω : Wo) : Ext ω ω := ⟨Nat.le_refl _, fun _ _ => rfl, fun _ h => h, fun _ h => .inl h, fun i h1 h2 => absurd h2 (Nat.not_lt.mpr h1), fun _ h => h, fun _ _ h _ _ => h⟩
theorem Ext.trans {ω ω1 ω2 : Wo} (x : Ext ω ω1) (y : Ext ω1 ω2) : Ext ω ω2 where
  n := Nat.le_trans x.n y.n
  b := fun i h => (y.b i (Nat.lt_of_lt_of_le h x.n)).trans (x.b i h)
  a := fun q h => y.a q (x.a q h)
  aN := fun q h => by
    rcases y.aN q h with z | z
    · exact x.aN q z
    · exact .inr (x.dom q z)
  nw := fun i h1 h2 => by
    by_cases h : i < ω1.n
    · rw [y.b i h]; exact x.nw i h1 h
    · exact x.dom _ (y.nw i (Nat.not_lt.mp h) h2)
  dom := fun q h => x.dom q (y.dom q h)
  keep := fun q o h nt hb => y.keep q o (x.keep q o h nt hb) nt <| hb.elim (fun hb => .inl fun i hi e => by
    by_cases h' : i < ω.n
    · rw [x.b i h'] at e; exact hb i h' e
    · have z := x.nw i (Nat.not_lt.mp h') hi
      rw [e, h] at z; cases z) .inr

section
variable (K : PySem.W.Frag)
/-- a written list -/
def WrL (p : Addr) (vs : List V) : Prop :=
  ∃ (o : Obj) (its : Array Value) (n : Nat), K.lookup p = some o ∧ o.cls = .type "list" ∧ o.dict = none ∧ o.data = .seq its n ∧ its.size ≤ sizeLine ∧ Vals vs its.toList
/-- a list that nobody changes any more; one that is locked or written -/
def FzL (ω : Wo) (p : Addr) (vs : List V) : Prop := ω.H p = some (.lst vs) ∧ ¬ ω.A p
def LkL (ω : Wo) (p : Addr) (vs : List V) : Prop := (∃ o, ω.H p = some (.frz o (.lst vs))) ∨ WrL K p vs
theorem LkL.sq {K : PySem.W.Frag} {ω : Wo} {p : Addr} {vs : List V} (h : LkL K ω p vs) : SqL K ω.H p vs := by
  rcases h with ⟨o, h⟩ | h
  · exact .inl (.inr ⟨o, h⟩)
  · exact .inr h
/-- an int, or more than one, and nothing else -/
def keyV : List V → Bool
  | [] => false
  | [.int _] => true
  | .int _ :: r => keyV r
  | _ => false
/-- the first item is a text or a thing -/
def nmV : List V → Bool
  | .str _ :: _ => true
  | .ref _ :: _ => true
  | _ => false
/-- how a tuple is laid down: its object is kept where the first item is a text or a thing -/
def tuO (o : Obj) (vs : List V) : HO := if nmV vs = true then .frz o (.tup vs) else .tup vs
/-- a tuple; if its items are ints, it is tracked (it may be the key of a dict); if its first item is a text or a thing, its object is known to have no dict -/
def SqQ (H : Hp) (p : Addr) (vs : List V) : Prop := SqT K H p vs ∧ (keyV vs = true → H p = some (.tup vs)) ∧ (nmV vs = true → ∃ o : Obj, o.dict = none ∧ (H p = some (.frz o (.tup vs)) ∨ K.lookup p = some o ∧ o.cls = .type "tuple"))
/-- the class of this name -/
def clsAt (x : Str) : Option Addr := match PySem.W.nsIn K mainGlobals x with
  | some (some (.ref c)) => some c
  | _ => none
mutual
def RelD (ω : Wo) : D → V → Prop
  | .non, v => v = .non
  | .bl b, v => v = .bl b
  | .int i, v => v = .int i
  | .str x, v => v = .str x
  | .ty t, v => v = .ty t
  | .tup ds, v => ∃ p vs, v = .ref p ∧ SqQ K ω.H p vs ∧ RelL ω ds vs
  | .lst ds, v => ∃ p vs, v = .ref p ∧ FzL ω p vs ∧ RelL ω ds vs
  | .scr ds, v => ∃ p vs, v = .ref p ∧ LkL K ω p vs ∧ RelL ω ds vs
  | .dct ks ds, v => ∃ p vs, v = .ref p ∧ (ω.H p = some (.dK (ks.zip vs)) ∧ ¬ ω.A p) ∧ ks.length = vs.length ∧ RelL ω ds vs
  | .ref i, v => i < ω.n ∧ v = .ref (ω.β i)
def RelL (ω : Wo) : List D → List V → Prop
  | [], vs => vs = []
  | d :: ds, vs => ∃ v ws, vs = v :: ws ∧ RelD ω d v ∧ RelL ω ds ws
end
def RelC (ω : Wo) (p : Addr) : C → Prop
  | .lst ds => ∃ vs, ω.H p = some (.lst vs) ∧ RelL K ω ds vs
  | .dct ks ds => ∃ vs, ω.H p = some (.dK (ks.zip vs)) ∧ ks.length = vs.length ∧ RelL K ω ds vs
  | .dtt ks ds => ∃ vs, ω.H p = some (.dT (ks.zip vs)) ∧ ks.length = vs.length ∧ RelL K ω ds vs
  | .obj cls fs ds => ∃ vs, (∃ cx dx, clsAt K cls = some cx ∧ ω.H p = some (.ins cx dx (fs.zip vs))) ∧ fs.length = vs.length ∧ RelL K ω ds vs
  | .rng lo hi => ω.H p = some (.rng lo hi)
  | .lkd ks ds => ∃ vs, (∃ o, ω.H p = some (.frz o (.dK (ks.zip vs)))) ∧ ks.length = vs.length ∧ RelL K ω ds vs
  | .lkt ks ds => ∃ vs, (∃ o, ω.H p = some (.frz o (.dT (ks.zip vs)))) ∧ ks.length = vs.length ∧ RelL K ω ds vs
structure Rel (ω : Wo) (h : Hc) : Prop where
  n : ω.n = h.length
  inj : ∀ i j, i < ω.n → j < ω.n → ω.β i = ω.β j → i = j
  inA : ∀ i, i < ω.n → ω.A (ω.β i)
  sub : ∀ q, ω.A q → ω.H q ≠ none
  cel : ∀ i c, h[i]? = some c → RelC K ω (ω.β i) c
  tabs : TabsK K ω.H
def RelS (ω : Wo) (ds : Sl) (σ : L2.St) : Prop := ds.length = σ.length ∧ ∀ (i : Nat) (d : D), ds[i]? = some (some d) → ∃ v, σ[i]? = some (some v) ∧ RelD K ω d v
end
section
variable {K : PySem.W.Frag} {ω ω' : Wo} {h h' : Hc} {d : D} {v : V} {ds : List D} {vs : List V} {p : Addr}
theorem Rel.mut (r : Rel K ω h) {i : Nat} (hi : i < ω.n) : ∃ o, ω.H (ω.β i) = some o ∧ MutO o := by
  rw [r.n] at hi
  have c := r.cel i h[i] (List.getElem?_eq_getElem hi)
  cases e : h[i] with
  | lst xs => rw [e] at c; obtain ⟨vs, e, _⟩ := c; exact ⟨_, e, trivial⟩
  | dct ks xs => rw [e] at c; obtain ⟨vs, e, _⟩ := c; exact ⟨_, e, trivial⟩
  | dtt ks xs => rw [e] at c; obtain ⟨vs, e, _⟩ := c; exact ⟨_, e, trivial⟩
  | obj cls fs xs => rw [e] at c; obtain ⟨vs, ⟨cx, dx, _, e⟩, _⟩ := c; exact ⟨_, e, trivial⟩
  | rng lo hi => rw [e] at c; exact ⟨_, c, trivial⟩
  | lkd ks xs => rw [e] at c; obtain ⟨vs, ⟨o, e⟩, _⟩ := c; exact ⟨_, e, trivial⟩
  | lkt ks xs => rw [e] at c; obtain ⟨vs, ⟨o, e⟩, _⟩ := c; exact ⟨_, e, trivial⟩
theorem Rel.kept (r : Rel K ω h) (e : Ext ω ω') {p : Addr} {o : HO} (h1 : ω.H p = some o) (h2 : ¬ ω.A p ∨ ¬ MutO o) (nt : ∀ ps, o ≠ .tbl ps := by intro _ z; cases z) : ω'.H p = some o :=
  e.keep p o h1 nt <| .inl fun i hi eq => by
    rcases h2 with h2 | h2
    · exact h2 (eq ▸ r.inA i hi)
    · obtain ⟨o', e1, e2⟩ := r.mut hi
      rw [eq, h1] at e1; cases e1
      exact h2 e2
theorem Rel.offA (r : Rel K ω h) (e : Ext ω ω') {p : Addr} {o : HO} (h1 : ω.H p = some o) (h2 : ¬ ω.A p) : ¬ ω'.A p := fun z => by
  rcases e.aN p z with z | z
  · exact h2 z
  · rw [h1] at z; cases z
theorem Rel.sqT (r : Rel K ω h) (e : Ext ω ω') (x : SqT K ω.H p vs) : SqT K ω'.H p vs := by
  rcases x with (x | ⟨o, x⟩) | x
  · exact .inl (.inl (r.kept e x (.inr id)))
  · exact .inl (.inr ⟨o, r.kept e x (.inr id)⟩)
  · exact .inr x
theorem Rel.sqQ (r : Rel K ω h) (e : Ext ω ω') (x : SqQ K ω.H p vs) : SqQ K ω'.H p vs :=
  ⟨r.sqT e x.1, fun z => r.kept e (x.2.1 z) (.inr id), fun z => let ⟨o, e1, e2⟩ := x.2.2 z; ⟨o, e1, e2.imp (fun e2 => r.kept e e2 (.inr id)) id⟩⟩
theorem SqQ.map {H H' : Hp} (x : SqQ K H p vs) (h1 : H p = some (.tup vs) → H' p = some (.tup vs)) (h2 : ∀ o, H p = some (.frz o (.tup vs)) → H' p = some (.frz o (.tup vs))) : SqQ K H' p vs := by
  obtain ⟨a, b, c⟩ := x
  refine ⟨?_, fun z => h1 (b z), fun z => let ⟨o, e1, e2⟩ := c z; ⟨o, e1, e2.imp (h2 o) id⟩⟩
  rcases a with (a | ⟨o, a⟩) | a
  · exact .inl (.inl (h1 a))
  · exact .inl (.inr ⟨o, h2 o a⟩)
  · exact .inr a
theorem key_nm : ∀ {vs : List V}, keyV vs = true → nmV vs = false
  | [], h => by cases h
  | .int _ :: r, h => rfl
  | .non :: r, h => by cases r <;> cases h
  | .bl _ :: r, h => by cases r <;> cases h
  | .str _ :: r, h => by cases r <;> cases h
  | .ref _ :: r, h => by cases r <;> cases h
  | .ty _ :: r, h => by cases r <;> cases h
  | .byt _ :: r, h => by cases r <;> cases h
  | .flt _ :: r, h => by cases r <;> cases h
theorem SqQ.o {H : Hp} {o : Obj} (e : H p = some (tuO o vs)) (hd : o.dict = none) : SqQ K H p vs := by
  unfold tuO at e
  split at e
  · rename_i hn
    exact ⟨.inl (.inr ⟨o, e⟩), fun z => absurd ((key_nm z).symm.trans hn) (by decide), fun _ => ⟨o, hd, .inl e⟩⟩
  · rename_i hn
    exact ⟨.inl (.inl e), fun _ => e, fun z => absurd z hn⟩
theorem Rel.fzd (r : Rel K ω h) (e : Ext ω ω') {o : HO} (x : ω.H p = some o) (n : ¬ ω.A p) (nt : ∀ ps, o ≠ .tbl ps := by intro _ z; cases z) : ω'.H p = some o ∧ ¬ ω'.A p := ⟨r.kept e x (.inl n) nt, r.offA e x n⟩
theorem Rel.lk (r : Rel K ω h) (e : Ext ω ω') (x : LkL K ω p vs) : LkL K ω' p vs := by
  rcases x with ⟨o, x⟩ | x
  · exact .inl ⟨o, r.kept e x (.inr id)⟩
  · exact .inr x
mutual
theorem mono (r : Rel K ω h) (e : Ext ω ω') : ∀ (d : D) (v : V), RelD K ω d v → RelD K ω' d v
  | .non, v, x => by unfold RelD at x ⊢; exact x
  | .bl b, v, x => by unfold RelD at x ⊢; exact x
  | .int i, v, x => by unfold RelD at x ⊢; exact x
  | .str s, v, x => by unfold RelD at x ⊢; exact x
  | .ty t, v, x => by unfold RelD at x ⊢; exact x
  | .tup ds, v, x => by
    unfold RelD at x ⊢
    obtain ⟨p, vs, e1, e2, e3⟩ := x
    exact ⟨p, vs, e1, r.sqQ e e2, monoL r e ds vs e3⟩
  | .lst ds, v, x => by
    unfold RelD at x ⊢
    obtain ⟨p, vs, e1, e2, e3⟩ := x
    exact ⟨p, vs, e1, r.fzd e e2.1 e2.2, monoL r e ds vs e3⟩
  | .scr ds, v, x => by
    unfold RelD at x ⊢
    obtain ⟨p, vs, e1, e2, e3⟩ := x
    exact ⟨p, vs, e1, r.lk e e2, monoL r e ds vs e3⟩
  | .dct ks ds, v, x => by
    unfold RelD at x ⊢
    obtain ⟨p, vs, e1, e2, e3, e4⟩ := x
    exact ⟨p, vs, e1, r.fzd e e2.1 e2.2, e3, monoL r e ds vs e4⟩
  | .ref i, v, x => by
    unfold RelD at x ⊢
    exact ⟨Nat.lt_of_lt_of_le x.1 e.n, by rw [x.2, e.b i x.1]⟩
theorem monoL (r : Rel K ω h) (e : Ext ω ω') : ∀ (ds : List D) (vs : List V), RelL K ω ds vs → RelL K ω' ds vs
  | [], vs, x => by unfold RelL at x ⊢; exact x
  | d :: ds, vs, x => by
    unfold RelL at x ⊢
    obtain ⟨v, ws, e1, e2, e3⟩ := x
    exact ⟨v, ws, e1, mono r e d v e2, monoL r e ds ws e3⟩
end
theorem monoS (r : Rel K ω h) (e : Ext ω ω') {ds : Sl} {σ : L2.St} (x : RelS K ω ds σ) : RelS K ω' ds σ :=
  ⟨x.1, fun i d hd => let ⟨v, e1, e2⟩ := x.2 i d hd; ⟨v, e1, mono r e d v e2⟩⟩
/-! ### lists of data -/
theorem RelL.nil : RelL K ω [] [] := by unfold RelL; rfl
theorem RelL.cons (a : RelD K ω d v) (b : RelL K ω ds vs) : RelL K ω (d :: ds) (v :: vs) := by
  show RelL K ω (d :: ds) (v :: vs)
  unfold RelL; exact ⟨v, vs, rfl, a, b⟩
theorem RelL.len : ∀ {ds : List D} {vs : List V}, RelL K ω ds vs → ds.length = vs.length
  | [], vs, x => by unfold RelL at x; subst x; rfl
  | d :: ds, vs, x => by
    unfold RelL at x
    obtain ⟨v, ws, e1, e2, e3⟩ := x
    rw [e1, List.length_cons, List.length_cons, RelL.len e3]
theorem RelL.get : ∀ {ds : List D} {vs : List V} {i : Nat} {d : D}, RelL K ω ds vs → ds[i]? = some d → ∃ v, vs[i]? = some v ∧ RelD K ω d v
  | [], vs, i, d, x, e => by simp at e
  | d :: ds, vs, 0, d', x, e => by
    unfold RelL at x
    obtain ⟨v, ws, rfl, e2, e3⟩ := x
    have e' : d = d' := by simpa using e
    subst e'
    exact ⟨v, rfl, e2⟩
  | d :: ds, vs, i + 1, d', x, e => by
    unfold RelL at x
    obtain ⟨v, ws, rfl, e2, e3⟩ := x
    obtain ⟨v', q1, q2⟩ := RelL.get (i := i) e3 (by simpa using e)
    exact ⟨v', by simpa using q1, q2⟩
theorem RelL.append : ∀ {ds es : List D} {vs ws : List V}, RelL K ω ds vs → RelL K ω es ws → RelL K ω (ds ++ es) (vs ++ ws)
  | [], es, vs, ws, x, y => by unfold RelL at x; subst x; exact y
  | d :: ds, es, vs, ws, x, y => by
    unfold RelL at x
    obtain ⟨v, us, rfl, e2, e3⟩ := x
    exact RelL.cons e2 (RelL.append e3 y)
theorem RelL.take : ∀ {ds : List D} {vs : List V} (n : Nat), RelL K ω ds vs → RelL K ω (ds.take n) (vs.take n)
  | _, _, 0, _ => by simpa using RelL.nil
  | [], vs, n + 1, x => by unfold RelL at x; subst x; simpa using RelL.nil
  | d :: ds, vs, n + 1, x => by
    unfold RelL at x
    obtain ⟨v, us, rfl, e2, e3⟩ := x
    exact RelL.cons e2 (RelL.take n e3)
theorem RelL.drop : ∀ {ds : List D} {vs : List V} (n : Nat), RelL K ω ds vs → RelL K ω (ds.drop n) (vs.drop n)
  | _, _, 0, x => by simpa using x
  | [], vs, n + 1, x => by unfold RelL at x; subst x; simpa using RelL.nil
  | d :: ds, vs, n + 1, x => by
    unfold RelL at x
    obtain ⟨v, us, rfl, e2, e3⟩ := x
    simpa using RelL.drop n e3
theorem RelL.set {d : D} {v : V} (r : RelD K ω d v) : ∀ {ds : List D} {vs : List V} (i : Nat), RelL K ω ds vs → RelL K ω (ds.set i d) (vs.set i v)
  | [], vs, i, x => by unfold RelL at x; subst x; simpa using RelL.nil
  | d' :: ds, vs, 0, x => by
    unfold RelL at x
    obtain ⟨v', us, rfl, e2, e3⟩ := x
    exact RelL.cons r e3
  | d' :: ds, vs, i + 1, x => by
    unfold RelL at x
    obtain ⟨v', us, rfl, e2, e3⟩ := x
    exact RelL.cons e2 (RelL.set r i e3)
theorem RelL.reverse : ∀ {ds : List D} {vs : List V}, RelL K ω ds vs → RelL K ω ds.reverse vs.reverse
  | [], vs, x => by unfold RelL at x; subst x; simpa using RelL.nil
  | d' :: ds, vs, x => by
    unfold RelL at x
    obtain ⟨v', us, rfl, e2, e3⟩ := x
    rw [List.reverse_cons, List.reverse_cons]
    exact RelL.append (RelL.reverse e3) (RelL.cons e2 RelL.nil)
theorem RelL.inv {vs : List V} (x : RelL K ω (d :: ds) vs) : ∃ v ws, vs = v :: ws ∧ RelD K ω d v ∧ RelL K ω ds ws := by unfold RelL at x; exact x
theorem RelL.inv0 {vs : List V} (x : RelL K ω [] vs) : vs = [] := by unfold RelL at x; exact x
theorem RelL.ints : ∀ {ns : List Int} {vs : List V}, RelL K ω (ns.map D.int) vs → vs = ns.map V.int
  | [], vs, x => x.inv0
  | n :: ns, vs, x => by
    obtain ⟨v, ws, rfl, e2, e3⟩ := x.inv
    unfold RelD at e2
    rw [e2, RelL.ints e3]; rfl
theorem RelL.of_ints : ∀ (ns : List Int), RelL K ω (ns.map D.int) (ns.map V.int)
  | [] => RelL.nil
  | n :: ns => RelL.cons (by unfold RelD; rfl) (RelL.of_ints ns)
theorem RelL.strs : ∀ {ns : List Str} {vs : List V}, RelL K ω (ns.map D.str) vs → vs = ns.map V.str
  | [], vs, x => x.inv0
  | n :: ns, vs, x => by
    obtain ⟨v, ws, rfl, e2, e3⟩ := x.inv
    unfold RelD at e2
    rw [e2, RelL.strs e3]; rfl
theorem RelL.of_strs : ∀ (ns : List Str), RelL K ω (ns.map D.str) (ns.map V.str)
  | [] => RelL.nil
  | n :: ns => RelL.cons (by unfold RelD; rfl) (RelL.of_strs ns)
theorem RelL.bls : ∀ {ns : List Bool} {vs : List V}, RelL K ω (ns.map D.bl) vs → vs = ns.map V.bl
  | [], vs, x => x.inv0
  | n :: ns, vs, x => by
    obtain ⟨v, ws, rfl, e2, e3⟩ := x.inv
    unfold RelD at e2
    rw [e2, RelL.bls e3]; rfl
/-- the tables stay where all but lists and dicts stay -/
theorem tabs_keep {K : PySem.W.Frag} {H H' : Hp} (t : TabsK K H) (k : ∀ b o, H b = some o → ¬ MutO o → H' b = some o) : TabsK K H' := fun p hp => by
  obtain ⟨ps, h1, h2, h3⟩ := t p hp
  refine ⟨ps, k _ _ h1 id, h2, fun pos cv hc => ?_⟩
  obtain ⟨c, e1, e2⟩ := h3 pos cv hc
  exact ⟨c, e1, k _ _ e2 (by unfold LamX.CodeO; exact id)⟩
/-! ### new objects, changed cells -/
def Wo.up (ω : Wo) (p : Addr) (o : HO) : Wo := { ω with H := upd ω.H p o }
theorem Ext.up {o : HO} (hp : ω.H p = none) : Ext ω (ω.up p o) where
  n := Nat.le_refl _
  b := fun _ _ => rfl
  a := fun _ x => x
  aN := fun _ x => .inl x
  nw := fun i h1 h2 => absurd h2 (Nat.not_lt.mpr h1)
  dom := fun q x => by
    by_cases e : q = p
    · rw [e]; exact hp
    · have x' : upd ω.H p o q = none := x
      rw [upd_ne e] at x'; exact x'
  keep := fun q u x _ _ => by
    show upd ω.H p o q = some u
    rw [upd_ne (ne_of_none x hp)]; exact x
theorem Rel.ext1 (r : Rel K ω h) (e : Ext ω ω') (hn : ω'.n = ω.n) (hA : ∀ q, ω'.A q → ω'.H q ≠ none) (hc : ∀ i, i < ω.n → ω'.H (ω.β i) = ω.H (ω.β i)) (ht : TabsK K ω'.H) : Rel K ω' h where
  tabs := ht
  n := hn.trans r.n
  inj := fun i j hi hj q => by
    rw [hn] at hi hj
    rw [e.b i hi, e.b j hj] at q
    exact r.inj i j hi hj q
  inA := fun i hi => by rw [hn] at hi; rw [e.b i hi]; exact e.a _ (r.inA i hi)
  sub := hA
  cel := fun i c hi => by
    have hl : i < ω.n := by rw [r.n]; exact (List.getElem?_eq_some_iff.mp hi).1
    rw [e.b i hl]
    have x := r.cel i c hi
    cases c with
    | lst xs =>
      obtain ⟨vs, e1, e2⟩ := x
      exact ⟨vs, (hc i hl).trans e1, monoL r e _ _ e2⟩
    | dct ks xs =>
      obtain ⟨vs, e1, e3, e2⟩ := x
      exact ⟨vs, (hc i hl).trans e1, e3, monoL r e _ _ e2⟩
    | dtt ks xs =>
      obtain ⟨vs, e1, e3, e2⟩ := x
      exact ⟨vs, (hc i hl).trans e1, e3, monoL r e _ _ e2⟩
    | obj cls fs xs =>
      obtain ⟨vs, ⟨cx, dx, e0, e1⟩, e3, e2⟩ := x
      exact ⟨vs, ⟨cx, dx, e0, (hc i hl).trans e1⟩, e3, monoL r e _ _ e2⟩
    | rng lo hi => exact (hc i hl).trans x
    | lkd ks xs => obtain ⟨vs, ⟨o, e1⟩, e3, e2⟩ := x; exact ⟨vs, ⟨o, (hc i hl).trans e1⟩, e3, monoL r e _ _ e2⟩
    | lkt ks xs => obtain ⟨vs, ⟨o, e1⟩, e3, e2⟩ := x; exact ⟨vs, ⟨o, (hc i hl).trans e1⟩, e3, monoL r e _ _ e2⟩
theorem Rel.ext0 (r : Rel K ω h) (e : Ext ω ω') (hn : ω'.n = ω.n) (hA : ∀ q, ω'.A q → ω.A q) (hc : ∀ i, i < ω.n → ω'.H (ω.β i) = ω.H (ω.β i)) (ht : TabsK K ω'.H) : Rel K ω' h :=
  r.ext1 e hn (fun q hq z => r.sub q (hA q hq) (e.dom q z)) hc ht
theorem Rel.up {o : HO} (r : Rel K ω h) (hp : ω.H p = none) : Rel K (ω.up p o) h :=
  r.ext0 (Ext.up hp) rfl (fun _ x => x) (fun i hi => by
    obtain ⟨u, e, _⟩ := r.mut hi
    show upd ω.H p o _ = _
    rw [upd_ne (ne_of_none e hp)]) (tabs_keep r.tabs fun b u e _ => by
    show upd ω.H p o b = some u
    rw [upd_ne (ne_of_none e hp)]; exact e)
theorem Rel.free (r : Rel K ω h) (hp : ω.H p = none) : ¬ ω.A p := fun z => r.sub p z hp
/-- a new cell at p -/
def Wo.cell (ω : Wo) (p : Addr) (o : HO) : Wo := ⟨fun q => ω.A q ∨ q = p, fun i => if i = ω.n then p else ω.β i, ω.n + 1, upd ω.H p o⟩
theorem Ext.cell {o : HO} (hp : ω.H p = none) : Ext ω (ω.cell p o) where
  n := Nat.le_succ _
  b := fun i hi => if_neg (Nat.ne_of_lt hi)
  a := fun _ x => .inl x
  aN := fun q x => by
    rcases x with x | x
    · exact .inl x
    · rw [x]; exact .inr hp
  nw := fun i h1 h2 => by
    have h2' : i < ω.n + 1 := h2
    have e : i = ω.n := Nat.le_antisymm (Nat.le_of_lt_succ h2') h1
    show ω.H (if i = ω.n then p else ω.β i) = none
    rw [if_pos e]; exact hp
  dom := (Ext.up (o := o) hp).dom
  keep := (Ext.up (o := o) hp).keep
theorem Wo.cell_at {o : HO} : (ω.cell p o).β ω.n = p := if_pos rfl
theorem Rel.cell {o : HO} {c : C} (r : Rel K ω h) (hp : ω.H p = none) (hc : RelC K (ω.cell p o) p c) : Rel K (ω.cell p o) (h ++ [c]) where
  tabs := tabs_keep r.tabs fun b u e _ => by
    show upd ω.H p o b = some u
    rw [upd_ne (ne_of_none e hp)]; exact e
  n := by rw [List.length_append, ← r.n]; rfl
  inj := fun i j hi hj q => by
    have hi' : i < ω.n + 1 := hi
    have hj' : j < ω.n + 1 := hj
    have q' : (if i = ω.n then p else ω.β i) = (if j = ω.n then p else ω.β j) := q
    by_cases e1 : i = ω.n
    · by_cases e2 : j = ω.n
      · omega
      · rw [if_pos e1, if_neg e2] at q'
        obtain ⟨u, z, _⟩ := r.mut (show j < ω.n by omega)
        rw [← q', hp] at z; cases z
    · by_cases e2 : j = ω.n
      · rw [if_neg e1, if_pos e2] at q'
        obtain ⟨u, z, _⟩ := r.mut (show i < ω.n by omega)
        rw [q', hp] at z; cases z
      · rw [if_neg e1, if_neg e2] at q'
        exact r.inj i j (by omega) (by omega) q'
  inA := fun i hi => by
    have hi' : i < ω.n + 1 := hi
    by_cases e1 : i = ω.n
    · exact .inr (if_pos e1)
    · refine .inl ?_
      show ω.A (if i = ω.n then p else ω.β i)
      rw [if_neg e1]; exact r.inA i (by omega)
  sub := fun q x z => by
    have z' : upd ω.H p o q = none := z
    by_cases e : q = p
    · rw [e, upd_same] at z'; cases z'
    · rw [upd_ne e] at z'
      rcases x with x | x
      · exact r.sub q x z'
      · exact e x
  cel := fun i c' hi => by
    by_cases e1 : i = ω.n
    · have e2 : i = h.length := e1.trans r.n
      rw [List.getElem?_append_right (by omega), e2, Nat.sub_self] at hi
      have e3 : c = c' := by simpa using hi
      subst e3
      have e4 : (ω.cell p o).β i = p := if_pos e1
      rw [e4]; exact hc
    · have hlt : i < ω.n := by
        have := (List.getElem?_eq_some_iff.mp hi).1
        rw [List.length_append, ← r.n] at this
        simp at this; omega
      rw [List.getElem?_append_left (by rw [← r.n]; exact hlt)] at hi
      have e4 : (ω.cell p o).β i = ω.β i := if_neg e1
      rw [e4]
      obtain ⟨u, z, _⟩ := r.mut hlt
      have ne : ω.β i ≠ p := ne_of_none z hp
      have x := r.cel i c' hi
      have e := Ext.cell (ω := ω) (p := p) (o := o) hp
      cases c' with
      | lst xs =>
        obtain ⟨vs, e1, e2⟩ := x
        exact ⟨vs, (upd_ne ne).trans e1, monoL r e _ _ e2⟩
      | dct ks xs =>
        obtain ⟨vs, e1, e3, e2⟩ := x
        exact ⟨vs, (upd_ne ne).trans e1, e3, monoL r e _ _ e2⟩
      | dtt ks xs =>
        obtain ⟨vs, e1, e3, e2⟩ := x
        exact ⟨vs, (upd_ne ne).trans e1, e3, monoL r e _ _ e2⟩
      | obj cls fs xs =>
        obtain ⟨vs, ⟨cx, dx, e0, e1⟩, e3, e2⟩ := x
        exact ⟨vs, ⟨cx, dx, e0, (upd_ne ne).trans e1⟩, e3, monoL r e _ _ e2⟩
      | rng lo hi => exact (upd_ne ne).trans x
      | lkd ks xs => obtain ⟨vs, ⟨o, e1⟩, e3, e2⟩ := x; exact ⟨vs, ⟨o, (upd_ne ne).trans e1⟩, e3, monoL r e _ _ e2⟩
      | lkt ks xs => obtain ⟨vs, ⟨o, e1⟩, e3, e2⟩ := x; exact ⟨vs, ⟨o, (upd_ne ne).trans e1⟩, e3, monoL r e _ _ e2⟩
/-- cell i is changed -/
theorem Ext.put {o u : HO} {i : Nat} (hi : i < ω.n) (hu : ω.H (ω.β i) = some u) (nf : ¬ isFz u := by exact id) : Ext ω (ω.up (ω.β i) o) where
  n := Nat.le_refl _
  b := fun _ _ => rfl
  a := fun _ x => x
  aN := fun _ x => .inl x
  nw := fun i h1 h2 => absurd h2 (Nat.not_lt.mpr h1)
  dom := fun q x => by
    have x' : upd ω.H (ω.β i) o q = none := x
    by_cases e : q = ω.β i
    · rw [e, upd_same] at x'; cases x'
    · rw [upd_ne e] at x'; exact x'
  keep := fun q w x _ hb => by
    show upd ω.H (ω.β i) o q = some w
    rw [upd_ne (fun e => hb.elim (fun hb => hb i hi e.symm) fun f => nf (by rw [e, hu] at x; cases x; exact f))]; exact x
theorem Rel.put {o : HO} {c : C} {i : Nat} (r : Rel K ω h) (hi : i < ω.n) {u : HO} (hu : ω.H (ω.β i) = some u) (hc : RelC K (ω.up (ω.β i) o) (ω.β i) c) (nf : ¬ isFz u := by exact id) : Rel K (ω.up (ω.β i) o) (h.set i c) := by
  have e := Ext.put (o := o) hi hu nf
  refine ⟨by rw [List.length_set]; exact r.n, r.inj, r.inA, fun q x z => r.sub q x (e.dom q z), fun j c' hj => ?_, tabs_keep r.tabs fun b w e1 nm => by
    show upd ω.H (ω.β i) o b = some w
    rw [upd_ne (fun z => nm (by
      obtain ⟨w', e2, m⟩ := r.mut hi
      rw [z, e2] at e1; cases e1
      exact m))]; exact e1⟩
  by_cases ej : j = i
  · subst ej
    rw [List.getElem?_set_self (by rw [← r.n]; exact hi)] at hj
    have e3 : c = c' := by simpa using hj
    subst e3
    exact hc
  · rw [List.getElem?_set_ne (Ne.symm ej)] at hj
    have hl : j < ω.n := by rw [r.n]; exact (List.getElem?_eq_some_iff.mp hj).1
    have ne : ω.β j ≠ ω.β i := fun q => ej (r.inj j i hl hi q)
    have x := r.cel j c' hj
    show RelC K (ω.up (ω.β i) o) (ω.β j) c'
    cases c' with
    | lst xs =>
      obtain ⟨vs, e1, e2⟩ := x
      exact ⟨vs, (upd_ne ne).trans e1, monoL r e _ _ e2⟩
    | dct ks xs =>
      obtain ⟨vs, e1, e3, e2⟩ := x
      exact ⟨vs, (upd_ne ne).trans e1, e3, monoL r e _ _ e2⟩
    | dtt ks xs =>
      obtain ⟨vs, e1, e3, e2⟩ := x
      exact ⟨vs, (upd_ne ne).trans e1, e3, monoL r e _ _ e2⟩
    | obj cls fs xs =>
      obtain ⟨vs, ⟨cx, dx, e0, e1⟩, e3, e2⟩ := x
      exact ⟨vs, ⟨cx, dx, e0, (upd_ne ne).trans e1⟩, e3, monoL r e _ _ e2⟩
    | rng lo hi => exact (upd_ne ne).trans x
    | lkd ks xs => obtain ⟨vs, ⟨o, e1⟩, e3, e2⟩ := x; exact ⟨vs, ⟨o, (upd_ne ne).trans e1⟩, e3, monoL r e _ _ e2⟩
    | lkt ks xs => obtain ⟨vs, ⟨o, e1⟩, e3, e2⟩ := x; exact ⟨vs, ⟨o, (upd_ne ne).trans e1⟩, e3, monoL r e _ _ e2⟩
end
end Mp
/-! LayB: what an expression, a test, a statement means over data. -/
namespace Mp
open PySem PySem.Spec PyProof.Rows L2
abbrev SE := Sl → Hc → R D
abbrev SB := Sl → Hc → R Bool
abbrev SA := Sl → Hc → R (List D)
/-- an exception over data -/
def RelX (K : PySem.W.Frag) (mg : Str → Option Value) (ω : Wo) (x : Str) (fs : List Str) (ds : List D) (cls : Value) (dx : Option Addr) : Prop :=
  ∃ (C d : Addr) (vs : List V), cls = .ref C ∧ dx = some d ∧ mg x = some (.ref C) ∧ ω.H d = some (.xd (fs.zip vs)) ∧ fs.length = vs.length ∧ RelL K ω ds vs
def Post {α β : Type} (K : PySem.W.Frag) (mg : Str → Option Value) (W : WX) (σ : L2.St) (ω : Wo) (rel : Wo → α → β → Prop) (Q : β → Hp → Prop) : R α → Prop
  | .ok a h => ∀ b ω', Ext ω ω' → Rel K ω' h → rel ω' a b → Q b ω'.H
  | .ex x fs ds h => ∀ cls dx ω', Ext ω ω' → Rel K ω' h → RelX K mg ω' x fs ds cls dx → W cls dx σ ω'.H
  | .bad => False
section
variable {α β α' β' : Type} {K : PySem.W.Frag} {mg : Str → Option Value} {W : WX} {σ : L2.St} {ω ω' : Wo} {rel : Wo → α → β → Prop} {Q : β → Hp → Prop} {rel' : Wo → α' → β' → Prop} {Q' : β' → Hp → Prop}
theorem Post.bd {r : R α} {f : α → Hc → R α'} (hp : Post K mg W σ ω rel' Q' (r.bd f))
    (hq : ∀ a h b ω', Ext ω ω' → Rel K ω' h → rel ω' a b → Post K mg W σ ω' rel' Q' (f a h) → Q b ω'.H) : Post K mg W σ ω rel Q r := by
  cases r with
  | ok a h =>
    intro b ω' e r1 ra
    refine hq a h b ω' e r1 ra ?_
    have hp' : Post K mg W σ ω rel' Q' (f a h) := hp
    cases q : f a h with
    | ok a2 h2 => rw [q] at hp'; exact fun b2 ω2 e2 => hp' b2 ω2 (e.trans e2)
    | ex x fs ds h2 => rw [q] at hp'; exact fun c d ω2 e2 => hp' c d ω2 (e.trans e2)
    | bad => rw [q] at hp'; exact hp'
  | ex x fs ds h => exact hp
  | bad => exact hp
theorem Post.mono {r : R α} (hp : Post K mg W σ ω rel Q r) (e : Ext ω ω') : Post K mg W σ ω' rel Q r := by
  cases r with
  | ok a h => exact fun b2 ω2 e2 => hp b2 ω2 (e.trans e2)
  | ex x fs ds h2 => exact fun c d ω2 e2 => hp c d ω2 (e.trans e2)
  | bad => exact hp
end
/-- a reading by data -/
def tOf {α β : Type} (K : PySem.W.Frag) (mg : Str → Option Value) (W : WX) (rel : Wo → α → β → Prop) (m : Sl → Hc → R α) : L2.St → Hp → (β → Hp → Prop) → Prop := fun σ H Q =>
  ∃ ω h ds, ω.H = H ∧ Rel K ω h ∧ RelS K ω ds σ ∧ Post K mg W σ ω rel Q (m ds h)
def relB : Wo → Bool → Bool → Prop := fun _ a b => a = b
abbrev tE (X : Cx) (W : WX) (m : SE) : TE := tOf X.K X.mg W (RelD X.K) m
abbrev tT (X : Cx) (W : WX) (m : SB) : TT := tOf X.K X.mg W relB m
abbrev tA (X : Cx) (W : WX) (m : SA) : TA := tOf X.K X.mg W (RelL X.K) m
abbrev DE (X : Cx) (W : WX) (e : Expr) (m : SE) : Prop := PE X e (tE X W m)
abbrev DT (X : Cx) (W : WX) (e : Expr) (m : SB) : Prop := PT X e (tT X W m)
abbrev DW (X : Cx) (W : WX) (e : Expr) (m : SB) : Prop := PW X e (tT X W m)
abbrev DA (X : Cx) (W : WX) (es : List Expr) (m : SA) : Prop := PA X es (tA X W m)
section
variable {X : Cx} {W : WX} {e a b : Expr} {es : List Expr} {pos : Pos} {ma mb m : SE} {t u : SB} {as : SA} {t1 : TE}
theorem de_of (h : PE X e t1) (hw : ∀ σ H Q, tE X W m σ H Q → t1 σ H Q) : DE X W e m := ⟨fun pins s σ H Q I q => h.run pins s σ H Q I (hw σ H Q q)⟩
theorem dt_of {t1 : TT} (h : PT X e t1) (hw : ∀ σ H Q, tT X W t σ H Q → t1 σ H Q) : DT X W e t := ⟨fun pins s σ H Q I q => h.run pins s σ H Q I (hw σ H Q q)⟩
theorem dw_of {t1 : TT} (h : PW X e t1) (hw : ∀ σ H Q, tT X W t σ H Q → t1 σ H Q) : DW X W e t := ⟨fun wh pins s σ H Q I q => h.run wh pins s σ H Q I (hw σ H Q q)⟩
theorem da_of {t1 : TA} (h : PA X es t1) (hw : ∀ σ H Q, tA X W as σ H Q → t1 σ H Q) : DA X W es as := ⟨fun pos pins s σ H Q I q => h.run pos pins s σ H Q I (hw σ H Q q)⟩
/-! ### names, constants -/
def eVar (i : Nat) : SE := fun ds h => match ds[i]? with
  | some (some d) => .ok d h
  | _ => .bad
def eC (d : D) : SE := fun _ h => .ok d h
theorem de_var {i : Nat} (h : PE X e (tVar i)) : DE X W e (eVar i) := de_of h fun σ H Q ⟨ω, h, ds, e1, r, s, p⟩ => by
  subst e1
  unfold eVar at p
  cases q : ds[i]? with
  | none => rw [q] at p; exact False.elim p
  | some o =>
    cases o with
    | none => rw [q] at p; exact False.elim p
    | some d =>
      rw [q] at p
      obtain ⟨v, e2, rd⟩ := s.2 i d q
      exact ⟨v, e2, p v ω (Ext.refl ω) r rd⟩
/-- a constant: it stands for d in every world -/
theorem de_c {v : V} {d : D} (h : PE X e (tC v)) (hd : ∀ ω, RelD X.K ω d v) : DE X W e (eC d) := de_of h fun σ H Q ⟨ω, h, ds, e1, r, s, p⟩ => by
  subst e1
  exact p v ω (Ext.refl ω) r (hd ω)
theorem de_int {i : Int} {j : Nat} : DE X W (.Constant (.int i) j pos) (eC (.int i)) := de_c pe_int fun _ => by unfold RelD; rfl
theorem de_bl {b : Bool} {j : Nat} : DE X W (.Constant (.bool b) j pos) (eC (.bl b)) := de_c pe_bl fun _ => by unfold RelD; rfl
theorem de_non {j : Nat} : DE X W (.Constant .none j pos) (eC .non) := de_c pe_non fun _ => by unfold RelD; rfl
theorem de_str {x : Str} {j : Nat} : DE X W (.Constant (.str x) j pos) (eC (.str x)) := de_c pe_str fun _ => by unfold RelD; rfl
/-! ### operators by values -/
def OpD (X : Cx) (r : R2) (f : D → D → Hc → R D) : Prop := ∀ (W : WX) (σ : L2.St) (ω : Wo) (h : Hc) (x y : D) (v u : V) (Q : VK), Rel X.K ω h → RelD X.K ω x v → RelD X.K ω y u → Post X.K X.mg W σ ω (RelD X.K) Q (f x y h) → r v u ω.H Q
def eOp (f : D → D → Hc → R D) (ma mb : SE) : SE := fun ds h => (ma ds h).bd fun x h1 => (mb ds h1).bd fun y h2 => f x y h2
theorem opw {r : R2} {f : D → D → Hc → R D} (ho : OpD X r f) : ∀ σ H Q, tE X W (eOp f ma mb) σ H Q → tOp r (tE X W ma) (tE X W mb) σ H Q := fun σ H Q ⟨ω, h, ds, e1, r, s, p⟩ => by
  subst e1
  exact ⟨ω, h, ds, rfl, r, s, p.bd fun x h1 v ω1 e1 r1 d1 p1 => ⟨ω1, h1, ds, rfl, r1, monoS r e1 s, p1.bd fun y h2 u ω2 e2 r2 d2 p2 => ho W σ ω2 h2 x y v u Q r2 (mono r1 e2 _ _ d1) d2 p2⟩⟩
theorem de_op {op : Operator} {r : R2} {f : D → D → Hc → R D} (ho : OpR X (binaryOp op) r) (hd : OpD X r f) (ha : DE X W a ma) (hb : DE X W b mb) : DE X W (.BinOp a op b pos) (eOp f ma mb) := de_of (pe_op ho ha hb) (opw hd)
theorem de_cmp {op : CmpOp} {r : R2} {f : D → D → Hc → R D} (ho : OpR X (compareOp op) r) (hd : OpD X r f) (ha : DE X W a ma) (hb : DE X W b mb) (hm : behindInMarks op b = false) : DE X W (.Compare a [op] [b] pos) (eOp f ma mb) := de_of (pe_cmpR ho ha hb hm) (opw hd)
theorem de_ix {r : R2} {f : D → D → Hc → R D} (hr : IxR X r) (hd : OpD X r f) (ha : DE X W a ma) (hb : DE X W b mb) (hs : PlainIx b) : DE X W (.Subscript a b pos) (eOp f ma mb) := de_of (pe_ix hr ha hb hs) (opw hd)
def UnD (X : Cx) (r : V → Hp → VK → Prop) (f : D → Hc → R D) : Prop := ∀ (W : WX) (σ : L2.St) (ω : Wo) (h : Hc) (x : D) (v : V) (Q : VK), Rel X.K ω h → RelD X.K ω x v → Post X.K X.mg W σ ω (RelD X.K) Q (f x h) → r v ω.H Q
def eUn (f : D → Hc → R D) (ma : SE) : SE := fun ds h => (ma ds h).bd fun x h1 => f x h1
theorem de_un {op : UnaryOp} {r : V → Hp → VK → Prop} {f : D → Hc → R D} (ho : UnR X (unaryOp op) r) (hd : UnD X r f) (ha : DE X W a ma) : DE X W (.UnaryOp op a pos) (eUn f ma) := de_of (pe_un ho ha) fun σ H Q ⟨ω, h, ds, e1, r, s, p⟩ => by
  subst e1
  exact ⟨ω, h, ds, rfl, r, s, p.bd fun x h1 v ω1 e1 r1 d1 p1 => hd W σ ω1 h1 x v Q r1 d1 p1⟩
/-! ### and, or, not, if as values -/
def isBl : D → Option Bool
  | .bl b => some b
  | _ => none
theorem isBl_rel {K : PySem.W.Frag} {ω : Wo} {d : D} {v : V} {b : Bool} (h : isBl d = some b) (r : RelD K ω d v) : v = .bl b := by
  cases d <;> simp [isBl] at h
  subst h
  unfold RelD at r; exact r
def eAnd (ma mb : SE) : SE := fun ds h => (ma ds h).bd fun x h1 => match isBl x with
  | some true => mb ds h1
  | some false => .ok (.bl false) h1
  | none => .bad
def eOr (ma mb : SE) : SE := fun ds h => (ma ds h).bd fun x h1 => match isBl x with
  | some true => .ok (.bl true) h1
  | some false => mb ds h1
  | none => .bad
def eNot (ma : SE) : SE := fun ds h => (ma ds h).bd fun x h1 => match isBl x with
  | some b => .ok (.bl (!b)) h1
  | none => .bad
theorem de_one {op : BoolOp} (ha : DE X W a ma) : DE X W (.BoolOp op [a] pos) ma := pe_one ha
theorem de_and (ha : DE X W a ma) (hb : DE X W (.BoolOp .And (b :: es) pos) mb) : DE X W (.BoolOp .And (a :: b :: es) pos) (eAnd ma mb) := de_of (pe_and ha hb) fun σ H Q ⟨ω, h, ds, e1, r, s, p⟩ => by
  subst e1
  refine ⟨ω, h, ds, rfl, r, s, p.bd fun x h1 v ω1 e1 r1 d1 p1 => ?_⟩
  cases q : isBl x with
  | none => rw [q] at p1; exact False.elim p1
  | some b =>
    rw [q] at p1
    refine ⟨b, isBl_rel q d1, ?_⟩
    cases b with
    | true => rw [if_pos rfl]; exact ⟨ω1, h1, ds, rfl, r1, monoS r e1 s, p1⟩
    | false => rw [if_neg Bool.false_ne_true]; exact p1 _ ω1 (Ext.refl _) r1 (by unfold RelD; rfl)
theorem de_not (ha : DE X W a ma) : DE X W (.UnaryOp .Not a pos) (eNot ma) := de_of (pe_not ha) fun σ H Q ⟨ω, h, ds, e1, r, s, p⟩ => by
  subst e1
  refine ⟨ω, h, ds, rfl, r, s, p.bd fun x h1 v ω1 e1 r1 d1 p1 => ?_⟩
  cases q : isBl x with
  | none => rw [q] at p1; exact False.elim p1
  | some b => rw [q] at p1; exact ⟨b, isBl_rel q d1, p1 _ ω1 (Ext.refl _) r1 (by unfold RelD; rfl)⟩
def eIf (t : SB) (ma mb : SE) : SE := fun ds h => (t ds h).bd fun b h1 => if b = true then ma ds h1 else mb ds h1
theorem de_if {c : Expr} (hc : DT X W c t) (ha : DE X W a ma) (hb : DE X W b mb) : DE X W (.IfExp c a b pos) (eIf t ma mb) := de_of (pe_ifExp hc ha hb) fun σ H Q ⟨ω, h, ds, e1, r, s, p⟩ => by
  subst e1
  refine ⟨ω, h, ds, rfl, r, s, p.bd fun x h1 v ω1 e1 r1 d1 p1 => ?_⟩
  have d1' : x = v := d1
  subst d1'
  cases x with
  | true => exact ⟨ω1, h1, ds, rfl, r1, monoS r e1 s, p1⟩
  | false => exact ⟨ω1, h1, ds, rfl, r1, monoS r e1 s, p1⟩
/-! ### tests -/
def bEx (m : SE) : SB := fun ds h => (m ds h).bd fun x h1 => match isBl x with
  | some b => .ok b h1
  | none => .bad
theorem tBw : ∀ σ H Q, tT X W (bEx m) σ H Q → tB (tE X W m) σ H Q := fun σ H Q ⟨ω, h, ds, e1, r, s, p⟩ => by
  subst e1
  refine ⟨ω, h, ds, rfl, r, s, p.bd fun x h1 v ω1 e1 r1 d1 p1 => ?_⟩
  cases q : isBl x with
  | none => rw [q] at p1; exact False.elim p1
  | some b => rw [q] at p1; exact ⟨b, isBl_rel q d1, p1 b ω1 (Ext.refl _) r1 rfl⟩
theorem dt_cmp {op : CmpOp} {r : R2} {f : D → D → Hc → R D} (ho : OpR X (compareOp op) r) (hd : OpD X r f) (ha : DE X W a ma) (hb : DE X W b mb) (hm : behindInMarks op b = false) : DT X W (.Compare a [op] [b] pos) (bEx (eOp f ma mb)) :=
  dt_of (pt_cmpR ho ha hb hm) fun σ H Q h => by
    obtain ⟨ω, h, ds, e1, r, s, p⟩ := h
    subst e1
    have p' : Post X.K X.mg W σ ω relB Q ((ma ds h).bd fun x h1 => (mb ds h1).bd fun y h2 => (f x y h2).bd fun x h1 => match isBl x with
      | some b => .ok b h1
      | none => .bad) := by
      unfold bEx eOp at p
      cases q : ma ds h with
      | ok x h1 =>
        rw [q] at p
        simp only [R.bd_ok] at p ⊢
        cases q2 : mb ds h1 with
        | ok y h2 => rw [q2] at p; exact p
        | ex _ _ _ _ => rw [q2] at p; exact p
        | bad => rw [q2] at p; exact p
      | ex _ _ _ _ => rw [q] at p; exact p
      | bad => rw [q] at p; exact p
    refine ⟨ω, h, ds, rfl, r, s, p'.bd fun x h1 v ω1 e1 r1 d1 p1 => ⟨ω1, h1, ds, rfl, r1, monoS r e1 s, p1.bd fun y h2 u ω2 e2 r2 d2 p2 => hd W σ ω2 h2 x y v u _ r2 (mono r1 e2 _ _ d1) d2 ?_⟩⟩
    refine p2.bd fun z h3 w ω3 e3 r3 d3 p3 => ?_
    cases q : isBl z with
    | none => rw [q] at p3; exact False.elim p3
    | some b => rw [q] at p3; exact ⟨b, isBl_rel q d3, p3 b ω3 (Ext.refl _) r3 rfl⟩
def bAnd (t u : SB) : SB := fun ds h => (t ds h).bd fun b h1 => if b = true then u ds h1 else .ok false h1
def bOr (t u : SB) : SB := fun ds h => (t ds h).bd fun b h1 => if b = true then .ok true h1 else u ds h1
def bNot (t : SB) : SB := fun ds h => (t ds h).bd fun b h1 => .ok (!b) h1
theorem dw_and1 (ha : DT X W a t) : DW X W (.BoolOp .And [a] pos) t := pw_and1 ha
theorem dw_or1 (ha : DT X W a t) : DW X W (.BoolOp .Or [a] pos) t := pw_or1 ha
theorem dw_and (ha : DT X W a t) (hb : DW X W (.BoolOp .And (b :: es) pos) u) : DW X W (.BoolOp .And (a :: b :: es) pos) (bAnd t u) := dw_of (pw_and ha hb) fun σ H Q ⟨ω, h, ds, e1, r, s, p⟩ => by
  subst e1
  refine ⟨ω, h, ds, rfl, r, s, p.bd fun x h1 v ω1 e1 r1 d1 p1 => ?_⟩
  have d1' : x = v := d1
  subst d1'
  cases x with
  | true => exact ⟨ω1, h1, ds, rfl, r1, monoS r e1 s, p1⟩
  | false => exact p1 _ ω1 (Ext.refl _) r1 rfl
theorem dw_or (ha : DT X W a t) (hb : DW X W (.BoolOp .Or (b :: es) pos) u) : DW X W (.BoolOp .Or (a :: b :: es) pos) (bOr t u) := dw_of (pw_or ha hb) fun σ H Q ⟨ω, h, ds, e1, r, s, p⟩ => by
  subst e1
  refine ⟨ω, h, ds, rfl, r, s, p.bd fun x h1 v ω1 e1 r1 d1 p1 => ?_⟩
  have d1' : x = v := d1
  subst d1'
  cases x with
  | true => exact p1 _ ω1 (Ext.refl _) r1 rfl
  | false => exact ⟨ω1, h1, ds, rfl, r1, monoS r e1 s, p1⟩
theorem dt_not (ha : DT X W a t) : DT X W (.UnaryOp .Not a pos) (bNot t) := dt_of (pt_not ha) fun σ H Q ⟨ω, h, ds, e1, r, s, p⟩ => by
  subst e1
  refine ⟨ω, h, ds, rfl, r, s, p.bd fun x h1 v ω1 e1 r1 d1 p1 => ?_⟩
  have d1' : x = v := d1
  subst d1'
  exact p1 _ ω1 (Ext.refl _) r1 rfl
/-! ### arguments, displays -/
def aNil : SA := fun _ h => .ok [] h
def aCons (m : SE) (as : SA) : SA := fun ds h => (m ds h).bd fun x h1 => (as ds h1).bd fun xs h2 => .ok (x :: xs) h2
theorem da_nil : DA X W [] aNil := da_of pa_nil fun σ H Q ⟨ω, h, ds, e1, r, s, p⟩ => by
  subst e1
  exact p _ ω (Ext.refl _) r RelL.nil
theorem da_cons (ha : DE X W e m) (hr : DA X W es as) (hs : starEach (e :: es) X.env = (false, eval e X.env) :: starEach es X.env := by rfl) : DA X W (e :: es) (aCons m as) := da_of (pa_cons ha hr hs) fun σ H Q ⟨ω, h, ds, e1, r, s, p⟩ => by
  subst e1
  exact ⟨ω, h, ds, rfl, r, s, p.bd fun x h1 v ω1 e1 r1 d1 p1 => ⟨ω1, h1, ds, rfl, r1, monoS r e1 s, p1.bd fun xs h2 vs ω2 e2 r2 d2 p2 => p2 _ ω2 (Ext.refl _) r2 (RelL.cons (mono r1 e2 _ _ d1) d2)⟩⟩
def lim : Nat := 1000000
theorem lim_le {n : Nat} (h : n ≤ lim) : n ≤ sizeLine := Nat.le_trans h (by rw [sizeLine_eq]; decide)
theorem lim_lt {n : Nat} (h : n < lim) : n < sizeLine := Nat.lt_of_lt_of_le h (by rw [sizeLine_eq]; decide)
def eTup (as : SA) : SE := fun ds h => (as ds h).bd fun xs h1 => if xs.length ≤ lim then .ok (.tup xs) h1 else .bad
/-- a list display whose list is never changed -/
def eLst (as : SA) : SE := fun ds h => (as ds h).bd fun xs h1 => if xs.length ≤ lim then .ok (.lst xs) h1 else .bad
/-- a list display: a new cell -/
def eCell (as : SA) : SE := fun ds h => (as ds h).bd fun xs h1 => if xs.length ≤ lim then .ok (.ref h1.length) (h1 ++ [.lst xs]) else .bad
/-- a fresh tuple laid down by its object -/
theorem laidF {pins : List (Addr × Obj)} {σ : L2.St} {H : Hp} {s : Shared} {h' : Heap} {q : Addr} {o : Obj} {xs : List V} {t' : Nat} (I : Inv X pins σ H s) (k : ∀ b u, s.heap.get? b = some u → h'.get? b = some u) (hp : s.heap.objs.size ≤ q)
    (ho : h'.get? q = some o) (new : ObjOk X.prog X.w (upd H q (.tup xs)) h' q (.tup xs)) : Inv X pins σ (upd H q (tuO o xs)) { s with heap := h', toks := t' } := I.laid k hp (by
  unfold tuO
  split
  · exact ⟨ho, new⟩
  · exact new)
/-- a tuple display, its object kept -/
def tTupF (t : TA) : TE := fun σ H Q => t σ H fun xs H1 => xs.length ≤ sizeLine ∧ ∀ (p : Addr) (o : Obj), H1 p = none → o.dict = none → Q (.ref p) (upd H1 p (tuO o xs))
theorem pe_tupF {t : TA} {x1} (ht : PA X es t) : PE X (.Tuple es x1 pos) (tTupF t) := by
  refine ⟨fun pins s σ H Q I wish => ?_⟩
  refine wpAny_Tuple_spliced (thn (ht.run pos pins s σ H _ I wish) fun us s1 ⟨xs, H1, I1, rv, hz, wish1⟩ => ⟨by rw [← rv.length]; exact hz, ?_⟩)
  have frs : H1 s1.heap.objs.size = none := I1.hok.fresh (Nat.le_refl _)
  exact ⟨.ref s1.heap.objs.size, _, laidF (t' := s1.toks) I1 (fun b u e => Heap.get?_push_of_some _ e) (Nat.le_refl _) (Heap.get?_push_size _ rfl) ⟨hz, us, rv, ⟨_, Heap.get?_push_size _ rfl, rfl, _, rfl⟩⟩, rfl, wish1 _ _ frs rfl⟩
theorem tup_new {K : PySem.W.Frag} {ω : Wo} {h : Hc} {q : Addr} {o : Obj} {xs : List D} {vs : List V} (r : Rel K ω h) (hq : ω.H q = none) (hd : o.dict = none) (d : RelL K ω xs vs) : RelD K (ω.up q (tuO o vs)) (.tup xs) (.ref q) := by
  unfold RelD
  exact ⟨q, vs, rfl, .o upd_same hd, monoL r (Ext.up hq) _ _ d⟩
theorem de_tup {x1} (ha : DA X W es as) : DE X W (.Tuple es x1 pos) (eTup as) := de_of (pe_tupF ha) fun σ H Q ⟨ω, h, ds, e1, r, s, p⟩ => by
  subst e1
  refine ⟨ω, h, ds, rfl, r, s, p.bd fun xs h1 vs ω1 e1 r1 d1 p1 => ?_⟩
  by_cases hl : xs.length ≤ lim
  · rw [if_pos hl] at p1
    exact ⟨by rw [← d1.len]; exact lim_le hl, fun q o hq hd => p1 _ (ω1.up q (tuO o vs)) (Ext.up hq) (r1.up hq) (tup_new r1 hq hd d1)⟩
  · rw [if_neg hl] at p1; exact False.elim p1
/-- the first item is a text or a thing -/
def nmE : List D → Bool
  | .str _ :: _ => true
  | .tup _ :: _ => true
  | .lst _ :: _ => true
  | .scr _ :: _ => true
  | .dct _ _ :: _ => true
  | .ref _ :: _ => true
  | _ => false
theorem nm_rel {K : PySem.W.Frag} {ω : Wo} : ∀ {ds : List D} {vs : List V}, RelL K ω ds vs → nmV vs = nmE ds
  | [], vs, x => by rw [x.inv0]; rfl
  | d :: ds, vs, x => by
    obtain ⟨v, ws, rfl, e2, e3⟩ := x.inv
    cases d <;> unfold RelD at e2
    case tup => obtain ⟨p, us, rfl, _⟩ := e2; rfl
    case lst => obtain ⟨p, us, rfl, _⟩ := e2; rfl
    case scr => obtain ⟨p, us, rfl, _⟩ := e2; rfl
    case dct => obtain ⟨p, us, rfl, _⟩ := e2; rfl
    case ref => obtain ⟨_, rfl⟩ := e2; rfl
    all_goals (subst e2; rfl)
theorem fz_new {K : PySem.W.Frag} {ω : Wo} {h : Hc} {q : Addr} {xs : List D} {vs : List V} (r : Rel K ω h) (hq : ω.H q = none) (d : RelL K ω xs vs) : RelD K (ω.up q (.lst vs)) (.lst xs) (.ref q) := by
  unfold RelD
  exact ⟨q, vs, rfl, ⟨upd_same, r.free hq⟩, monoL r (Ext.up hq) _ _ d⟩
theorem cell_new {K : PySem.W.Frag} {ω : Wo} {h : Hc} {q : Addr} {xs : List D} {vs : List V} (r : Rel K ω h) (hq : ω.H q = none) (d : RelL K ω xs vs) :
    Rel K (ω.cell q (.lst vs)) (h ++ [.lst xs]) ∧ RelD K (ω.cell q (.lst vs)) (.ref h.length) (.ref q) := by
  refine ⟨r.cell hq ⟨vs, upd_same, monoL r (Ext.cell hq) _ _ d⟩, ?_⟩
  unfold RelD
  rw [← r.n]
  exact ⟨Nat.lt_succ_self _, by rw [Wo.cell_at]⟩
theorem de_lst (ha : DA X W es as) : DE X W (.List es pos) (eLst as) := de_of (pe_lst ha) fun σ H Q ⟨ω, h, ds, e1, r, s, p⟩ => by
  subst e1
  refine ⟨ω, h, ds, rfl, r, s, p.bd fun xs h1 vs ω1 e1 r1 d1 p1 => ?_⟩
  by_cases hl : xs.length ≤ lim
  · rw [if_pos hl] at p1
    exact ⟨by rw [← d1.len]; exact lim_le hl, fun q hq => p1 _ (ω1.up q (.lst vs)) (Ext.up hq) (r1.up hq) (fz_new r1 hq d1)⟩
  · rw [if_neg hl] at p1; exact False.elim p1
theorem de_cell (ha : DA X W es as) : DE X W (.List es pos) (eCell as) := de_of (pe_lst ha) fun σ H Q ⟨ω, h, ds, e1, r, s, p⟩ => by
  subst e1
  refine ⟨ω, h, ds, rfl, r, s, p.bd fun xs h1 vs ω1 e1 r1 d1 p1 => ?_⟩
  by_cases hl : xs.length ≤ lim
  · rw [if_pos hl] at p1
    exact ⟨by rw [← d1.len]; exact lim_le hl, fun q hq => p1 _ (ω1.cell q (.lst vs)) (Ext.cell hq) (cell_new r1 hq d1).1 (cell_new r1 hq d1).2⟩
  · rw [if_neg hl] at p1; exact False.elim p1
end
/-! ### statements -/
inductive O where
  | nx (ds : Sl) (h : Hc) | rt (d : D) (h : Hc) | bk (ds : Sl) (h : Hc) | ct (ds : Sl) (h : Hc) | ex (x : Str) (fs : List Str) (vs : List D) (ds : Sl) (h : Hc) | bad
abbrev SS := Sl → Hc → O
def PostO (K : PySem.W.Frag) (mg : Str → Option Value) (W : WX) (ω : Wo) (E : Ends) : O → Prop
  | .nx ds h => ∀ σ' ω', Ext ω ω' → Rel K ω' h → RelS K ω' ds σ' → E.nx σ' ω'.H
  | .rt d h => ∀ v ω', Ext ω ω' → Rel K ω' h → RelD K ω' d v → E.rt v ω'.H
  | .bk ds h => ∀ σ' ω', Ext ω ω' → Rel K ω' h → RelS K ω' ds σ' → E.bk σ' ω'.H
  | .ct ds h => ∀ σ' ω', Ext ω ω' → Rel K ω' h → RelS K ω' ds σ' → E.ct σ' ω'.H
  | .ex x fs vs ds h => ∀ cls dx σ' ω', Ext ω ω' → Rel K ω' h → RelS K ω' ds σ' → RelX K mg ω' x fs vs cls dx → W cls dx σ' ω'.H
  | .bad => False
def tS (X : Cx) (W : WX) (m : SS) : TS := fun E σ H => ∃ ω h ds, ω.H = H ∧ Rel X.K ω h ∧ RelS X.K ω ds σ ∧ PostO X.K X.mg W ω E (m ds h)
abbrev DS (X : Cx) (W : WX) (st : Stmt) (m : SS) : Prop := PS X st (tS X W m)
abbrev DSs (X : Cx) (W : WX) (st : List Stmt) (m : SS) : Prop := PSs X st (tS X W m)
/-- behind an expression -/
def sBd {α : Type} (r : R α) (ds : Sl) (f : α → Hc → O) : O := match r with
  | .ok a h => f a h
  | .ex x fs vs h => .ex x fs vs ds h
  | .bad => .bad
@[simp] theorem sBd_ok {α : Type} (a : α) (h : Hc) (ds : Sl) (f : α → Hc → O) : sBd (.ok a h) ds f = f a h := Eq.trans rfl rfl
section
variable {X : Cx} {W : WX} {K : PySem.W.Frag} {mg : Str → Option Value} {E : Ends} {ω ω' : Wo} {σ : L2.St} {ds : Sl} {h : Hc}
theorem PostO.mono {o : O} (p : PostO K mg W ω E o) (e : Ext ω ω') : PostO K mg W ω' E o := by
  cases o with
  | nx ds h => exact fun s w x => p s w (e.trans x)
  | rt d h => exact fun s w x => p s w (e.trans x)
  | bk ds h => exact fun s w x => p s w (e.trans x)
  | ct ds h => exact fun s w x => p s w (e.trans x)
  | ex x fs vs ds h => exact fun c d s w x => p c d s w (e.trans x)
  | bad => exact p
theorem PostO.bd {α β : Type} {r : R α} {f : α → Hc → O} {rel : Wo → α → β → Prop} {Q : β → Hp → Prop} (hr : Rel K ω h) (hs : RelS K ω ds σ) (hp : PostO K mg W ω E (sBd r ds f))
    (hq : ∀ a h b ω', Ext ω ω' → Rel K ω' h → rel ω' a b → RelS K ω' ds σ → PostO K mg W ω' E (f a h) → Q b ω'.H) : Post K mg W σ ω rel Q r := by
  cases r with
  | ok a h1 => exact fun b ω' e r1 ra => hq a h1 b ω' e r1 ra (monoS hr e hs) (PostO.mono (o := f a h1) hp e)
  | ex x fs vs h1 => exact fun c d ω' e r1 rx => hp c d σ ω' e r1 (monoS hr e hs) rx
  | bad => exact hp
end
def sSeq (a b : SS) : SS := fun ds h => match a ds h with
  | .nx ds' h' => b ds' h'
  | o => o
def sNext : SS := fun ds h => .nx ds h
def sRet (m : SE) : SS := fun ds h => sBd (m ds h) ds fun d h1 => .rt d h1
def sDrop (m : SE) : SS := fun ds h => sBd (m ds h) ds fun _ h1 => .nx ds h1
def sIf (t : SB) (a b : SS) : SS := fun ds h => sBd (t ds h) ds fun c h1 => if c = true then a ds h1 else b ds h1
def sBad : SS := fun _ _ => .bad
section
variable {X : Cx} {W : WX} {st : Stmt} {rest sts : List Stmt} {a b m : SS} {me : SE} {t : SB} {e c : Expr} {pos : Pos}
theorem ds_of {t1 : TS} (h : PS X st t1) (hw : ∀ E σ H, tS X W m E σ H → t1 E σ H) : DS X W st m := ⟨fun pins s σ H E I q => h.run pins s σ H E I (hw E σ H q)⟩
theorem dss_of {t1 : TS} (h : PSs X sts t1) (hw : ∀ E σ H, tS X W m E σ H → t1 E σ H) : DSs X W sts m := ⟨fun pins s σ H E I q => h.run pins s σ H E I (hw E σ H q)⟩
theorem dss_nil : DSs X W [] sNext := dss_of pss_nil fun E σ H ⟨ω, h, ds, e1, r, s, p⟩ => by
  subst e1
  exact p σ ω (Ext.refl _) r s
theorem dss_one (h : DS X W st m) : DSs X W [st] m := pss_one h
theorem dss_cons (ha : DS X W st a) (hb : DSs X W rest b) : DSs X W (st :: rest) (sSeq a b) := dss_of (pss_cons ha hb) fun E σ H ⟨ω, h, ds, e1, r, s, p⟩ => by
  subst e1
  refine ⟨ω, h, ds, rfl, r, s, ?_⟩
  unfold sSeq at p
  cases q : a ds h with
  | nx ds' h' =>
    rw [q] at p
    exact fun σ' ω' e r' s' => ⟨ω', h', ds', rfl, r', s', PostO.mono (o := b ds' h') p e⟩
  | rt d h' => rw [q] at p; exact p
  | bk ds' h' => rw [q] at p; exact p
  | ct ds' h' => rw [q] at p; exact p
  | ex x fs vs ds' h' => rw [q] at p; exact p
  | bad => rw [q] at p; exact p
theorem ds_break : DS X W (.Break pos) (fun ds h => .bk ds h) := ds_of ps_break fun E σ H ⟨ω, h, ds, e1, r, s, p⟩ => by
  subst e1
  exact p σ ω (Ext.refl _) r s
theorem ds_ret (he : DE X W e me) : DS X W (.Return (some e) pos) (sRet me) := ds_of (ps_ret he) fun E σ H ⟨ω, h, ds, e1, r, s, p⟩ => by
  subst e1
  exact ⟨ω, h, ds, rfl, r, s, PostO.bd r s p fun d h1 v ω' e r1 rd s1 p1 => p1 v ω' (Ext.refl _) r1 rd⟩
theorem ds_drop (he : DE X W e me) (hs : swapsWith e none pos.line X.env = pure false := by rfl) : DS X W (.Expr e pos) (sDrop me) := ds_of (ps_expr he hs) fun E σ H ⟨ω, h, ds, e1, r, s, p⟩ => by
  subst e1
  exact ⟨ω, h, ds, rfl, r, s, PostO.bd r s p fun d h1 v ω' e r1 rd s1 p1 => p1 σ ω' (Ext.refl _) r1 s1⟩
theorem ds_if (hc : DT X W c t) (ha : DSs X W sts a) (hb : DSs X W rest b) : DS X W (.If c sts rest pos) (sIf t a b) := ds_of (ps_if hc ha hb) fun E σ H ⟨ω, h, ds, e1, r, s, p⟩ => by
  subst e1
  refine ⟨ω, h, ds, rfl, r, s, PostO.bd r s p fun x h1 v ω' e r1 rd s1 p1 => ?_⟩
  have rd' : x = v := rd
  subst rd'
  cases x with
  | true => exact ⟨ω', h1, ds, rfl, r1, s1, p1⟩
  | false => exact ⟨ω', h1, ds, rfl, r1, s1, p1⟩
/-! ### stores -/
theorem RelS.set {K : PySem.W.Frag} {ω : Wo} {ds : Sl} {σ : L2.St} {d : D} {v : V} (s : RelS K ω ds σ) (i : Nat) (r : RelD K ω d v) : RelS K ω (ds.set i (some d)) (σ.set i (some v)) := by
  refine ⟨by rw [List.length_set, List.length_set]; exact s.1, fun j d' hj => ?_⟩
  by_cases hi : i = j
  · subst hi
    have hl : i < ds.length := by
      have := (List.getElem?_eq_some_iff.mp hj).1
      rw [List.length_set] at this; exact this
    rw [List.getElem?_set_self hl] at hj
    have : d = d' := by simpa using hj
    subst this
    exact ⟨v, by rw [List.getElem?_set_self (by rw [← s.1]; exact hl)], r⟩
  · rw [List.getElem?_set_ne hi] at hj
    obtain ⟨v', e1, e2⟩ := s.2 j d' hj
    exact ⟨v', by rw [List.getElem?_set_ne hi]; exact e1, e2⟩
def sSet (i : Nat) (m : SE) : SS := fun ds h => sBd (m ds h) ds fun d h1 => .nx (ds.set i (some d)) h1
theorem ds_set {i : Nat} {tg : Expr} (h : PS X (.Assign [tg] e pos) (tAsg (tE X W me) (gName i))) : DS X W (.Assign [tg] e pos) (sSet i me) := ds_of h fun E σ H ⟨ω, h, ds, e1, r, s, p⟩ => by
  subst e1
  exact ⟨ω, h, ds, rfl, r, s, PostO.bd r s p fun d h1 v ω' e r1 rd s1 p1 => p1 _ ω' (Ext.refl _) r1 (s1.set i rd)⟩
end
end Mp
/-! LayC: loops, targets, comprehensions, calls, defs. -/
namespace Mp
open PySem PySem.Spec PyProof.Rows L2
/-! ### while -/
def wl (t : SB) (b : SS) : Nat → SS
  | 0 => sBad
  | n + 1 => fun ds h => sBd (t ds h) ds fun c h1 => if c = true then (match b ds h1 with
      | .nx ds' h' => wl t b n ds' h'
      | .ct ds' h' => wl t b n ds' h'
      | .bk ds' h' => .nx ds' h'
      | o => o) else .nx ds h1
section
variable {X : Cx} {W : WX} {sts : List Stmt} {b : SS} {t : SB} {c : Expr} {pos : Pos}
theorem ds_while (n : Nat) (hp : PassesOwn (model X.prog X.w) X.A X.env X.xe) (hc : DT X W c t) (hb : DSs X W sts b) : DS X W (.While c sts [] pos) (wl t b n) := ds_of (ps_while hp hc hb) fun E σ H ⟨ω, h, ds, e1, r, s, p⟩ => by
  subst e1
  refine ⟨fun m σ' H' => ∃ ω1 h1 ds1, ω1.H = H' ∧ Rel X.K ω1 h1 ∧ RelS X.K ω1 ds1 σ' ∧ PostO X.K X.mg W ω1 E (wl t b m ds1 h1), ⟨n, ω, h, ds, rfl, r, s, p⟩, ?_⟩
  rintro m σ' H' ⟨ω1, h1, ds1, rfl, r1, s1, p1⟩
  cases m with
  | zero => exact False.elim p1
  | succ m =>
    refine ⟨ω1, h1, ds1, rfl, r1, s1, PostO.bd r1 s1 p1 fun x h2 v ω2 e2 r2 d2 s2 p2 => ?_⟩
    have d2' : x = v := d2
    subst d2'
    cases x with
    | false => exact p2 σ' ω2 (Ext.refl _) r2 s2
    | true =>
      rw [if_pos rfl] at p2 ⊢
      refine ⟨fun σ3 H3 => ∃ ω3 h3 ds3, ω3.H = H3 ∧ Rel X.K ω3 h3 ∧ RelS X.K ω3 ds3 σ3 ∧ PostO X.K X.mg W ω3 E (wl t b m ds3 h3), fun σ3 H3 z => ⟨m, Nat.lt_succ_self m, z⟩, ω2, h2, ds1, rfl, r2, s2, ?_⟩
      cases q : b ds1 h2 with
      | nx ds' h' => rw [q] at p2; exact fun σ3 ω3 e3 r3 s3 => ⟨ω3, h', ds', rfl, r3, s3, PostO.mono (o := wl t b m ds' h') p2 e3⟩
      | ct ds' h' => rw [q] at p2; exact fun σ3 ω3 e3 r3 s3 => ⟨ω3, h', ds', rfl, r3, s3, PostO.mono (o := wl t b m ds' h') p2 e3⟩
      | bk ds' h' => rw [q] at p2; exact p2
      | rt d h' => rw [q] at p2; exact p2
      | ex x fs vs ds' h' => rw [q] at p2; exact p2
      | bad => rw [q] at p2; exact p2
end
/-! ### targets -/
inductive Pt where
  | n (i : Nat) | t (ps : List Pt)
mutual
def Pt.slots : Pt → List Nat
  | .n i => [i]
  | .t ps => Pt.slotsL ps
def Pt.slotsL : List Pt → List Nat
  | [] => []
  | p :: ps => p.slots ++ Pt.slotsL ps
end
/-- the items of a sequence -/
def seqD (h : Hc) : D → Option (List D)
  | .tup xs => some xs
  | .lst xs => some xs
  | .scr xs => some xs
  | .ref i => match h[i]? with
    | some (.lst xs) => some xs
    | _ => none
  | _ => none
mutual
def bindP (h : Hc) : Pt → D → Sl → Option Sl
  | .n i, d, ds => some (ds.set i (some d))
  | .t ps, d, ds => match seqD h d with
    | some xs => bindPs h ps xs ds
    | none => none
def bindPs (h : Hc) : List Pt → List D → Sl → Option Sl
  | [], [], ds => some ds
  | p :: ps, x :: xs, ds => match bindP h p x ds with
    | some ds1 => bindPs h ps xs ds1
    | none => none
  | _, _, _ => none
end
section
variable {K : PySem.W.Frag} {ω ω' : Wo} {h h' : Hc} {d : D} {v : V}
theorem seqD_rel {xs : List D} (r : Rel K ω h) (e : seqD h d = some xs) (x : RelD K ω d v) : ∃ p vs, v = .ref p ∧ (SqT K ω.H p vs ∨ SqL K ω.H p vs) ∧ RelL K ω xs vs := by
  cases d with
  | tup ys =>
    simp [seqD] at e; subst e
    unfold RelD at x
    obtain ⟨p, vs, e1, e2, e3⟩ := x
    exact ⟨p, vs, e1, .inl e2.1, e3⟩
  | lst ys =>
    simp [seqD] at e; subst e
    unfold RelD at x
    obtain ⟨p, vs, e1, e2, e3⟩ := x
    exact ⟨p, vs, e1, .inr (.inl (.inl e2.1)), e3⟩
  | scr ys =>
    simp [seqD] at e; subst e
    unfold RelD at x
    obtain ⟨p, vs, e1, e2, e3⟩ := x
    exact ⟨p, vs, e1, .inr e2.sq, e3⟩
  | ref i =>
    unfold RelD at x
    obtain ⟨hi, e1⟩ := x
    unfold seqD at e
    cases q : h[i]? with
    | none => simp [q] at e
    | some c =>
      cases c with
      | lst ys =>
        simp [q] at e; subst e
        obtain ⟨vs, e2, e3⟩ := r.cel i _ q
        exact ⟨_, vs, e1, .inr (.inl (.inl e2)), e3⟩
      | _ => simp [q] at e
  | _ => simp [seqD] at e
theorem wipe_set_out {σ : L2.St} {i : Nat} {x : Option V} : ∀ {ws : List Nat}, i ∉ ws → wipe (σ.set i x) ws = (wipe σ ws).set i x
  | [], _ => rfl
  | w :: ws, hn => by
    have h1 : i ≠ w := fun e => hn (by simp [e])
    have h2 : i ∉ ws := fun e => hn (by simp [e])
    unfold wipe
    rw [wipe_set_out h2, List.set_comm _ _ h1]
theorem wipe_set_in {σ : L2.St} {i : Nat} {x : Option V} : ∀ {ws : List Nat}, i ∈ ws → wipe (σ.set i x) ws = wipe σ ws
  | [], hi => by simp at hi
  | w :: ws, hi => by
    unfold wipe
    by_cases h2 : i ∈ ws
    · rw [wipe_set_in h2]
    · have e : i = w := by simpa [h2] using hi
      subst e
      rw [wipe_set_out h2, List.set_set]
end
/-- a target's reading -/
def tP (K : PySem.W.Frag) (p : Pt) : TG := fun v σ H Q => ∃ ω h ds d ds', ω.H = H ∧ Rel K ω h ∧ RelS K ω ds σ ∧ RelD K ω d v ∧ bindP h p d ds = some ds' ∧ ∀ σ', RelS K ω ds' σ' → (∀ ws, (∀ i ∈ p.slots, i ∈ ws) → wipe σ' ws = wipe σ ws) → Q σ' H
def tPs (K : PySem.W.Frag) (ps : List Pt) : TGs := fun vs σ H Q => ∃ ω h ds xs ds', ω.H = H ∧ Rel K ω h ∧ RelS K ω ds σ ∧ RelL K ω xs vs ∧ bindPs h ps xs ds = some ds' ∧ ∀ σ', RelS K ω ds' σ' → (∀ ws, (∀ i ∈ Pt.slotsL ps, i ∈ ws) → wipe σ' ws = wipe σ ws) → Q σ' H
abbrev DG (X : Cx) (tg : Expr) (p : Pt) : Prop := PG X tg (tP X.K p)
abbrev DGs (X : Cx) (tgs : List Expr) (ps : List Pt) : Prop := PGs X tgs (tPs X.K ps)
section
variable {X : Cx} {tg : Expr} {tgs es : List Expr} {p : Pt} {ps : List Pt} {pos : Pos} {k : Nat}
theorem dg_of {t1 : TG} (h : PG X tg t1) (hw : ∀ v σ H Q, tP X.K p v σ H Q → t1 v σ H Q) : DG X tg p := ⟨fun pins s σ H v u Q I r q => h.run pins s σ H v u Q I r (hw v σ H Q q)⟩
theorem dgs_of {t1 : TGs} (h : PGs X tgs t1) (hw : ∀ v σ H Q, tPs X.K ps v σ H Q → t1 v σ H Q) : DGs X tgs ps := ⟨fun pins s σ H v u Q I r q => h.run pins s σ H v u Q I r (hw v σ H Q q)⟩
theorem dg_n {i : Nat} (h : PG X tg (gName i)) : DG X tg (.n i) := dg_of h fun v σ H Q ⟨ω, h, ds, d, ds', e1, r, s, rd, eb, q⟩ => by
  subst e1
  simp [bindP] at eb; subst eb
  exact q _ (s.set i rd) fun ws hw => wipe_set_in (hw i (by simp [Pt.slots]))
theorem dgs_nil : DGs X [] [] := dgs_of pgs_nil fun v σ H Q ⟨ω, h, ds, xs, ds', e1, r, s, rd, eb, q⟩ => by
  subst e1
  cases xs with
  | nil =>
    simp [bindPs] at eb; subst eb
    exact ⟨rd.inv0, q σ s fun _ _ => rfl⟩
  | cons x xs => simp [bindPs] at eb
theorem dgs_cons {e : Expr} (h1 : DG X e p) (h2 : DGs X es ps) (h : PGs X (e :: es) (gCons (tP X.K p) (tPs X.K ps))) : DGs X (e :: es) (p :: ps) := dgs_of h fun v σ H Q ⟨ω, h, ds, xs, ds', e1, r, s, rd, eb, q⟩ => by
  subst e1
  cases xs with
  | nil => simp [bindPs] at eb
  | cons x xs =>
    obtain ⟨v1, ws, rfl, ra, rb⟩ := rd.inv
    unfold bindPs at eb
    cases q1 : bindP h p x ds with
    | none => simp [q1] at eb
    | some ds1 =>
      simp [q1] at eb
      exact ⟨v1, ws, rfl, ω, h, ds, x, ds1, rfl, r, s, ra, q1, fun σ' s' w' => ⟨ω, h, ds1, xs, ds', rfl, r, s', rb, eb, fun σ'' s'' w'' => q σ'' s'' fun ws' hw => (w'' ws' fun i hi => hw i (by simp [Pt.slotsL, hi])).trans (w' ws' fun i hi => hw i (by simp [Pt.slotsL, hi]))⟩⟩
theorem bindPs_len : ∀ {h : Hc} {ps : List Pt} {xs : List D} {ds ds' : Sl}, bindPs h ps xs ds = some ds' → xs.length = ps.length
  | _, [], [], _, _, _ => rfl
  | _, [], x :: xs, _, _, e => by simp [bindPs] at e
  | _, p :: ps, [], _, _, e => by simp [bindPs] at e
  | h, p :: ps, x :: xs, ds, ds', e => by
    unfold bindPs at e
    cases q1 : bindP h p x ds with
    | none => simp [q1] at e
    | some ds1 => simp [q1] at e; rw [List.length_cons, List.length_cons, bindPs_len e]
theorem pg_or {t1 t2 : TG} (h1 : PG X tg t1) (h2 : PG X tg t2) : PG X tg (fun v σ H Q => t1 v σ H Q ∨ t2 v σ H Q) :=
  ⟨fun pins s σ H v u Q I r q => q.elim (fun q => h1.run pins s σ H v u Q I r q) fun q => h2.run pins s σ H v u Q I r q⟩
theorem dg_t (hc : X.calm = true) (h : DGs X es ps)
    (h1 : PG X (.Tuple es k pos) (gTup X.K ps.length (tPs X.K ps))) (h2 : PG X (.Tuple es k pos) (gLst X.K ps.length (tPs X.K ps))) : DG X (.Tuple es k pos) (.t ps) :=
  dg_of (pg_or h1 h2) fun v σ H Q ⟨ω, h, ds, d, ds', e1, r, s, rd, eb, q⟩ => by
    subst e1
    unfold bindP at eb
    cases q1 : seqD h d with
    | none => simp [q1] at eb
    | some xs =>
      simp [q1] at eb
      obtain ⟨a, vs, rfl, sq, rl⟩ := seqD_rel r q1 rd
      have hl : vs.length = ps.length := by rw [← rl.len]; exact bindPs_len eb
      have q' : tPs X.K ps vs σ ω.H Q := ⟨ω, h, ds, xs, ds', rfl, r, s, rl, eb, fun σ' s' w' => q σ' s' fun ws hw => w' ws fun i hi => hw i (by simp [Pt.slots, hi])⟩
      rcases sq with sq | sq
      · exact .inl ⟨a, vs, rfl, sq, hl, q'⟩
      · exact .inr ⟨a, vs, rfl, sq, hl, q'⟩
end
/-- target = expression -/
def sAsg (p : Pt) (m : SE) : SS := fun ds h => sBd (m ds h) ds fun d h1 => match bindP h1 p d ds with
  | some ds' => .nx ds' h1
  | none => .bad
theorem ds_asg {X : Cx} {W : WX} {tg e : Expr} {p : Pt} {me : SE} {pos : Pos} (h : PS X (.Assign [tg] e pos) (tAsg (tE X W me) (tP X.K p))) : DS X W (.Assign [tg] e pos) (sAsg p me) := ds_of h fun E σ H ⟨ω, h, ds, e1, r, s, q⟩ => by
  subst e1
  refine ⟨ω, h, ds, rfl, r, s, PostO.bd r s q fun d h1 v ω' e r1 rd s1 p1 => ?_⟩
  cases q1 : bindP h1 p d ds with
  | none => rw [q1] at p1; exact False.elim p1
  | some ds' => rw [q1] at p1; exact ⟨ω', h1, ds, d, ds', rfl, r1, s1, rd, q1, fun σ' s' _ => p1 σ' ω' (Ext.refl _) r1 s'⟩
/-! ### what is walked -/
structure ItD where
  items : List D
  chk : Hc → Bool
abbrev SI := Sl → Hc → R ItD
def ItOk (K : PySem.W.Frag) (ω : Wo) (it : ItD) (J : It) : Prop := ∀ (i : Nat) (ω' : Wo) (h' : Hc), Ext ω ω' → Rel K ω' h' → it.chk h' = true →
  (∀ d, it.items[i]? = some d → J.go i ω'.H ∧ ∀ x H', J.yld i ω'.H x H' → ∃ ω2, ω2.H = H' ∧ Ext ω' ω2 ∧ Rel K ω2 h' ∧ RelD K ω2 d x) ∧ (it.items[i]? = none → J.stop i ω'.H)
abbrev tI (X : Cx) (W : WX) (m : SI) : TI := tOf X.K X.mg W (ItOk X.K) m
abbrev DI (X : Cx) (W : WX) (tg iter : Expr) (m : SI) : Prop := PI X tg iter (tI X W m)
section
variable {X : Cx} {W : WX} {tg iter e : Expr} {m : SE} {mi : SI}
theorem di_of {t1 : TI} (h : PI X tg iter t1) (hw : ∀ σ H R, tI X W mi σ H R → t1 σ H R) : DI X W tg iter mi := ⟨fun pins s σ H R I q => h.run pins s σ H R I (hw σ H R q)⟩
theorem pi_or {t1 t2 : TI} (h1 : PI X tg iter t1) (h2 : PI X tg iter t2) : PI X tg iter (fun σ H R => t1 σ H R ∨ t2 σ H R) :=
  ⟨fun pins s σ H R I q => q.elim (fun q => h1.run pins s σ H R I q) fun q => h2.run pins s σ H R I q⟩
end
def fl (chk : Hc → Bool) (p : Pt) (b : SS) : List D → SS
  | [] => fun ds h => if chk h = true then .nx ds h else .bad
  | d :: r => fun ds h => if chk h = true then (match bindP h p d ds with
      | some ds1 => (match b ds1 h with
        | .nx ds' h' => fl chk p b r ds' h'
        | .ct ds' h' => fl chk p b r ds' h'
        | .bk ds' h' => .nx ds' h'
        | o => o)
      | none => .bad) else .bad
def sFor (mi : SI) (p : Pt) (b : SS) : SS := fun ds h => sBd (mi ds h) ds fun it h1 => fl it.chk p b it.items ds h1
theorem PostO.if_ {K : PySem.W.Frag} {mg : Str → Option Value} {W : WX} {ω : Wo} {E : Ends} {c : Prop} [Decidable c] {o : O} (p : PostO K mg W ω E (if c then o else .bad)) : c ∧ PostO K mg W ω E o := by
  by_cases h : c
  · rw [if_pos h] at p; exact ⟨h, p⟩
  · rw [if_neg h] at p; exact False.elim p
theorem ds_for {X : Cx} {W : WX} {tg iter : Expr} {sts : List Stmt} {mi : SI} {p : Pt} {b : SS} {pos : Pos}
    (h : PS X (.For tg iter sts [] pos) (tFor (tI X W mi) (tP X.K p) (tS X W b))) : DS X W (.For tg iter sts [] pos) (sFor mi p b) := ds_of h fun E σ H ⟨ω, h, ds, e1, r, s, q⟩ => by
  subst e1
  refine ⟨ω, h, ds, rfl, r, s, PostO.bd r s q fun it h1 J ω1 ex1 r1 ok s1 p1 => ?_⟩
  refine ⟨fun i m σ' H' => ∃ ω2 h2 ds2, ω2.H = H' ∧ Ext ω1 ω2 ∧ Rel X.K ω2 h2 ∧ RelS X.K ω2 ds2 σ' ∧ m = (it.items.drop i).length ∧ PostO X.K X.mg W ω2 E (fl it.chk p b (it.items.drop i) ds2 h2), ⟨_, ω1, h1, ds, rfl, Ext.refl _, r1, s1, rfl, p1⟩, ?_⟩
  rintro i m σ' H' ⟨ω2, h2, ds2, rfl, e2, r2, s2, hm, p2⟩
  cases q1 : it.items.drop i with
  | nil =>
    rw [q1] at p2
    unfold fl at p2
    obtain ⟨hk, p2⟩ := p2.if_
    refine .inl ⟨(ok i ω2 h2 e2 r2 hk).2 ?_, p2 σ' ω2 (Ext.refl _) r2 s2⟩
    have : it.items.length ≤ i := List.drop_eq_nil_iff.mp q1
    exact List.getElem?_eq_none this
  | cons d rest =>
    rw [q1] at p2
    unfold fl at p2
    obtain ⟨hk, p2⟩ := p2.if_
    have hd : it.items[i]? = some d := by
      have := congrArg (fun l => l[0]?) q1
      simpa using this
    have hrest : it.items.drop (i + 1) = rest := by
      have := congrArg List.tail q1
      simpa using this
    obtain ⟨go, yl⟩ := (ok i ω2 h2 e2 r2 hk).1 d hd
    refine .inr ⟨go, fun σ3 H3 => ∃ ω3 h3 ds3, ω3.H = H3 ∧ Ext ω1 ω3 ∧ Rel X.K ω3 h3 ∧ RelS X.K ω3 ds3 σ3 ∧ PostO X.K X.mg W ω3 E (fl it.chk p b rest ds3 h3), fun σ3 H3 ⟨ω3, h3, ds3, a1, a2, a3, a4, a5⟩ => ⟨rest.length, by rw [hm, q1]; exact Nat.lt_succ_self _, ω3, h3, ds3, a1, a2, a3, a4, by rw [hrest], by rw [hrest]; exact a5⟩, fun x H' hy => ?_⟩
    obtain ⟨ω3, rfl, e3, r3, d3⟩ := yl x H' hy
    cases q2 : bindP h2 p d ds2 with
    | none => rw [q2] at p2; exact False.elim p2
    | some ds3 =>
      rw [q2] at p2
      refine ⟨ω3, h2, ds2, d, ds3, rfl, r3, monoS r2 e3 s2, d3, q2, fun σ4 s4 _ => ⟨ω3, h2, ds3, rfl, r3, s4, ?_⟩⟩
      have p3 := PostO.mono p2 e3
      cases q3 : b ds3 h2 with
      | nx ds' h' => simp only [q3] at p3; exact fun σ5 ω5 e5 r5 s5 => ⟨ω5, h', ds', rfl, (e2.trans e3).trans e5, r5, s5, PostO.mono (o := fl it.chk p b rest ds' h') p3 e5⟩
      | ct ds' h' => simp only [q3] at p3; exact fun σ5 ω5 e5 r5 s5 => ⟨ω5, h', ds', rfl, (e2.trans e3).trans e5, r5, s5, PostO.mono (o := fl it.chk p b rest ds' h') p3 e5⟩
      | bk ds' h' => simp only [q3] at p3; exact p3
      | rt d h' => simp only [q3] at p3; exact p3
      | ex x fs vs ds' h' => simp only [q3] at p3; exact p3
      | bad => simp only [q3] at p3; exact p3
/-! ### comprehensions -/
def R.nox {α : Type} : R α → R α
  | .ok a h => .ok a h
  | _ => .bad
@[simp] theorem R.nox_ok {α : Type} (a : α) (h : Hc) : (R.ok a h).nox = .ok a h := Eq.trans rfl rfl
def wipeD (ds : Sl) : List Nat → Sl
  | [] => ds
  | v :: vs => (wipeD ds vs).set v none
abbrev W0 : WX := fun _ _ _ _ => False
def lcR (chk : Hc → Bool) (p : Pt) (own : List Nat) (c : SB) (m : SE) (ds : Sl) : List D → List D → Hc → R (List D)
  | [], acc, h => if chk h = true then .ok acc h else .bad
  | d :: r, acc, h => if chk h = true then (match bindP h p d (wipeD ds own) with
      | some ds1 => (c ds1 h).nox.bd fun b h1 => if b = true then (m ds1 h1).nox.bd fun y h2 => if acc.length < lim then lcR chk p own c m ds r (acc ++ [y]) h2 else .bad else lcR chk p own c m ds r acc h1
      | none => .bad) else .bad
def eLc (mi : SI) (p : Pt) (own : List Nat) (c : SB) (m : SE) : SE := fun ds h => (mi ds h).bd fun it h1 => (lcR it.chk p own c m ds it.items [] h1).bd fun xs h2 => .ok (.lst xs) h2
def eLcC (mi : SI) (p : Pt) (own : List Nat) (c : SB) (m : SE) : SE := fun ds h => (mi ds h).bd fun it h1 => (lcR it.chk p own c m ds it.items [] h1).bd fun xs h2 => .ok (.ref h2.length) (h2 ++ [.lst xs])
section
variable {K : PySem.W.Frag} {ω ω' : Wo} {h h' : Hc} {ds : Sl} {σ : L2.St}
theorem RelS.wipe (s : RelS K ω ds σ) : ∀ own : List Nat, RelS K ω (wipeD ds own) (wipe σ own)
  | [] => s
  | v :: vs => by
    have ih := RelS.wipe s vs
    unfold wipeD L2.wipe
    refine ⟨by rw [List.length_set, List.length_set]; exact ih.1, fun j d hj => ?_⟩
    by_cases hv : v = j
    · subst hv
      have hl : v < (wipeD ds vs).length := by
        have := (List.getElem?_eq_some_iff.mp hj).1
        rw [List.length_set] at this; exact this
      rw [List.getElem?_set_self hl] at hj; cases hj
    · rw [List.getElem?_set_ne hv] at hj ⊢
      exact ih.2 j d hj
/-- the list at q, which is not read as data, grows -/
theorem hid (r : Rel K ω h) {q : Addr} {vs ws : List V} (hA : ω.A q) (hb : ∀ i, i < ω.n → ω.β i ≠ q) (hq : ω.H q = some (.lst vs)) :
    Rel K (ω.up q (.lst ws)) h ∧ (∀ d v, RelD K ω d v → RelD K (ω.up q (.lst ws)) d v) ∧ ∀ ds vs, RelL K ω ds vs → RelL K (ω.up q (.lst ws)) ds vs := by
  have stT : ∀ p vs', SqQ K ω.H p vs' → SqQ K (upd ω.H q (.lst ws)) p vs' := fun p vs' y => by
    have ne : ∀ o, ω.H p = some o → (∀ l, o ≠ .lst l) → p ≠ q := fun o z1 z2 e => by rw [e, hq] at z1; cases z1; exact z2 _ rfl
    exact y.map (fun x => by rw [upd_ne (ne _ x (by intro l z; cases z))]; exact x) fun o x => by rw [upd_ne (ne _ x (by intro l z; cases z))]; exact x
  have stR : ∀ p o, ω.H p = some o → ¬ ω.A p → (upd ω.H q (.lst ws)) p = some o := fun p o x n => by
    have ne : p ≠ q := fun e => n (e ▸ hA)
    rw [upd_ne ne]; exact x
  have stK : ∀ p vs', LkL K ω p vs' → LkL K (ω.up q (.lst ws)) p vs' := fun p vs' x => by
    rcases x with ⟨o, x⟩ | x
    · refine .inl ⟨o, ?_⟩
      show upd ω.H q (.lst ws) p = _
      rw [upd_ne (fun e => by rw [e, hq] at x; cases x)]; exact x
    · exact .inr x
  have key : (∀ d v, RelD K ω d v → RelD K (ω.up q (.lst ws)) d v) ∧ ∀ ds vs, RelL K ω ds vs → RelL K (ω.up q (.lst ws)) ds vs := by
    have aux := @D.rec (motive_1 := fun d => ∀ v, RelD K ω d v → RelD K (ω.up q (.lst ws)) d v) (motive_2 := fun ds => ∀ vs, RelL K ω ds vs → RelL K (ω.up q (.lst ws)) ds vs)
      (fun v x => by unfold RelD at x ⊢; exact x) (fun b v x => by unfold RelD at x ⊢; exact x) (fun i v x => by unfold RelD at x ⊢; exact x) (fun s v x => by unfold RelD at x ⊢; exact x)
      (fun ds ih v x => by unfold RelD at x ⊢; obtain ⟨p, vs', e1, e2, e3⟩ := x; exact ⟨p, vs', e1, stT p vs' e2, ih _ e3⟩)
      (fun ds ih v x => by unfold RelD at x ⊢; obtain ⟨p, vs', e1, ⟨e2, n⟩, e3⟩ := x; exact ⟨p, vs', e1, ⟨stR _ _ e2 n, n⟩, ih _ e3⟩)
      (fun ds ih v x => by unfold RelD at x ⊢; obtain ⟨p, vs', e1, e2, e3⟩ := x; exact ⟨p, vs', e1, stK _ _ e2, ih _ e3⟩)
      (fun ks ds ih v x => by unfold RelD at x ⊢; obtain ⟨p, vs', e1, ⟨e2, n⟩, e3, e4⟩ := x; exact ⟨p, vs', e1, ⟨stR _ _ e2 n, n⟩, e3, ih _ e4⟩)
      (fun i v x => by unfold RelD at x ⊢; exact x) (fun t v x => by unfold RelD at x ⊢; exact x)
      (fun vs x => by unfold RelL at x ⊢; exact x)
      (fun d ds ih1 ih2 vs x => by unfold RelL at x ⊢; obtain ⟨v, ws', e1, e2, e3⟩ := x; exact ⟨v, ws', e1, ih1 _ e2, ih2 _ e3⟩)
    refine ⟨aux, fun ds => ?_⟩
    induction ds with
    | nil => intro vs x; unfold RelL at x ⊢; exact x
    | cons d ds ih => intro vs x; obtain ⟨v, ws', rfl, e2, e3⟩ := x.inv; exact RelL.cons (aux d v e2) (ih _ e3)
  refine ⟨⟨r.n, r.inj, r.inA, fun p hp z => ?_, fun i c hi => ?_, tabs_keep r.tabs fun b u e nm => by
    show upd ω.H q (.lst ws) b = some u
    rw [upd_ne (fun z => nm (by rw [z, hq] at e; cases e; exact trivial))]; exact e⟩, key.1, key.2⟩
  · have z' : upd ω.H q (.lst ws) p = none := z
    by_cases e : p = q
    · rw [e, upd_same] at z'; cases z'
    · rw [upd_ne e] at z'; exact r.sub p hp z'
  · have hl : i < ω.n := by rw [r.n]; exact (List.getElem?_eq_some_iff.mp hi).1
    have x := r.cel i c hi
    show RelC K (ω.up q (.lst ws)) (ω.β i) c
    cases c with
    | lst xs => obtain ⟨vs', e1, e2⟩ := x; exact ⟨vs', (upd_ne (hb i hl)).trans e1, key.2 _ _ e2⟩
    | dct ks xs => obtain ⟨vs', e1, e3, e2⟩ := x; exact ⟨vs', (upd_ne (hb i hl)).trans e1, e3, key.2 _ _ e2⟩
    | dtt ks xs => obtain ⟨vs', e1, e3, e2⟩ := x; exact ⟨vs', (upd_ne (hb i hl)).trans e1, e3, key.2 _ _ e2⟩
    | obj cls fs xs => obtain ⟨vs', ⟨cx, dx, e0, e1⟩, e3, e2⟩ := x; exact ⟨vs', ⟨cx, dx, e0, (upd_ne (hb i hl)).trans e1⟩, e3, key.2 _ _ e2⟩
    | rng lo hi => exact (upd_ne (hb i hl)).trans x
    | lkd ks xs => obtain ⟨vs', ⟨o, e1⟩, e3, e2⟩ := x; exact ⟨vs', ⟨o, (upd_ne (hb i hl)).trans e1⟩, e3, key.2 _ _ e2⟩
    | lkt ks xs => obtain ⟨vs', ⟨o, e1⟩, e3, e2⟩ := x; exact ⟨vs', ⟨o, (upd_ne (hb i hl)).trans e1⟩, e3, key.2 _ _ e2⟩
/-- fewer addresses may change -/
theorem shrink {B : Addr → Prop} (r : Rel K ω h) (hB : ∀ q, B q → ω.A q) (hc : ∀ i, i < ω.n → B (ω.β i)) :
    Rel K { ω with A := B } h ∧ (∀ d v, RelD K ω d v → RelD K { ω with A := B } d v) ∧ ∀ ds vs, RelL K ω ds vs → RelL K { ω with A := B } ds vs := by
  have key : (∀ d v, RelD K ω d v → RelD K { ω with A := B } d v) ∧ ∀ ds vs, RelL K ω ds vs → RelL K { ω with A := B } ds vs := by
    have aux := @D.rec (motive_1 := fun d => ∀ v, RelD K ω d v → RelD K { ω with A := B } d v) (motive_2 := fun ds => ∀ vs, RelL K ω ds vs → RelL K { ω with A := B } ds vs)
      (fun v x => by unfold RelD at x ⊢; exact x) (fun b v x => by unfold RelD at x ⊢; exact x) (fun i v x => by unfold RelD at x ⊢; exact x) (fun s v x => by unfold RelD at x ⊢; exact x)
      (fun ds ih v x => by unfold RelD at x ⊢; obtain ⟨p, vs', e1, e2, e3⟩ := x; exact ⟨p, vs', e1, e2, ih _ e3⟩)
      (fun ds ih v x => by unfold RelD at x ⊢; obtain ⟨p, vs', e1, ⟨e2, n⟩, e3⟩ := x; exact ⟨p, vs', e1, ⟨e2, fun z => n (hB _ z)⟩, ih _ e3⟩)
      (fun ds ih v x => by unfold RelD at x ⊢; obtain ⟨p, vs', e1, e2, e3⟩ := x; exact ⟨p, vs', e1, e2, ih _ e3⟩)
      (fun ks ds ih v x => by unfold RelD at x ⊢; obtain ⟨p, vs', e1, ⟨e2, n⟩, e3, e4⟩ := x; exact ⟨p, vs', e1, ⟨e2, fun z => n (hB _ z)⟩, e3, ih _ e4⟩)
      (fun i v x => by unfold RelD at x ⊢; exact x) (fun t v x => by unfold RelD at x ⊢; exact x)
      (fun vs x => by unfold RelL at x ⊢; exact x)
      (fun d ds ih1 ih2 vs x => by unfold RelL at x ⊢; obtain ⟨v, ws', e1, e2, e3⟩ := x; exact ⟨v, ws', e1, ih1 _ e2, ih2 _ e3⟩)
    refine ⟨aux, fun ds => ?_⟩
    induction ds with
    | nil => intro vs x; unfold RelL at x ⊢; exact x
    | cons d ds ih => intro vs x; obtain ⟨v, ws', rfl, e2, e3⟩ := x.inv; exact RelL.cons (aux d v e2) (ih _ e3)
  refine ⟨⟨r.n, r.inj, hc, fun p hp => r.sub p (hB p hp), fun i c hi => ?_, r.tabs⟩, key.1, key.2⟩
  have x := r.cel i c hi
  cases c with
  | lst xs => obtain ⟨vs', e1, e2⟩ := x; exact ⟨vs', e1, key.2 _ _ e2⟩
  | dct ks xs => obtain ⟨vs', e1, e3, e2⟩ := x; exact ⟨vs', e1, e3, key.2 _ _ e2⟩
  | dtt ks xs => obtain ⟨vs', e1, e3, e2⟩ := x; exact ⟨vs', e1, e3, key.2 _ _ e2⟩
  | obj cls fs xs => obtain ⟨vs', ⟨cx, dx, e0, e1⟩, e3, e2⟩ := x; exact ⟨vs', ⟨cx, dx, e0, e1⟩, e3, key.2 _ _ e2⟩
  | rng lo hi => exact x
  | lkd ks xs => obtain ⟨vs', ⟨o, e1⟩, e3, e2⟩ := x; exact ⟨vs', ⟨o, e1⟩, e3, key.2 _ _ e2⟩
  | lkt ks xs => obtain ⟨vs', ⟨o, e1⟩, e3, e2⟩ := x; exact ⟨vs', ⟨o, e1⟩, e3, key.2 _ _ e2⟩
end
theorem Post.if_ {α β : Type} {K : PySem.W.Frag} {mg : Str → Option Value} {W : WX} {σ : L2.St} {ω : Wo} {rel : Wo → α → β → Prop} {Q : β → Hp → Prop} {c : Prop} [Decidable c] {o : R α} (p : Post K mg W σ ω rel Q (if c then o else .bad)) : c ∧ Post K mg W σ ω rel Q o := by
  by_cases h : c
  · rw [if_pos h] at p; exact ⟨h, p⟩
  · rw [if_neg h] at p; exact False.elim p
theorem wipe_wipe {σ : L2.St} : ∀ ws : List Nat, wipe (wipe σ ws) ws = wipe σ ws
  | [] => rfl
  | v :: vs => by
    have ih := wipe_wipe (σ := σ) vs
    show (wipe ((wipe σ vs).set v none) vs).set v none = (wipe σ vs).set v none
    by_cases h : v ∈ vs
    · rw [wipe_set_in h, ih]
    · rw [wipe_set_out h, ih, List.set_set]
/-- the world without q -/
def Wo.drop (ω : Wo) (q : Addr) : Wo := { ω with A := fun a => ω.A a ∧ a ≠ q, H := fun a => if a = q then none else ω.H a }
theorem Wo.drop_ne {ω : Wo} {q a : Addr} (h : a ≠ q) : (ω.drop q).H a = ω.H a := if_neg h
theorem Wo.drop_eq {ω : Wo} {q : Addr} : (ω.drop q).H q = none := if_pos rfl
theorem Wo.drop_up {ω : Wo} {q : Addr} {o : HO} : (ω.up q o).drop q = ω.drop q := by
  unfold Wo.drop Wo.up
  congr 1
  funext a
  by_cases h : a = q
  · rw [if_pos h, if_pos h]
  · rw [if_neg h, if_neg h]; exact upd_ne h
theorem Ext.drop {ω ω' : Wo} (e : Ext ω ω') (q : Addr) : Ext (ω.drop q) (ω'.drop q) where
  n := e.n
  b := e.b
  a := fun a h => ⟨e.a a h.1, h.2⟩
  aN := fun a h => by
    rcases e.aN a h.1 with z | z
    · exact .inl ⟨z, h.2⟩
    · exact .inr (by rw [Wo.drop_ne h.2]; exact z)
  nw := fun i h1 h2 => by
    have z := e.nw i h1 h2
    show (if _ then _ else _) = _
    split
    · rfl
    · exact z
  dom := fun a h => by
    by_cases ha : a = q
    · rw [ha]; exact Wo.drop_eq
    · rw [Wo.drop_ne ha] at h ⊢; exact e.dom a h
  keep := fun a o h nt hb => by
    by_cases ha : a = q
    · rw [ha, Wo.drop_eq] at h; cases h
    · rw [Wo.drop_ne ha] at h ⊢; exact e.keep a o h nt hb
/-- into a block, q being the list that is made: nothing is raised there -/
theorem Post.into {α β α' β' : Type} {K : PySem.W.Frag} {mg : Str → Option Value} {W : WX} {σ σ' : L2.St} {ω : Wo} {rel : Wo → α → β → Prop} {Q : β → Hp → Prop} {rel' : Wo → α' → β' → Prop} {Q' : β' → Hp → Prop} {r : R α} {f : α → Hc → R α'} {q : Addr}
    (hp : Post K mg W σ (ω.drop q) rel' Q' (r.nox.bd f)) (hq : ∀ a h b ω', Ext ω ω' → Rel K ω' h → rel ω' a b → Post K mg W σ (ω'.drop q) rel' Q' (f a h) → Q b ω'.H) : Post K mg W0 σ' ω rel Q r := by
  cases r with
  | ok a h => exact fun b ω' e r1 ra => hq a h b ω' e r1 ra (Post.mono (r := f a h) hp (e.drop q))
  | ex x fs ds h => exact False.elim hp
  | bad => exact False.elim hp
theorem bd_bd {α β γ : Type} (r : R α) (f : α → Hc → R β) (g : β → Hc → R γ) : (r.bd f).bd g = r.bd fun a h => (f a h).bd g := by cases r <;> rfl
section
variable {X : Cx} {W : WX} {tg iter elt : Expr} {ifs : List Expr} {mi : SI} {p : Pt} {own : List Nat} {c : SB} {m : SE} {scope : Scope} {pos : Pos}
/-- the comprehension's list is made; fin: what is done with it -/
theorem lcW {fin : List D → Hc → R D} (ho : ∀ i ∈ p.slots, i ∈ own)
    (hfin : ∀ (σ : L2.St) (ω : Wo) (h : Hc) (q : Addr) (xs : List D) (vs : List V) (Q : VK), Rel X.K ω h → ω.H q = some (.lst vs) → ω.A q → (∀ i, i < ω.n → ω.β i ≠ q) → RelL X.K ω xs vs →
      Post X.K X.mg W σ (ω.drop q) (RelD X.K) Q (fin xs h) → Q (.ref q) ω.H) :
    ∀ σ H Q, tE X W (fun ds h => (mi ds h).bd fun it h1 => (lcR it.chk p own c m ds it.items [] h1).bd fin) σ H Q → tLc (tI X W mi) (tP X.K p) (tT X W0 c) (tE X W0 m) own σ H Q := fun σ H Q ⟨ω, h, ds, e1, r, s, q⟩ => by
  subst e1
  refine ⟨ω, h, ds, rfl, r, s, q.bd fun it h1 J ω1 ex1 r1 ok p1 => ?_⟩
  intro Da hD
  have s1 := monoS r ex1 s
  have e0 : Ext ω1 { ω1 with A := fun q => ω1.A q ∨ q = Da, H := upd ω1.H Da (.lst []) } := by
    refine ⟨Nat.le_refl _, fun _ _ => rfl, fun _ z => .inl z, fun q z => ?_, fun i a b => absurd b (Nat.not_lt.mpr a), (Ext.up (o := .lst []) hD).dom, (Ext.up (o := .lst []) hD).keep⟩
    rcases z with z | z
    · exact .inl z
    · exact .inr (by rw [z]; exact hD)
  have nD : ∀ j, j < ω1.n → ω1.β j ≠ Da := fun j hj z => by
    obtain ⟨u, e, _⟩ := r1.mut hj
    rw [z, hD] at e; cases e
  refine ⟨fun i k H' => ∃ ω2 h2 acc vs, ω2.H = H' ∧ Ext ω1 ω2 ∧ Rel X.K ω2 h2 ∧ ω2.A Da ∧ (∀ j, j < ω2.n → ω2.β j ≠ Da) ∧ ω2.H Da = some (.lst vs) ∧ RelL X.K ω2 acc vs ∧ k = (it.items.drop i).length ∧
      Post X.K X.mg W σ (ω2.drop Da) (RelD X.K) Q ((lcR it.chk p own c m ds (it.items.drop i) acc h2).bd fin), ⟨_, { ω1 with A := fun q => ω1.A q ∨ q = Da, H := upd ω1.H Da (.lst []) }, h1, [], [], rfl, e0, ?_, .inr rfl, nD, upd_same, RelL.nil, rfl, ?_⟩, ?_⟩
  · refine r1.ext1 e0 rfl (fun q z w => ?_) (fun i hi => upd_ne (nD i hi)) (tabs_keep r1.tabs fun b u e _ => by
      show upd ω1.H Da (.lst []) b = some u
      rw [upd_ne (ne_of_none e hD)]; exact e)
    have w' : upd ω1.H Da (.lst []) q = none := w
    by_cases e : q = Da
    · rw [e, upd_same] at w'; cases w'
    · rw [upd_ne e] at w'
      rcases z with z | z
      · exact r1.sub q z w'
      · exact e z
  · refine Post.mono (r := (lcR it.chk p own c m ds it.items [] h1).bd fin) p1 ⟨Nat.le_refl _, fun _ _ => rfl, fun a ha => ⟨.inl ha, fun z => r1.free hD (z ▸ ha)⟩, fun a ha => ?_, fun i a b => absurd b (Nat.not_lt.mpr a), fun a ha => ?_, fun a o ha _ _ => ?_⟩
    · rcases ha.1 with z | z
      · exact .inl z
      · exact absurd z ha.2
    · by_cases z : a = Da
      · rw [z]; exact hD
      · rw [Wo.drop_ne z] at ha
        have ha' : upd ω1.H Da (.lst []) a = none := ha
        rw [upd_ne z] at ha'; exact ha'
    · have z := ne_of_none ha hD
      rw [Wo.drop_ne z]
      show upd ω1.H Da (.lst []) a = some o
      rw [upd_ne z]; exact ha
  · rintro i k H' ⟨ω2, h2, acc, vs, rfl, e2, r2, aD, bD, hDa, rl, hk, p2⟩
    cases q1 : it.items.drop i with
    | nil =>
      rw [q1] at p2
      unfold lcR at p2
      by_cases hck : it.chk h2 = true
      · rw [if_pos hck] at p2
        refine .inl ⟨(ok i ω2 h2 e2 r2 hck).2 (List.getElem?_eq_none (List.drop_eq_nil_iff.mp q1)), ?_⟩
        exact hfin σ ω2 h2 Da acc vs Q r2 hDa aD bD rl p2
      · rw [if_neg hck] at p2; exact False.elim p2
    | cons d rest =>
      rw [q1] at p2
      unfold lcR at p2
      by_cases hck : it.chk h2 = true
      · rw [if_pos hck] at p2
        have hd : it.items[i]? = some d := by
          have := congrArg (fun l => l[0]?) q1
          simpa using this
        have hrest : it.items.drop (i + 1) = rest := by
          have := congrArg List.tail q1
          simpa using this
        obtain ⟨go, yl⟩ := (ok i ω2 h2 e2 r2 hck).1 d hd
        refine .inr ⟨go, fun H3 => ∃ ω3 h3 acc vs, ω3.H = H3 ∧ Ext ω1 ω3 ∧ Rel X.K ω3 h3 ∧ ω3.A Da ∧ (∀ j, j < ω3.n → ω3.β j ≠ Da) ∧ ω3.H Da = some (.lst vs) ∧ RelL X.K ω3 acc vs ∧ Post X.K X.mg W σ (ω3.drop Da) (RelD X.K) Q ((lcR it.chk p own c m ds rest acc h3).bd fin),
          fun H3 ⟨ω3, h3, acc', vs', a1, a2, a3, a4, a5, a6, a7, a8⟩ => ⟨rest.length, by rw [hk, q1]; exact Nat.lt_succ_self _, ω3, h3, acc', vs', a1, a2, a3, a4, a5, a6, a7, by rw [hrest], by rw [hrest]; exact a8⟩, fun x H' hy => ?_⟩
        obtain ⟨ω3, rfl, e3, r3, d3⟩ := yl x H' hy
        cases q2 : bindP h2 p d (wipeD ds own) with
        | none => rw [q2] at p2; exact False.elim p2
        | some ds3 =>
          rw [q2] at p2
          have st : ∀ {ω4 : Wo}, Ext ω2 ω4 → ω4.A Da ∧ (∀ j, j < ω4.n → ω4.β j ≠ Da) ∧ ω4.H Da = some (.lst vs) := fun {ω4} e4 => by
            refine ⟨e4.a _ aD, fun j hj z => ?_, e4.keep _ _ hDa (by intro _ z; cases z) (.inl fun j hj => bD j hj)⟩
            by_cases hj2 : j < ω2.n
            · rw [e4.b j hj2] at z; exact bD j hj2 z
            · have := e4.nw j (Nat.not_lt.mp hj2) hj
              rw [z, hDa] at this; cases this
          refine ⟨ω3, h2, wipeD ds own, d, ds3, rfl, r3, monoS r2 e3 (monoS r1 e2 s1 |>.wipe own), d3, q2, fun σ4 s4 hw => ⟨(hw own ho).trans (wipe_wipe own), ω3, h2, ds3, rfl, r3, s4, ?_⟩⟩
          have p3 := Post.mono p2 (e3.drop Da)
          simp only at p3
          rw [bd_bd] at p3
          refine Post.into p3 fun b h4 b' ω4 e4 r4 hb p4 => ?_
          have hb' : b = b' := hb
          subst hb'
          obtain ⟨aD4, bD4, hD4⟩ := st (e3.trans e4)
          cases b with
          | false => exact ⟨ω4, h4, acc, vs, rfl, (e2.trans e3).trans e4, r4, aD4, bD4, hD4, monoL r2 (e3.trans e4) _ _ rl, p4⟩
          | true =>
            rw [if_pos rfl] at p4 ⊢
            rw [bd_bd] at p4
            refine ⟨ω4, h4, ds3, rfl, r4, monoS r3 e4 s4, Post.into p4 fun y h5 v ω5 e5 r5 hy p5 => ?_⟩
            obtain ⟨aD5, bD5, hD5⟩ := st ((e3.trans e4).trans e5)
            have rl5 := monoL r2 ((e3.trans e4).trans e5) _ _ rl
            by_cases hl : acc.length < lim
            · rw [if_pos hl] at p5
              obtain ⟨k1, k2, k3⟩ := hid (ws := vs ++ [v]) r5 aD5 bD5 hD5
              refine ⟨vs, hD5, by rw [← rl5.len]; exact lim_lt hl, ω5.up Da (.lst (vs ++ [v])), h5, acc ++ [y], vs ++ [v], rfl, ?_, k1, aD5, bD5, upd_same, k3 _ _ (rl5.append (RelL.cons hy RelL.nil)), by rw [Wo.drop_up]; exact p5⟩
              have e15 := ((e2.trans e3).trans e4).trans e5
              refine ⟨e15.n, e15.b, e15.a, e15.aN, e15.nw, fun a ha => ?_, fun a o ha nt hb => ?_⟩
              · have ha' : upd ω5.H Da (.lst (vs ++ [v])) a = none := ha
                by_cases z : a = Da
                · rw [z, upd_same] at ha'; cases ha'
                · rw [upd_ne z] at ha'; exact e15.dom a ha'
              · have z := ne_of_none ha hD
                show upd ω5.H Da (.lst (vs ++ [v])) a = some o
                rw [upd_ne z]; exact e15.keep a o ha nt hb
            · rw [if_neg hl] at p5; exact False.elim p5
      · rw [if_neg hck] at p2; exact False.elim p2
theorem lc_fz (σ : L2.St) (ω : Wo) (h : Hc) (q : Addr) (xs : List D) (vs : List V) (Q : VK) (r : Rel X.K ω h) (hq : ω.H q = some (.lst vs)) (aq : ω.A q) (bq : ∀ i, i < ω.n → ω.β i ≠ q) (rl : RelL X.K ω xs vs)
    (p : Post X.K X.mg W σ (ω.drop q) (RelD X.K) Q (.ok (.lst xs) h)) : Q (.ref q) ω.H := by
  obtain ⟨k1, k2, k3⟩ := shrink (B := fun a => ω.A a ∧ a ≠ q) r (fun _ z => z.1) fun i hi => ⟨r.inA i hi, bq i hi⟩
  refine p (.ref q) { ω with A := fun a => ω.A a ∧ a ≠ q } ⟨Nat.le_refl _, fun _ _ => rfl, fun _ z => z, fun _ z => .inl z, fun i a b => absurd b (Nat.not_lt.mpr a), fun a ha => ?_, fun a o ha _ _ => ?_⟩ k1 ?_
  · by_cases z : a = q
    · rw [z]; exact Wo.drop_eq
    · rw [Wo.drop_ne z]; exact ha
  · by_cases z : a = q
    · rw [z, Wo.drop_eq] at ha; cases ha
    · rw [Wo.drop_ne z] at ha; exact ha
  · unfold RelD
    exact ⟨q, vs, rfl, ⟨hq, fun z => z.2 rfl⟩, k3 _ _ rl⟩
theorem lc_cell (σ : L2.St) (ω : Wo) (h : Hc) (q : Addr) (xs : List D) (vs : List V) (Q : VK) (r : Rel X.K ω h) (hq : ω.H q = some (.lst vs)) (aq : ω.A q) (bq : ∀ i, i < ω.n → ω.β i ≠ q) (rl : RelL X.K ω xs vs)
    (p : Post X.K X.mg W σ (ω.drop q) (RelD X.K) Q (.ok (.ref h.length) (h ++ [.lst xs]))) : Q (.ref q) ω.H := by
  have e1 : Ext ω ⟨ω.A, fun i => if i = ω.n then q else ω.β i, ω.n + 1, ω.H⟩ ∨ True := .inr trivial
  -- the data keep their meaning when one more cell is counted
  have key : (∀ d v, RelD X.K ω d v → RelD X.K ⟨ω.A, fun i => if i = ω.n then q else ω.β i, ω.n + 1, ω.H⟩ d v) ∧ ∀ ds vs, RelL X.K ω ds vs → RelL X.K ⟨ω.A, fun i => if i = ω.n then q else ω.β i, ω.n + 1, ω.H⟩ ds vs := by
    have aux := @D.rec (motive_1 := fun d => ∀ v, RelD X.K ω d v → RelD X.K ⟨ω.A, fun i => if i = ω.n then q else ω.β i, ω.n + 1, ω.H⟩ d v) (motive_2 := fun ds => ∀ vs, RelL X.K ω ds vs → RelL X.K ⟨ω.A, fun i => if i = ω.n then q else ω.β i, ω.n + 1, ω.H⟩ ds vs)
      (fun v x => by unfold RelD at x ⊢; exact x) (fun b v x => by unfold RelD at x ⊢; exact x) (fun i v x => by unfold RelD at x ⊢; exact x) (fun s v x => by unfold RelD at x ⊢; exact x)
      (fun ds ih v x => by unfold RelD at x ⊢; obtain ⟨p, vs', e1, e2, e3⟩ := x; exact ⟨p, vs', e1, e2, ih _ e3⟩)
      (fun ds ih v x => by unfold RelD at x ⊢; obtain ⟨p, vs', e1, e2, e3⟩ := x; exact ⟨p, vs', e1, e2, ih _ e3⟩)
      (fun ds ih v x => by unfold RelD at x ⊢; obtain ⟨p, vs', e1, e2, e3⟩ := x; exact ⟨p, vs', e1, e2, ih _ e3⟩)
      (fun ks ds ih v x => by unfold RelD at x ⊢; obtain ⟨p, vs', e1, e2, e3, e4⟩ := x; exact ⟨p, vs', e1, e2, e3, ih _ e4⟩)
      (fun i v x => by unfold RelD at x ⊢; exact ⟨Nat.lt_succ_of_lt x.1, by rw [x.2]; show _ = V.ref (if i = ω.n then q else ω.β i); rw [if_neg (Nat.ne_of_lt x.1)]⟩) (fun t v x => by unfold RelD at x ⊢; exact x)
      (fun vs x => by unfold RelL at x ⊢; exact x)
      (fun d ds ih1 ih2 vs x => by unfold RelL at x ⊢; obtain ⟨v, ws', e1, e2, e3⟩ := x; exact ⟨v, ws', e1, ih1 _ e2, ih2 _ e3⟩)
    refine ⟨aux, fun ds => ?_⟩
    induction ds with
    | nil => intro vs x; unfold RelL at x ⊢; exact x
    | cons d ds ih => intro vs x; obtain ⟨v, ws', rfl, e2, e3⟩ := x.inv; exact RelL.cons (aux d v e2) (ih _ e3)
  refine p (.ref q) ⟨ω.A, fun i => if i = ω.n then q else ω.β i, ω.n + 1, ω.H⟩ ⟨Nat.le_succ _, fun i hi => if_neg (Nat.ne_of_lt hi), fun _ z => z.1, fun a z => ?_, fun i a b => ?_, fun a ha => ?_, fun a o ha _ _ => ?_⟩ ⟨?_, fun i j hi hj z => ?_, fun i hi => ?_, r.sub, fun i c hi => ?_, r.tabs⟩ ?_
  · by_cases e : a = q
    · exact .inr (by rw [e]; exact Wo.drop_eq)
    · exact .inl ⟨z, e⟩
  · have b' : i < ω.n + 1 := b
    have a' : ω.n ≤ i := a
    show (ω.drop q).H (if i = ω.n then q else ω.β i) = none
    rw [if_pos (by omega)]; exact Wo.drop_eq
  · by_cases z : a = q
    · rw [z]; exact Wo.drop_eq
    · rw [Wo.drop_ne z]; exact ha
  · by_cases z : a = q
    · rw [z, Wo.drop_eq] at ha; cases ha
    · rw [Wo.drop_ne z] at ha; exact ha
  · rw [List.length_append, ← r.n]; rfl
  · have hi' : i < ω.n + 1 := hi
    have hj' : j < ω.n + 1 := hj
    have z' : (if i = ω.n then q else ω.β i) = (if j = ω.n then q else ω.β j) := z
    by_cases e1 : i = ω.n
    · by_cases e2 : j = ω.n
      · omega
      · rw [if_pos e1, if_neg e2] at z'
        exact absurd z'.symm (bq j (by omega))
    · by_cases e2 : j = ω.n
      · rw [if_neg e1, if_pos e2] at z'
        exact absurd z' (bq i (by omega))
      · rw [if_neg e1, if_neg e2] at z'
        exact r.inj i j (by omega) (by omega) z'
  · have hi' : i < ω.n + 1 := hi
    show ω.A (if i = ω.n then q else ω.β i)
    by_cases e1 : i = ω.n
    · rw [if_pos e1]; exact aq
    · rw [if_neg e1]; exact r.inA i (by omega)
  · show RelC X.K _ (if i = ω.n then q else ω.β i) c
    by_cases e1 : i = ω.n
    · have e2 : i = h.length := e1.trans r.n
      rw [List.getElem?_append_right (by omega), e2, Nat.sub_self] at hi
      have e3 : C.lst xs = c := by simpa using hi
      subst e3
      rw [if_pos e1]
      exact ⟨vs, hq, key.2 _ _ rl⟩
    · have hlt : i < ω.n := by
        have := (List.getElem?_eq_some_iff.mp hi).1
        rw [List.length_append, ← r.n] at this
        simp at this; omega
      rw [List.getElem?_append_left (by rw [← r.n]; exact hlt)] at hi
      rw [if_neg e1]
      have x := r.cel i c hi
      cases c with
      | lst ys => obtain ⟨vs', e1, e2⟩ := x; exact ⟨vs', e1, key.2 _ _ e2⟩
      | dct ks ys => obtain ⟨vs', e1, e3, e2⟩ := x; exact ⟨vs', e1, e3, key.2 _ _ e2⟩
      | dtt ks ys => obtain ⟨vs', e1, e3, e2⟩ := x; exact ⟨vs', e1, e3, key.2 _ _ e2⟩
      | obj cls fs ys => obtain ⟨vs', ⟨cx, dx, e0, e1⟩, e3, e2⟩ := x; exact ⟨vs', ⟨cx, dx, e0, e1⟩, e3, key.2 _ _ e2⟩
      | rng lo hi => exact x
      | lkd ks xs => obtain ⟨vs', ⟨o, e1⟩, e3, e2⟩ := x; exact ⟨vs', ⟨o, e1⟩, e3, key.2 _ _ e2⟩
      | lkt ks xs => obtain ⟨vs', ⟨o, e1⟩, e3, e2⟩ := x; exact ⟨vs', ⟨o, e1⟩, e3, key.2 _ _ e2⟩
  · unfold RelD
    rw [← r.n]
    exact ⟨Nat.lt_succ_self _, by show _ = V.ref (if ω.n = ω.n then q else _); rw [if_pos rfl]⟩
theorem de_lc (ho : ∀ i ∈ p.slots, i ∈ own) (h : PE X (.ListComp elt [⟨tg, iter, ifs, 0⟩] scope pos) (tLc (tI X W mi) (tP X.K p) (tT X W0 c) (tE X W0 m) own)) : DE X W (.ListComp elt [⟨tg, iter, ifs, 0⟩] scope pos) (eLc mi p own c m) :=
  de_of h (lcW (fin := fun xs h => .ok (.lst xs) h) ho lc_fz)
theorem de_lcC (ho : ∀ i ∈ p.slots, i ∈ own) (h : PE X (.ListComp elt [⟨tg, iter, ifs, 0⟩] scope pos) (tLc (tI X W mi) (tP X.K p) (tT X W0 c) (tE X W0 m) own)) : DE X W (.ListComp elt [⟨tg, iter, ifs, 0⟩] scope pos) (eLcC mi p own c m) :=
  de_of h (lcW (fin := fun xs h => .ok (.ref h.length) (h ++ [.lst xs])) ho lc_cell)
end
end Mp
/-! LayD: calls and defs. -/
namespace Mp
open PySem PySem.Spec PyProof.Rows L2
mutual
/-- no cell within -/
def flat : D → Bool
  | .ref _ => false
  | .tup ds => flatL ds
  | .lst ds => flatL ds
  | .scr ds => flatL ds
  | .dct _ ds => flatL ds
  | _ => true
def flatL : List D → Bool
  | [] => true
  | d :: ds => flat d && flatL ds
end
def flatC : C → Bool
  | .lst ds => flatL ds
  | .dct _ ds => flatL ds
  | .dtt _ ds => flatL ds
  | .obj _ _ ds => flatL ds
  | .rng _ _ => true
  | .lkd _ ds => flatL ds
  | .lkt _ ds => flatL ds
abbrev Fn := List D → Hc → R D
/-- a def's promise -/
def spD (K : PySem.W.Frag) (mg : Str → Option Value) (np : Nat) (m : Fn) : Sp := fun vs H Q E =>
  vs.length = np ∧ ∃ ω h ds, ω.H = H ∧ Rel K ω h ∧ RelL K ω ds vs ∧ Post K mg (fun c d _ H' => E c d H') ([] : L2.St) ω (RelD K) Q (m ds h)
/-! ### a def's body -/
def runB (n : Nat) (m : SS) : Fn := fun as h => match m (as.map some ++ List.replicate (n - as.length) none) h with
  | .nx _ h' => .ok .non h'
  | .rt d h' => .ok d h'
  | .ex x fs vs _ h' => .ex x fs vs h'
  | _ => .bad
abbrev WF (E : XK) : WX := fun c d _ H => E c d H
theorem RelL.slots {K : PySem.W.Frag} {ω : Wo} : ∀ {ds : List D} {vs : List V} {n : Nat}, RelL K ω ds vs → RelS K ω (ds.map some ++ List.replicate n none) (vs.map some ++ List.replicate n none)
  | [], vs, n, x => by
    rw [x.inv0]
    refine ⟨by simp, fun i d hi => ?_⟩
    simp [List.getElem?_replicate] at hi
  | d :: ds, vs, n, x => by
    obtain ⟨v, ws, rfl, e2, e3⟩ := x.inv
    have ih := RelL.slots (n := n) e3
    refine ⟨by simpa using ih.1, fun i d' hi => ?_⟩
    cases i with
    | zero =>
      have : d = d' := by simpa using hi
      subst this
      exact ⟨v, rfl, e2⟩
    | succ i => exact ih.2 i d' (by simpa using hi)
section
variable {P : Program} {w : World} {K : PySem.W.Frag} {mg : Str → Option Value} {base : Heap}
theorem fn_ok {x qual : Str} {st : Stmt} {f : Addr} {fd : FuncData} {N ps : List Str} {k : Nat} {m : SS} (F : Fun K x qual st f fd) (S : FnScope N ps (defScope st))
    (hb : ∀ (cdv : Value) (A : Around) (outer : List Env) (s : Shared) (H : Hp) (E : XK), Room k (A.deeper (envOfC qual (defScope st) s.heap.objs.size f cdv)) →
      DSs (cxOf (L2.CX P w) P w K mg base N qual (defScope st) f cdv A outer s H E) (WF E) (defBody st) m) :
    FnOk P w K mg base (L2.CX P w) (k + 1) f fd ps (spD K mg ps.length (runB N.length m)) :=
  F.okX S (fun vs H Q E h => h.1) fun cdv A outer s H vs Q E hr h => by
    refine ⟨_, hb cdv A outer s H E hr, ?_⟩
    obtain ⟨hl, ω, h, ds, e1, r, rl, p⟩ := h
    subst e1
    have e2 : N.length - ds.length = N.length - vs.length := by rw [rl.len]
    refine ⟨ω, h, ds.map some ++ List.replicate (N.length - ds.length) none, rfl, r, by rw [e2]; exact rl.slots, ?_⟩
    unfold runB at p
    cases q : m (ds.map some ++ List.replicate (N.length - ds.length) none) h with
    | nx ds' h' => rw [q] at p; exact fun σ' ω' e r' s' => p _ ω' e r' (by unfold RelD; rfl)
    | rt d h' => rw [q] at p; exact fun v ω' e r' s' => p _ ω' e r' s'
    | bk ds' h' => rw [q] at p; exact False.elim p
    | ct ds' h' => rw [q] at p; exact False.elim p
    | ex x fs vs' ds' h' => rw [q] at p; exact fun c d σ' ω' e r' s' rx => p c d ω' e r' rx
    | bad => rw [q] at p; exact False.elim p
end
/-! ### a call over the caller's cells -/
def eCallG (m : Fn) (as : SA) : SE := fun ds h => (as ds h).bd fun xs h1 => m xs h1
/-! ### a call: the callee sees the cells that are passed, no others -/
def refsOf : List D → List Nat
  | [] => []
  | .ref i :: r => let l := refsOf r; if i ∈ l then l else i :: l
  | _ :: r => refsOf r
def renD (rs : List Nat) : D → Option D
  | .ref i => (rs.findIdx? (· == i)).map .ref
  | d => if flat d = true then some d else none
def renL (rs : List Nat) : List D → Option (List D)
  | [] => some []
  | d :: ds => match renD rs d, renL rs ds with
    | some e, some es => some (e :: es)
    | _, _ => none
def cellsAt (h : Hc) : List Nat → Option (List C)
  | [] => some []
  | i :: r => match h[i]?, cellsAt h r with
    | some c, some cs => some (c :: cs)
    | _, _ => none
/-- what is handed back: a cell of the callee's own is never changed any more -/
def frzD (rs : List Nat) (h : Hc) : Nat → D → Option D
  | 0, d => if flat d = true then some d else none
  | n + 1, d => if flat d = true then some d else match d with
    | .ref i => if i < rs.length then (rs[i]?).map .ref else match h[i]? with
      | some (.lst ds) => (frzL (frzD rs h n) ds).map .lst
      | some (.dct ks ds) => (frzL (frzD rs h n) ds).map (.dct ks)
      | _ => none
    | .tup ds => (frzL (frzD rs h n) ds).map .tup
    | _ => none
where
  frzL (f : D → Option D) : List D → Option (List D)
    | [] => some []
    | d :: ds => match f d, frzL f ds with
      | some e, some es => some (e :: es)
      | _, _ => none
def wb : Hc → List Nat → Hc → Hc
  | h, r :: rs, c :: cs => wb (h.set r c) rs cs
  | h, _, _ => h
def callL (m : Fn) (as : List D) (h : Hc) : R D :=
  match renL (refsOf as) as, cellsAt h (refsOf as) with
  | some as', some hc => if hc.all flatC = true then (match m as' hc with
    | .ok d h' => match frzD (refsOf as) h' 8 d with
      | some d' => if (h'.take (refsOf as).length).all flatC = true then .ok d' (wb h (refsOf as) h') else .bad
      | none => .bad
    | .ex x fs vs h' => if (h'.take (refsOf as).length).all flatC = true ∧ flatL vs = true then .ex x fs vs (wb h (refsOf as) h') else .bad
    | .bad => .bad) else .bad
  | _, _ => .bad
def eCall (m : Fn) (as : SA) : SE := fun ds h => (as ds h).bd fun xs h1 => callL m xs h1
section
variable {K : PySem.W.Frag} {ω ω' ω1 ω2 : Wo} {h h' : Hc}
theorem flat_rel (hH : ω2.H = ω1.H) (hA : ∀ p, ω2.A p → ω1.A p) : (∀ d v, flat d = true → RelD K ω1 d v → RelD K ω2 d v) ∧ ∀ ds vs, flatL ds = true → RelL K ω1 ds vs → RelL K ω2 ds vs := by
  have aux := @D.rec (motive_1 := fun d => ∀ v, flat d = true → RelD K ω1 d v → RelD K ω2 d v) (motive_2 := fun ds => ∀ vs, flatL ds = true → RelL K ω1 ds vs → RelL K ω2 ds vs)
    (fun v _ x => by unfold RelD at x ⊢; exact x) (fun b v _ x => by unfold RelD at x ⊢; exact x) (fun i v _ x => by unfold RelD at x ⊢; exact x) (fun s v _ x => by unfold RelD at x ⊢; exact x)
    (fun ds ih v hf x => by unfold RelD at x ⊢; obtain ⟨p, vs', e1, e2, e3⟩ := x; exact ⟨p, vs', e1, by rw [hH]; exact e2, ih _ (by simpa [flat] using hf) e3⟩)
    (fun ds ih v hf x => by unfold RelD at x ⊢; obtain ⟨p, vs', e1, ⟨e2, n⟩, e3⟩ := x; exact ⟨p, vs', e1, ⟨by rw [hH]; exact e2, fun z => n (hA _ z)⟩, ih _ (by simpa [flat] using hf) e3⟩)
    (fun ds ih v hf x => by
      unfold RelD at x ⊢
      obtain ⟨p, vs', e1, e2, e3⟩ := x
      refine ⟨p, vs', e1, ?_, ih _ (by simpa [flat] using hf) e3⟩
      rcases e2 with ⟨o, e2⟩ | e2
      · exact .inl ⟨o, by rw [hH]; exact e2⟩
      · exact .inr e2)
    (fun ks ds ih v hf x => by unfold RelD at x ⊢; obtain ⟨p, vs', e1, ⟨e2, n⟩, e3, e4⟩ := x; exact ⟨p, vs', e1, ⟨by rw [hH]; exact e2, fun z => n (hA _ z)⟩, e3, ih _ (by simpa [flat] using hf) e4⟩)
    (fun i v hf x => by simp [flat] at hf) (fun t v _ x => by unfold RelD at x ⊢; exact x)
    (fun vs _ x => by unfold RelL at x ⊢; exact x)
    (fun d ds ih1 ih2 vs hf x => by
      unfold RelL at x ⊢
      obtain ⟨v, ws', e1, e2, e3⟩ := x
      simp [flatL] at hf
      exact ⟨v, ws', e1, ih1 _ hf.1 e2, ih2 _ hf.2 e3⟩)
  refine ⟨aux, fun ds => ?_⟩
  induction ds with
  | nil => intro vs _ x; unfold RelL at x ⊢; exact x
  | cons d ds ih =>
    intro vs hf x
    obtain ⟨v, ws', rfl, e2, e3⟩ := x.inv
    simp [flatL] at hf
    exact RelL.cons (aux d v hf.1 e2) (ih _ hf.2 e3)
theorem flat_relC {p : Addr} {c : C} (hH : ω2.H = ω1.H) (hA : ∀ p, ω2.A p → ω1.A p) (hf : flatC c = true) (x : RelC K ω1 p c) : RelC K ω2 p c := by
  cases c with
  | lst ds => obtain ⟨vs, e1, e2⟩ := x; exact ⟨vs, by rw [hH]; exact e1, (flat_rel hH hA).2 _ _ hf e2⟩
  | dct ks ds => obtain ⟨vs, e1, e3, e2⟩ := x; exact ⟨vs, by rw [hH]; exact e1, e3, (flat_rel hH hA).2 _ _ hf e2⟩
  | dtt ks ds => obtain ⟨vs, e1, e3, e2⟩ := x; exact ⟨vs, by rw [hH]; exact e1, e3, (flat_rel hH hA).2 _ _ hf e2⟩
  | obj cls fs ds => obtain ⟨vs, ⟨cx, dx, e0, e1⟩, e3, e2⟩ := x; exact ⟨vs, ⟨cx, dx, e0, by rw [hH]; exact e1⟩, e3, (flat_rel hH hA).2 _ _ hf e2⟩
  | rng lo hi => show ω2.H p = _; rw [hH]; exact x
  | lkd ks ds => obtain ⟨vs, ⟨o, e1⟩, e3, e2⟩ := x; exact ⟨vs, ⟨o, by rw [hH]; exact e1⟩, e3, (flat_rel hH hA).2 _ _ hf e2⟩
  | lkt ks ds => obtain ⟨vs, ⟨o, e1⟩, e3, e2⟩ := x; exact ⟨vs, ⟨o, by rw [hH]; exact e1⟩, e3, (flat_rel hH hA).2 _ _ hf e2⟩
theorem refsOf_nodup : ∀ as : List D, (refsOf as).Nodup
  | [] => List.nodup_nil
  | d :: r => by
    have ih := refsOf_nodup r
    cases d <;> try exact ih
    rename_i i
    show (let l := refsOf r; if i ∈ l then l else i :: l).Nodup
    by_cases hi : i ∈ refsOf r
    · simp only [hi, if_true]; exact ih
    · simp only [hi, if_false]; exact List.nodup_cons.mpr ⟨hi, ih⟩
theorem cellsAt_get : ∀ {rs : List Nat} {cs : List C} {j : Nat} {i : Nat}, cellsAt h rs = some cs → rs[j]? = some i → ∃ c, cs[j]? = some c ∧ h[i]? = some c
  | [], _, j, i, _, e => by simp at e
  | r :: rs, cs, j, i, q, e => by
    unfold cellsAt at q
    cases q1 : h[r]? with
    | none => simp [q1] at q
    | some c =>
      cases q2 : cellsAt h rs with
      | none => simp [q1, q2] at q
      | some cs' =>
        simp [q1, q2] at q; subst q
        cases j with
        | zero => have : r = i := by simpa using e
                  subst this
                  exact ⟨c, rfl, q1⟩
        | succ j =>
          obtain ⟨c', z1, z2⟩ := cellsAt_get (j := j) q2 (by simpa using e)
          exact ⟨c', by simpa using z1, z2⟩
theorem cellsAt_len : ∀ {rs : List Nat} {cs : List C}, cellsAt h rs = some cs → cs.length = rs.length
  | [], cs, q => by simp [cellsAt] at q; subst q; rfl
  | r :: rs, cs, q => by
    unfold cellsAt at q
    cases q1 : h[r]? with
    | none => simp [q1] at q
    | some c =>
      cases q2 : cellsAt h rs with
      | none => simp [q1, q2] at q
      | some cs' => simp [q1, q2] at q; subst q; simp [cellsAt_len q2]
/-- the callee's world -/
def Wo.sub (ω : Wo) (rs : List Nat) : Wo := { ω with β := fun j => ω.β (rs.getD j 0), n := rs.length }
theorem sub_at {rs : List Nat} {j i : Nat} (e : rs[j]? = some i) : (ω.sub rs).β j = ω.β i := by
  show ω.β (rs.getD j 0) = ω.β i
  rw [List.getD_eq_getElem?_getD, e]; rfl
theorem rs_lt {rs : List Nat} {hc : List C} (r : Rel K ω h) (q : cellsAt h rs = some hc) {j i : Nat} (e : rs[j]? = some i) : i < ω.n := by
  obtain ⟨c, _, z⟩ := cellsAt_get q e
  rw [r.n]; exact (List.getElem?_eq_some_iff.mp z).1
theorem Rel.sub_ {rs : List Nat} {hc : List C} (r : Rel K ω h) (nd : rs.Nodup) (q : cellsAt h rs = some hc) (hf : hc.all flatC = true) : Rel K (ω.sub rs) hc where
  tabs := r.tabs
  n := (cellsAt_len q).symm
  inj := fun i j hi hj z => by
    have hi' : i < rs.length := hi
    have hj' : j < rs.length := hj
    have e1 := List.getElem?_eq_getElem hi'
    have e2 := List.getElem?_eq_getElem hj'
    rw [sub_at e1, sub_at e2] at z
    have := r.inj _ _ (rs_lt r q e1) (rs_lt r q e2) z
    exact (List.getElem_inj nd).mp this
  inA := fun i hi => by
    have hi' : i < rs.length := hi
    have e1 := List.getElem?_eq_getElem hi'
    rw [sub_at e1]
    exact r.inA _ (rs_lt r q e1)
  sub := r.sub
  cel := fun j c hj => by
    have hl : j < rs.length := by rw [← cellsAt_len q]; exact (List.getElem?_eq_some_iff.mp hj).1
    have e1 := List.getElem?_eq_getElem hl
    obtain ⟨c', z1, z2⟩ := cellsAt_get q e1
    rw [hj] at z1; cases z1
    rw [sub_at e1]
    exact flat_relC (ω1 := ω) rfl (fun _ z => z) (List.all_eq_true.mp hf c (List.mem_of_getElem? hj)) (r.cel _ _ z2)
theorem findIdx_some {rs : List Nat} {i j : Nat} (e : rs.findIdx? (· == i) = some j) : rs[j]? = some i := by
  obtain ⟨h1, h2, _⟩ := List.findIdx?_eq_some_iff_getElem.mp e
  rw [List.getElem?_eq_getElem h1]
  simpa using h2
theorem renD_rel {rs : List Nat} {d e : D} {v : V} (q : renD rs d = some e) (x : RelD K ω d v) : RelD K (ω.sub rs) e v := by
  by_cases hr : ∃ i, d = .ref i
  · obtain ⟨i, rfl⟩ := hr
    unfold renD at q
    cases q1 : rs.findIdx? (· == i) with
    | none => simp [q1] at q
    | some j =>
      simp [q1] at q; subst q
      have z := findIdx_some q1
      unfold RelD at x ⊢
      refine ⟨(List.getElem?_eq_some_iff.mp z).1, ?_⟩
      rw [sub_at z]; exact x.2
  · have q' : (if flat d = true then some d else none) = some e := by
      cases d <;> first | exact q | exact absurd ⟨_, rfl⟩ hr
    by_cases hf : flat d = true
    · rw [if_pos hf] at q'
      cases q'
      exact (flat_rel (ω1 := ω) (ω2 := ω.sub rs) rfl fun _ z => z).1 _ _ hf x
    · rw [if_neg hf] at q'; cases q'
theorem renL_rel {rs : List Nat} : ∀ {ds es : List D} {vs : List V}, renL rs ds = some es → RelL K ω ds vs → RelL K (ω.sub rs) es vs
  | [], es, vs, q, x => by simp [renL] at q; subst q; rw [x.inv0]; exact RelL.nil
  | d :: ds, es, vs, q, x => by
    obtain ⟨v, ws, rfl, e2, e3⟩ := x.inv
    unfold renL at q
    cases q1 : renD rs d with
    | none => simp [q1] at q
    | some e =>
      cases q2 : renL rs ds with
      | none => simp [q1, q2] at q
      | some es' => simp [q1, q2] at q; subst q; exact RelL.cons (renD_rel q1 e2) (renL_rel q2 e3)
/-- behind the call: the caller's world -/
def Wo.back (ω ω' : Wo) : Wo := { ω with H := ω'.H }
theorem Ext.back {rs : List Nat} (hl : ∀ (j i : Nat), rs[j]? = some i → i < ω.n) (e : Ext (ω.sub rs) ω') : Ext ω (ω.back ω') where
  n := Nat.le_refl _
  b := fun _ _ => rfl
  a := fun _ z => z
  aN := fun _ z => .inl z
  nw := fun i a b => absurd b (Nat.not_lt.mpr a)
  dom := e.dom
  keep := fun q o hq nt hb => e.keep q o hq nt <| hb.elim (fun hb => .inl fun j hj z => by
    have hj' : j < rs.length := hj
    have e1 := List.getElem?_eq_getElem hj'
    rw [sub_at e1] at z
    exact hb _ (hl j _ e1) z) .inr
theorem frz_rel {rs : List Nat} (r : Rel K ω h) (hl : ∀ (j i : Nat), rs[j]? = some i → i < ω.n) (e : Ext (ω.sub rs) ω') (r' : Rel K ω' h') : ∀ (n : Nat) (d d' : D) (v : V), frzD rs h' n d = some d' → RelD K ω' d v → RelD K (ω.back ω') d' v := by
  have hA : ∀ p, (ω.back ω').A p → ω'.A p := fun p z => e.a p z
  have one : ∀ d v, flat d = true → RelD K ω' d v → RelD K (ω.back ω') d v := (flat_rel (ω1 := ω') (ω2 := ω.back ω') rfl hA).1
  have lst : ∀ (f : D → Option D), (∀ d d' v, f d = some d' → RelD K ω' d v → RelD K (ω.back ω') d' v) → ∀ ds ds' vs, frzD.frzL f ds = some ds' → RelL K ω' ds vs → RelL K (ω.back ω') ds' vs := fun f hf ds => by
    induction ds with
    | nil => intro ds' vs q x; simp [frzD.frzL] at q; subst q; rw [x.inv0]; exact RelL.nil
    | cons d ds ih =>
      intro ds' vs q x
      obtain ⟨v, ws, rfl, e2, e3⟩ := x.inv
      unfold frzD.frzL at q
      cases q1 : f d with
      | none => simp [q1] at q
      | some e =>
        cases q2 : frzD.frzL f ds with
        | none => simp [q1, q2] at q
        | some es' => simp [q1, q2] at q; subst q; exact RelL.cons (hf _ _ _ q1 e2) (ih _ _ q2 e3)
  intro n
  induction n with
  | zero =>
    intro d d' v q x
    unfold frzD at q
    by_cases hf : flat d = true
    · rw [if_pos hf] at q; cases q; exact one _ _ hf x
    · rw [if_neg hf] at q; cases q
  | succ n ih =>
    intro d d' v q x
    unfold frzD at q
    by_cases hf : flat d = true
    · rw [if_pos hf] at q; cases q; exact one _ _ hf x
    · rw [if_neg hf] at q
      cases d with
      | ref i =>
        simp only at q
        unfold RelD at x
        obtain ⟨hi, rfl⟩ := x
        by_cases hr : i < rs.length
        · rw [if_pos hr] at q
          have e1 := List.getElem?_eq_getElem hr
          rw [e1] at q
          simp at q; subst q
          unfold RelD
          refine ⟨hl _ _ e1, ?_⟩
          have z := e.b i hr
          rw [z, sub_at e1]; rfl
        · rw [if_neg hr] at q
          have nA : ¬ (ω.back ω').A (ω'.β i) := fun z => r.sub _ z (e.nw i (Nat.not_lt.mp hr) hi)
          cases q1 : h'[i]? with
          | none => simp [q1] at q
          | some c =>
            have rc := r'.cel i c q1
            cases c with
            | lst ds =>
              simp only [q1] at q
              cases q2 : frzD.frzL (frzD rs h' n) ds with
              | none => simp [q2] at q
              | some ds' =>
                simp [q2] at q; subst q
                obtain ⟨vs, e1, e2⟩ := rc
                unfold RelD
                exact ⟨_, vs, rfl, ⟨e1, nA⟩, lst _ ih _ _ _ q2 e2⟩
            | dct ks ds =>
              simp only [q1] at q
              cases q2 : frzD.frzL (frzD rs h' n) ds with
              | none => simp [q2] at q
              | some ds' =>
                simp [q2] at q; subst q
                obtain ⟨vs, e1, e3, e2⟩ := rc
                unfold RelD
                exact ⟨_, vs, rfl, ⟨e1, nA⟩, e3, lst _ ih _ _ _ q2 e2⟩
            | dtt ks ds => simp [q1] at q
            | obj cls fs ds => simp [q1] at q
            | rng lo hi => simp [q1] at q
            | lkd ks ds => simp [q1] at q
            | lkt ks ds => simp [q1] at q
      | tup ds =>
        simp only at q
        cases q2 : frzD.frzL (frzD rs h' n) ds with
        | none => simp [q2] at q
        | some ds' =>
          simp [q2] at q; subst q
          unfold RelD at x ⊢
          obtain ⟨p, vs, e1, e2, e3⟩ := x
          exact ⟨p, vs, e1, e2, lst _ ih _ _ _ q2 e3⟩
      | _ => simp at q
theorem wb_get : ∀ {rs : List Nat} {cs : Hc} {h : Hc} {i : Nat} {c : C}, rs.Nodup → rs.length ≤ cs.length → (wb h rs cs)[i]? = some c → (∃ j : Nat, rs[j]? = some i ∧ cs[j]? = some c) ∨ (h[i]? = some c ∧ i ∉ rs)
  | [], cs, h, i, c, _, _, e => by
    have : wb h [] cs = h := by cases cs <;> rfl
    rw [this] at e
    exact .inr ⟨e, by simp⟩
  | r :: rs, [], h, i, c, _, hl, _ => by simp at hl
  | r :: rs, c0 :: cs, h, i, c, nd, hl, e => by
    have nd' := List.nodup_cons.mp nd
    rcases wb_get (h := h.set r c0) nd'.2 (by simpa using hl) e with ⟨j, a, b⟩ | ⟨a, b⟩
    · exact .inl ⟨j + 1, by simpa using a, by simpa using b⟩
    · by_cases hi : r = i
      · subst hi
        have hr : r < h.length := by
          have := (List.getElem?_eq_some_iff.mp a).1
          rw [List.length_set] at this; exact this
        rw [List.getElem?_set_self hr] at a
        exact .inl ⟨0, rfl, by simpa using a⟩
      · rw [List.getElem?_set_ne hi] at a
        refine .inr ⟨a, ?_⟩
        simp only [List.mem_cons, not_or]
        exact ⟨fun z => hi z.symm, b⟩
theorem wb_len : ∀ {rs : List Nat} {cs h : Hc}, (wb h rs cs).length = h.length
  | [], cs, h => by cases cs <;> rfl
  | r :: rs, [], h => rfl
  | r :: rs, c :: cs, h => by
    show (wb (h.set r c) rs cs).length = h.length
    rw [wb_len, List.length_set]
theorem Rel.back {rs : List Nat} {hc : List C} (r : Rel K ω h) (nd : rs.Nodup) (q : cellsAt h rs = some hc) (e : Ext (ω.sub rs) ω') (r' : Rel K ω' h') (hf : (h'.take rs.length).all flatC = true) : Rel K (ω.back ω') (wb h rs h') := by
  have hl : ∀ (j i : Nat), rs[j]? = some i → i < ω.n := fun j i z => rs_lt r q z
  have eb := Ext.back hl e
  have ln : rs.length ≤ h'.length := by
    have := e.n
    rw [r'.n] at this; exact this
  refine ⟨by rw [wb_len]; exact r.n, r.inj, r.inA, fun p hp z => r.sub p hp (e.dom p z), fun i c hi => ?_, r'.tabs⟩
  show RelC K (ω.back ω') (ω.β i) c
  rcases wb_get nd ln hi with ⟨j, a, b⟩ | ⟨a, b⟩
  · have hj : j < rs.length := (List.getElem?_eq_some_iff.mp a).1
    have x := r'.cel j c b
    rw [e.b j hj, sub_at a] at x
    have fc : flatC c = true := List.all_eq_true.mp hf c (List.mem_of_getElem? (i := j) (by rw [List.getElem?_take_of_lt hj]; exact b))
    exact flat_relC (ω1 := ω') rfl (fun p z => e.a p z) fc x
  · have hi' : i < ω.n := by rw [r.n]; exact (List.getElem?_eq_some_iff.mp a).1
    have x := r.cel i c a
    obtain ⟨o, ho, hm⟩ := r.mut hi'
    have st : ω'.H (ω.β i) = ω.H (ω.β i) := by
      rw [ho]
      refine e.keep _ _ ho (fun ps z => by rw [z] at hm; exact hm) <| .inl fun j hj z => ?_
      have hj' : j < rs.length := hj
      have e1 := List.getElem?_eq_getElem hj'
      rw [sub_at e1] at z
      have := r.inj _ _ (hl _ _ e1) hi' z
      exact b (List.mem_of_getElem? (this ▸ e1))
    cases c with
    | lst ys => obtain ⟨vs', e1, e2⟩ := x; exact ⟨vs', st.trans e1, monoL r eb _ _ e2⟩
    | dct ks ys => obtain ⟨vs', e1, e3, e2⟩ := x; exact ⟨vs', st.trans e1, e3, monoL r eb _ _ e2⟩
    | dtt ks ys => obtain ⟨vs', e1, e3, e2⟩ := x; exact ⟨vs', st.trans e1, e3, monoL r eb _ _ e2⟩
    | obj cls fs ys => obtain ⟨vs', ⟨cx, dx, e0, e1⟩, e3, e2⟩ := x; exact ⟨vs', ⟨cx, dx, e0, st.trans e1⟩, e3, monoL r eb _ _ e2⟩
    | rng lo hi => exact st.trans x
    | lkd ks ys => obtain ⟨vs', ⟨o, e1⟩, e3, e2⟩ := x; exact ⟨vs', ⟨o, st.trans e1⟩, e3, monoL r eb _ _ e2⟩
    | lkt ks ys => obtain ⟨vs', ⟨o, e1⟩, e3, e2⟩ := x; exact ⟨vs', ⟨o, st.trans e1⟩, e3, monoL r eb _ _ e2⟩
end
section
variable {X : Cx} {W : WX} {es : List Expr} {as : SA} {m : Fn} {σ : L2.St} {np : Nat}
theorem callL_sp {K : PySem.W.Frag} {mg : Str → Option Value} {ω : Wo} {h : Hc} {xs : List D} {vs : List V} {Q : VK} (hn : vs.length = np) (r : Rel K ω h) (d : RelL K ω xs vs) (p : Post K mg W σ ω (RelD K) Q (callL m xs h)) : spD K mg np m vs ω.H Q (WE W σ) := by
  unfold callL at p
  cases q1 : renL (refsOf xs) xs with
  | none => rw [q1] at p; exact False.elim p
  | some xs' =>
    cases q2 : cellsAt h (refsOf xs) with
    | none => rw [q1, q2] at p; exact False.elim p
    | some hc =>
      rw [q1, q2] at p
      simp only at p
      obtain ⟨hf, p⟩ := p.if_
      have nd := refsOf_nodup xs
      have hl : ∀ (j i : Nat), (refsOf xs)[j]? = some i → i < ω.n := fun j i z => rs_lt r q2 z
      refine ⟨hn, ω.sub (refsOf xs), hc, xs', rfl, r.sub_ nd q2 hf, renL_rel q1 d, ?_⟩
      cases q3 : m xs' hc with
      | bad => rw [q3] at p; exact False.elim p
      | ex x fs ds h' =>
        rw [q3] at p
        simp only at p
        by_cases hh : (h'.take (refsOf xs).length).all flatC = true ∧ flatL ds = true
        · rw [if_pos hh] at p
          intro c dx ω' e r' rx
          refine p c dx (ω.back ω') (Ext.back hl e) (r.back nd q2 e r' hh.1) ?_
          obtain ⟨C, dd, vs', a1, a2, a3, a4, a5, a6⟩ := rx
          exact ⟨C, dd, vs', a1, a2, a3, a4, a5, (flat_rel (ω1 := ω') (ω2 := ω.back ω') rfl fun p z => e.a p z).2 _ _ hh.2 a6⟩
        · rw [if_neg hh] at p; exact False.elim p
      | ok dd h' =>
        rw [q3] at p
        simp only at p
        cases q4 : frzD (refsOf xs) h' 8 dd with
        | none => rw [q4] at p; exact False.elim p
        | some d' =>
          rw [q4] at p
          simp only at p
          obtain ⟨hh, p⟩ := p.if_
          intro v ω' e r' rv
          exact p v (ω.back ω') (Ext.back hl e) (r.back nd q2 e r' hh) (frz_rel r hl e r' 8 dd d' v q4 rv)
variable {k : Nat} {f : Addr} {fd : FuncData} {ps : List Str} {x : Str} {p pos : Pos} {e : Expr}
/-- f(..) -/
theorem de_call (tk : Takes X W) (F : FnOk X.prog X.w X.K X.mg X.base (L2.CX X.prog X.w) k f fd ps (spD X.K X.mg np m)) (hr : Room k X.A) (hg : Gl X x) (hm : X.mg x = some (.ref f)) (hk : PySem.W.keepIn X.K (.ref f) = true) (hb : Binds X.K fd ps [])
    (hn : (e :: es).length = np) (hl : ∀ ds h xs h', as ds h = .ok xs h' → xs.length = (e :: es).length) (ha : DA X W (e :: es) as) (hdb : (x == ("__debug__" : Str)) = false := by decide) (he : starEach (e :: es) X.env = (false, eval e X.env) :: starEach es X.env := by rfl) (hpl : (backTo pos (starEach es X.env)).any (·.1) = false := by rfl) :
    DE X W (.Call (.Name x p) (e :: es) [] pos) (eCall m as) := de_of (pe_callS F hr hg hm hk hb (fun σ => passAt tk σ) ha hdb he hpl) fun σ H Q ⟨ω, h, ds, e1, r, s, p⟩ => by
  subst e1
  refine ⟨ω, h, ds, rfl, r, s, ?_⟩
  cases q : as ds h with
  | ok xs h1 =>
    unfold eCall at p
    rw [q] at p
    have p' : Post X.K X.mg W σ ω (RelD X.K) Q (callL m xs h1) := p
    intro vs ω' e' r' rl
    exact callL_sp (by rw [← rl.len, hl _ _ _ _ q]; exact hn) r' rl (Post.mono p' e')
  | ex x' fs ds' h1 =>
    unfold eCall at p
    rw [q] at p; exact p
  | bad =>
    unfold eCall at p
    rw [q] at p; exact p
/-- .. over the caller's cells -/
theorem de_callG (tk : Takes X W) (F : FnOk X.prog X.w X.K X.mg X.base (L2.CX X.prog X.w) k f fd ps (spD X.K X.mg np m)) (hr : Room k X.A) (hg : Gl X x) (hm : X.mg x = some (.ref f)) (hk : PySem.W.keepIn X.K (.ref f) = true) (hb : Binds X.K fd ps [])
    (hn : (e :: es).length = np) (hl : ∀ ds h xs h', as ds h = .ok xs h' → xs.length = (e :: es).length) (ha : DA X W (e :: es) as) (hdb : (x == ("__debug__" : Str)) = false := by decide) (he : starEach (e :: es) X.env = (false, eval e X.env) :: starEach es X.env := by rfl) (hpl : (backTo pos (starEach es X.env)).any (·.1) = false := by rfl) :
    DE X W (.Call (.Name x p) (e :: es) [] pos) (eCallG m as) := de_of (pe_callS F hr hg hm hk hb (fun σ => passAt tk σ) ha hdb he hpl) fun σ H Q ⟨ω, h, ds, e1, r, s, p⟩ => by
  subst e1
  refine ⟨ω, h, ds, rfl, r, s, ?_⟩
  cases q : as ds h with
  | ok xs h1 =>
    unfold eCallG at p
    rw [q] at p
    have p' : Post X.K X.mg W σ ω (RelD X.K) Q (m xs h1) := p
    intro vs ω' e' r' rl
    refine ⟨by rw [← rl.len, hl _ _ _ _ q]; exact hn, ω', h1, xs, rfl, r', rl, ?_⟩
    have p2 := Post.mono p' e'
    cases q2 : m xs h1 with
    | ok a h2 => rw [q2] at p2; exact p2
    | ex x fs ds h2 => rw [q2] at p2; exact p2
    | bad => rw [q2] at p2; exact p2
  | ex x' fs ds' h1 =>
    unfold eCallG at p
    rw [q] at p; exact p
  | bad =>
    unfold eCallG at p
    rw [q] at p; exact p
end
/-- how many arguments come -/
theorem aNil_len (ds : Sl) (h : Hc) (xs : List D) (h' : Hc) (e : aNil ds h = .ok xs h') : xs.length = 0 := by
  unfold aNil at e; cases e; rfl
theorem aCons_len {m : SE} {as : SA} {n : Nat} (ih : ∀ ds h xs h', as ds h = .ok xs h' → xs.length = n) (ds : Sl) (h : Hc) (xs : List D) (h' : Hc) (e : aCons m as ds h = .ok xs h') : xs.length = n + 1 := by
  unfold aCons at e
  cases q : m ds h with
  | ok x h1 =>
    rw [q] at e
    simp only [R.bd_ok] at e
    cases q2 : as ds h1 with
    | ok ys h2 =>
      rw [q2] at e
      simp only [R.bd_ok] at e
      cases e
      rw [List.length_cons, ih _ _ _ _ q2]
    | ex _ _ _ _ => rw [q2] at e; cases e
    | bad => rw [q2] at e; cases e
  | ex _ _ _ _ => rw [q] at e; cases e
  | bad => rw [q] at e; cases e
end Mp
/-! LayE: operators, subscripts, built-ins, what is walked: by data. -/
namespace Mp
open PySem PySem.Spec PyProof.Rows L2
section
variable {X : Cx} {K : PySem.W.Frag} {mg : Str → Option Value} {ω ω' : Wo} {h h' : Hc} {d : D} {v : V}
/-! ### what data stands for what -/
theorem rd_int {i : Int} (r : RelD K ω (.int i) v) : v = .int i := by unfold RelD at r; exact r
theorem rd_bl {i : Bool} (r : RelD K ω (.bl i) v) : v = .bl i := by unfold RelD at r; exact r
theorem rd_str {i : Str} (r : RelD K ω (.str i) v) : v = .str i := by unfold RelD at r; exact r
theorem rd_non (r : RelD K ω .non v) : v = .non := by unfold RelD at r; exact r
theorem rd_ty {n : String} (r : RelD K ω (.ty n) v) : v = .ty n := by unfold RelD at r; exact r
theorem int_rd {i : Int} : RelD K ω (.int i) (.int i) := by unfold RelD; rfl
theorem bl_rd {i : Bool} : RelD K ω (.bl i) (.bl i) := by unfold RelD; rfl
theorem str_rd {i : Str} : RelD K ω (.str i) (.str i) := by unfold RelD; rfl
theorem non_rd : RelD K ω .non .non := by unfold RelD; rfl
theorem ty_rd {n : String} : RelD K ω (.ty n) (.ty n) := by unfold RelD; rfl
theorem Post.here {W : WX} {σ : L2.St} {Q : VK} {d : D} (p : Post K mg W σ ω (RelD K) Q (.ok d h)) (r : Rel K ω h) (x : RelD K ω d v) : Q v ω.H := p v ω (Ext.refl _) r x
theorem rd_lst {xs : List D} (r : RelD K ω (.lst xs) v) : ∃ p vs, v = .ref p ∧ ω.H p = some (.lst vs) ∧ RelL K ω xs vs := by
  unfold RelD at r
  obtain ⟨p, vs, e1, e2, e3⟩ := r
  exact ⟨p, vs, e1, e2.1, e3⟩
theorem rd_tup {xs : List D} (r : RelD K ω (.tup xs) v) : ∃ p vs, v = .ref p ∧ SqT K ω.H p vs ∧ RelL K ω xs vs := by
  unfold RelD at r
  obtain ⟨p, vs, e1, e2, e3⟩ := r
  exact ⟨p, vs, e1, e2.1, e3⟩
theorem rd_scr {xs : List D} (r : RelD K ω (.scr xs) v) : ∃ p vs, v = .ref p ∧ SqL K ω.H p vs ∧ RelL K ω xs vs := by
  unfold RelD at r
  obtain ⟨p, vs, e1, e2, e3⟩ := r
  exact ⟨p, vs, e1, e2.sq, e3⟩
theorem rd_cel {xs : List D} {i : Nat} (rr : Rel K ω h) (r : RelD K ω (.ref i) v) (e : h[i]? = some (.lst xs)) : ∃ vs, i < ω.n ∧ v = .ref (ω.β i) ∧ ω.H (ω.β i) = some (.lst vs) ∧ RelL K ω xs vs := by
  unfold RelD at r
  obtain ⟨vs, e2, e3⟩ := rr.cel i _ e
  exact ⟨vs, r.1, r.2, e2, e3⟩
/-- the items of a list that is tracked as such -/
def lstD (h : Hc) : D → Option (List D)
  | .lst xs => some xs
  | .ref i => match h[i]? with
    | some (.lst xs) => some xs
    | _ => none
  | _ => none
theorem lstD_rel {xs : List D} (r : Rel K ω h) (e : lstD h d = some xs) (x : RelD K ω d v) : ∃ p vs, v = .ref p ∧ ω.H p = some (.lst vs) ∧ RelL K ω xs vs := by
  cases d <;> simp [lstD] at e
  · subst e; exact rd_lst x
  · rename_i i
    cases q : h[i]? with
    | none => simp [q] at e
    | some c =>
      cases c with
      | lst ys => simp [q] at e; subst e; obtain ⟨vs, _, e1, e2, e3⟩ := rd_cel r x q; exact ⟨_, vs, e1, e2, e3⟩
      | _ => simp [q] at e
/-- the items of a list that is read -/
def rdlD (h : Hc) : D → Option (List D)
  | .scr xs => some xs
  | d => lstD h d
theorem rdlD_rel {xs : List D} (r : Rel K ω h) (e : rdlD h d = some xs) (x : RelD K ω d v) : ∃ p vs, v = .ref p ∧ SqL K ω.H p vs ∧ RelL K ω xs vs := by
  by_cases hs : ∃ ys, d = .scr ys
  · obtain ⟨ys, rfl⟩ := hs
    simp [rdlD] at e; subst e
    exact rd_scr x
  · have e' : lstD h d = some xs := by
      cases d <;> first | exact e | exact absurd ⟨_, rfl⟩ hs
    obtain ⟨p, vs, e1, e2, e3⟩ := lstD_rel r e' x
    exact ⟨p, vs, e1, .inl (.inl e2), e3⟩
/-! ### ints -/
def iF (c : Int → Int → Bool) (g : Int → Int → D) : D → D → Hc → R D
  | .int i, .int j, h => if c i j = true then .ok (g i j) h else .bad
  | _, _, _ => .bad
theorem opd_i {C : Int → Int → Prop} {c : Int → Int → Bool} {g : Int → Int → D} {gV : Int → Int → V} (hc : ∀ i j, c i j = true → C i j) (hg : ∀ i j (ω : Wo), RelD X.K ω (g i j) (gV i j)) : OpD X (rI C gV) (iF c g) := fun W σ ω h x y v u Q r rx ry p => by
  cases x <;> cases y <;> try exact False.elim p
  rename_i i j
  obtain ⟨hcc, p⟩ := p.if_
  exact ⟨i, j, rd_int rx, rd_int ry, hc i j hcc, p.here r (hg i j ω)⟩
def i0F (g : Int → Int → D) : D → D → Hc → R D
  | .int i, .int j, h => .ok (g i j) h
  | _, _, _ => .bad
@[simp] theorem i0F_int (g : Int → Int → D) (i j : Int) (h : Hc) : i0F g (.int i) (.int j) h = .ok (g i j) h := Eq.trans rfl rfl
@[simp] theorem iF_int (c : Int → Int → Bool) (g : Int → Int → D) (i j : Int) (h : Hc) : iF c g (.int i) (.int j) h = if c i j = true then .ok (g i j) h else .bad := Eq.trans rfl rfl
theorem opd_i0 {g : Int → Int → D} {gV : Int → Int → V} (hg : ∀ i j (ω : Wo), RelD X.K ω (g i j) (gV i j)) : OpD X (rI0 gV) (i0F g) := fun W σ ω h x y v u Q r rx ry p => by
  cases x <;> cases y <;> try exact False.elim p
  exact ⟨_, _, rd_int rx, rd_int ry, p.here r (hg _ _ ω)⟩
/-! ### sums: ints, texts, lists, tuples -/
def addF (x y : D) (h : Hc) : R D := match x, y with
  | .int i, .int j => .ok (.int (i + j)) h
  | .str a, .str b => if a.length + b.length ≤ lim then .ok (.str (a ++ b)) h else .bad
  | .tup xs, .tup ys => if xs.length + ys.length ≤ lim then .ok (.tup (xs ++ ys)) h else .bad
  | x, y => match lstD h x, lstD h y with
    | some xs, some ys => if xs.length + ys.length ≤ lim then .ok (.lst (xs ++ ys)) h else .bad
    | _, _ => .bad
@[simp] theorem addF_int (i j : Int) (h : Hc) : addF (.int i) (.int j) h = .ok (.int (i + j)) h := Eq.trans rfl rfl
@[simp] theorem addF_str (a b : Str) (h : Hc) : addF (.str a) (.str b) h = if a.length + b.length ≤ lim then .ok (.str (a ++ b)) h else .bad := Eq.trans rfl rfl
/-- t + u, its object kept -/
def rCatF (K : PySem.W.Frag) : R2 := fun x y H Q => ∃ a b l m, x = .ref a ∧ y = .ref b ∧ SqT K H a l ∧ SqT K H b m ∧ l.length + m.length ≤ sizeLine ∧
  (l = [] → Q (.ref b) H) ∧ (m = [] → Q (.ref a) H) ∧ ∀ (p : Addr) (o : Obj), H p = none → o.dict = none → Q (.ref p) (upd H p (tuO o (l ++ m)))
theorem op_catF : OpR X (binaryOp .Add) (rCatF X.K) := by
  intro pins s σ H x y v u Q I rv rw' wish
  obtain ⟨a, b, l, m, rfl, rfl, ta, tb, hz, g0, g1, g2⟩ := wish
  by_cases emp : l = []
  · subst emp
    exact op_catA pins s σ H _ _ v u Q I rv rw' ⟨a, b, [], m, rfl, rfl, ta, tb, hz, fun _ => g0 rfl, fun z => absurd rfl z, fun z => absurd rfl z⟩
  · cases rv
    cases rw'
    obtain ⟨us, v1, t1, _⟩ := I.tuple ta
    obtain ⟨us2, v2, t2, _⟩ := I.tuple tb
    refine HT.cat_tup t1 t2 (fun z => emp (v1.nil_iff.mp z)) (fun z => ⟨.ref a, H, I, rfl, g1 (v2.nil_iff.mp z)⟩) (fun _ => ?_) (by rw [← v1.length, ← v2.length]; exact hz)
    exact ⟨.ref s.heap.objs.size, _, laidF (t' := s.toks) (xs := l ++ m) I (fun b' u' e => Heap.get?_push_of_some _ e) (Nat.le_refl _) (Heap.get?_push_size _ rfl) ⟨by rw [List.length_append]; exact hz, _, v1.append v2, IsTup.new _ _⟩, rfl, g2 _ _ (I.hok.fresh (Nat.le_refl _)) rfl⟩
def rAddA (K : PySem.W.Frag) : R2 := fun x y H Q => (rI0 fun i j => .int (i + j)) x y H Q ∨ (∃ i j, x = .str i ∧ y = .str j ∧ i.length + j.length ≤ sizeLine ∧ Q (.str (i ++ j)) H) ∨ rCat x y H Q ∨ rCatF K x y H Q
theorem op_addA : OpR X (binaryOp .Add) (rAddA X.K) := op_add.or (op_add_str.or (op_cat.or op_catF))
theorem opd_add : OpD X (rAddA X.K) addF := fun W σ ω h x y v u Q r rx ry p => by
  unfold addF at p
  split at p
  · exact .inl ⟨_, _, rd_int rx, rd_int ry, p.here r int_rd⟩
  · obtain ⟨hl, p⟩ := p.if_
    exact .inr (.inl ⟨_, _, rd_str rx, rd_str ry, lim_le hl, p.here r str_rd⟩)
  · rename_i xs ys
    obtain ⟨hl, p⟩ := p.if_
    obtain ⟨a, vs, e1, e2, e3⟩ := rd_tup rx
    obtain ⟨b, ws, e4, e5, e6⟩ := rd_tup ry
    subst e1; subst e4
    refine .inr (.inr (.inr ⟨a, b, vs, ws, rfl, rfl, e2, e5, by rw [← e3.len, ← e6.len]; exact lim_le hl, fun z => ?_, fun z2 => ?_, fun q o hq hd => ?_⟩))
    · subst z
      have : xs = [] := List.eq_nil_of_length_eq_zero e3.len
      subst this
      exact p.here r ry
    · subst z2
      have : ys = [] := List.eq_nil_of_length_eq_zero e6.len
      subst this
      rw [List.append_nil] at p
      exact p.here r rx
    · refine p (.ref q) (ω.up q _) (Ext.up hq) (r.up hq) ?_
      exact tup_new r hq hd (e3.append e6)
  · split at p
    · rename_i xs ys q1 q2
      obtain ⟨hl, p⟩ := p.if_
      obtain ⟨a, vs, e1, e2, e3⟩ := lstD_rel r q1 rx
      obtain ⟨b, ws, e4, e5, e6⟩ := lstD_rel r q2 ry
      exact .inr (.inr (.inl ⟨a, b, vs, ws, e1, e4, e2, e5, by rw [← e3.len, ← e6.len]; exact lim_le hl, fun q hq => p (.ref q) (ω.up q _) (Ext.up hq) (r.up hq) (fz_new r hq (e3.append e6))⟩))
    · exact False.elim p
abbrev subF := i0F fun i j => .int (i - j)
theorem opd_sub : OpD X (rI0 fun i j => .int (i - j)) subF := opd_i0 fun _ _ _ => int_rd
def mulOk (i j : Int) : Bool := decide (-(2 ^ 64) < i ∧ i < 2 ^ 64) || decide (-(2 ^ 64) < j ∧ j < 2 ^ 64) || decide (i.natAbs.log2 + j.natAbs.log2 < 1000000)
/-- n copies of a list's items -/
def repD (n : Nat) (xs : List D) : List D := (List.replicate n xs).flatten
def mulF (x y : D) (h : Hc) : R D := match x, y with
  | .int i, .int j => if mulOk i j = true then .ok (.int (i * j)) h else .bad
  | x, .int k => match lstD h x with
    | some xs => if k ≤ lim ∧ -lim ≤ k ∧ xs.length * k.toNat ≤ lim then .ok (.lst (repD k.toNat xs)) h else .bad
    | none => .bad
  | _, _ => .bad
@[simp] theorem mulF_int (i j : Int) (h : Hc) : mulF (.int i) (.int j) h = if mulOk i j = true then .ok (.int (i * j)) h else .bad := Eq.trans rfl rfl
def rMulA : R2 := fun x y H Q => (rI CMul fun i j => .int (i * j)) x y H Q ∨ (rI CMulW fun i j => .int (i * j)) x y H Q ∨ rRep x y H Q
theorem op_mulA : OpR X (binaryOp .Mult) rMulA := op_mul.or (op_mulW.or op_rep)
theorem RelL.rep {xs : List D} {vs : List V} (x : RelL K ω xs vs) : ∀ n : Nat, RelL K ω (repD n xs) (List.replicate n vs).flatten
  | 0 => by simpa [repD] using RelL.nil
  | n + 1 => by
    have ih := RelL.rep x n
    unfold repD at ih ⊢
    rw [List.replicate_succ, List.replicate_succ, List.flatten_cons, List.flatten_cons]
    exact x.append ih
theorem opd_mul : OpD X rMulA mulF := fun W σ ω h x y v u Q r rx ry p => by
  unfold mulF at p
  split at p
  · rename_i i j
    obtain ⟨hl, p⟩ := p.if_
    unfold mulOk at hl
    simp only [Bool.or_eq_true, decide_eq_true_eq] at hl
    rcases hl with (hl | hl) | hl
    · exact .inl ⟨_, _, rd_int rx, rd_int ry, .inl hl, p.here r int_rd⟩
    · exact .inl ⟨_, _, rd_int rx, rd_int ry, .inr hl, p.here r int_rd⟩
    · exact .inr (.inl ⟨_, _, rd_int rx, rd_int ry, hl, p.here r int_rd⟩)
  · split at p
    · rename_i k _ _ xs q1
      obtain ⟨⟨h1, h2, h3⟩, p⟩ := p.if_
      obtain ⟨a, vs, e1, e2, e3⟩ := lstD_rel r q1 rx
      have l1 : (lim : Int) = 1000000 := rfl
      exact .inr (.inr ⟨a, k, vs, e1, rd_int ry, e2, by omega, by omega, by rw [← e3.len]; exact lim_le h3, fun q hq => p (.ref q) (ω.up q _) (Ext.up hq) (r.up hq) (fz_new r hq (e3.rep _))⟩)
    · exact False.elim p
  · exact False.elim p
def divOk (j : Int) : Bool := decide (j ≠ 0) && decide (j.natAbs.log2 < 9000)
abbrev fdivF := iF (fun _ j => divOk j) fun i j => .int (i.fdiv j)
theorem op_fdivA : OpR X (binaryOp .FloorDiv) (rI (fun _ j => divOk j = true) fun i j => .int (i.fdiv j)) := opI fun i j _ _ _ _ _ hc q => by
  unfold divOk at hc
  simp only [Bool.and_eq_true, decide_eq_true_eq] at hc
  exact floordiv_int hc.1 q (.inl (PyProof.noPylong_of_log2 hc.2))
theorem opd_fdiv : OpD X (rI (fun _ j => divOk j = true) fun i j => .int (i.fdiv j)) fdivF := opd_i (fun _ _ h => h) fun _ _ _ => int_rd
abbrev modF := iF (fun _ j => decide (0 < j)) fun i j => .int (i % j)
theorem opd_mod : OpD X (rI (fun _ j => 0 < j) fun i j => .int (i % j)) modF := opd_i (fun _ _ h => of_decide_eq_true h) fun _ _ _ => int_rd
abbrev powF := iF (fun i j => decide (0 ≤ j) && decide (j ≤ 1000000) && decide (i.natAbs < 2 ^ 64)) fun i j => .int (i ^ j.toNat)
theorem opd_pow : OpD X (rI CPow fun i j => .int (i ^ j.toNat)) powF := opd_i (fun _ _ h => by simp only [Bool.and_eq_true, decide_eq_true_eq] at h; exact ⟨h.1.1, h.1.2, h.2⟩) fun _ _ _ => int_rd
abbrev shlF := iF (fun i j => decide (0 ≤ j) && decide (j ≤ 1000000) && decide (i.natAbs.log2 < 4096)) fun i j => .int (i * 2 ^ j.toNat)
theorem opd_shl : OpD X (rI CShl fun i j => .int (i * 2 ^ j.toNat)) shlF := opd_i (fun i j h => by
  simp only [Bool.and_eq_true, decide_eq_true_eq] at h
  have e := L2.shl_ok (i := i) (j := j.toNat) (n := 4096) (Nat.lt_of_lt_of_le Nat.lt_log2_self (Nat.pow_le_pow_right (by decide) h.2)) (by omega)
  rwa [Int.toNat_of_nonneg h.1.1] at e) fun _ _ _ => int_rd
abbrev shrF := iF (fun _ j => decide (0 ≤ j)) fun i j => .int (i / 2 ^ j.toNat)
theorem opd_shr : OpD X (rI (fun _ j => 0 ≤ j) fun i j => .int (i / 2 ^ j.toNat)) shrF := opd_i (fun _ _ h => of_decide_eq_true h) fun _ _ _ => int_rd
abbrev bandF := i0F fun i j => .int (Builtin.bitAnd i j)
theorem opd_band : OpD X (rI0 fun i j => .int (Builtin.bitAnd i j)) bandF := opd_i0 fun _ _ _ => int_rd
abbrev borF := i0F fun i j => .int (Builtin.bitOr i j)
theorem opd_bor : OpD X (rI0 fun i j => .int (Builtin.bitOr i j)) borF := opd_i0 fun _ _ _ => int_rd
abbrev bxorF := i0F fun i j => .int (Builtin.bitXor i j)
theorem opd_bxor : OpD X (rI0 fun i j => .int (Builtin.bitXor i j)) bxorF := opd_i0 fun _ _ _ => int_rd
def negF : D → Hc → R D
  | .int i, h => .ok (.int (-i)) h
  | _, _ => .bad
@[simp] theorem negF_int (i : Int) (h : Hc) : negF (.int i) h = .ok (.int (-i)) h := Eq.trans rfl rfl
theorem und_neg : UnD X (rU fun i => .int (-i)) negF := fun W σ ω h x v Q r rx p => by
  cases x <;> try exact False.elim p
  exact ⟨_, rd_int rx, p.here r int_rd⟩
/-! ### order -/
def ordF (g : Int → Int → Bool) (gs : List Nat → List Nat → Bool) : D → D → Hc → R D
  | .int i, .int j, h => .ok (.bl (g i j)) h
  | .str a, .str b, h => .ok (.bl (gs a.cps.toList b.cps.toList)) h
  | _, _, _ => .bad
@[simp] theorem ordF_int (g : Int → Int → Bool) (gs : List Nat → List Nat → Bool) (i j : Int) (h : Hc) : ordF g gs (.int i) (.int j) h = .ok (.bl (g i j)) h := Eq.trans rfl rfl
def rOrd (g : Int → Int → Bool) (gs : List Nat → List Nat → Bool) : R2 := fun x y H Q => (rI0 fun i j => .bl (g i j)) x y H Q ∨ ∃ i j, x = .str i ∧ y = .str j ∧ Q (.bl (gs i.cps.toList j.cps.toList)) H
theorem opd_ord {g : Int → Int → Bool} {gs : List Nat → List Nat → Bool} : OpD X (rOrd g gs) (ordF g gs) := fun W σ ω h x y v u Q r rx ry p => by
  cases x <;> cases y <;> try exact False.elim p
  · exact .inl ⟨_, _, rd_int rx, rd_int ry, p.here r bl_rd⟩
  · exact .inr ⟨_, _, rd_str rx, rd_str ry, p.here r bl_rd⟩
abbrev ltF := ordF (fun i j => decide (i < j)) (fun a b => decide (a < b))
abbrev leF := ordF (fun i j => decide (i ≤ j)) (fun a b => !decide (b < a))
abbrev gtF := ordF (fun i j => decide (j < i)) (fun a b => decide (b < a))
abbrev geF := ordF (fun i j => decide (j ≤ i)) (fun a b => !decide (a < b))
theorem op_ltA : OpR X (compareOp .Lt) (rOrd (fun i j => decide (i < j)) (fun a b => decide (a < b))) := op_lt.or op_lt_str
theorem op_leA : OpR X (compareOp .LtE) (rOrd (fun i j => decide (i ≤ j)) (fun a b => !decide (b < a))) := op_le.or op_le_str
theorem op_gtA : OpR X (compareOp .Gt) (rOrd (fun i j => decide (j < i)) (fun a b => decide (b < a))) := op_gt.or op_gt_str
theorem op_geA : OpR X (compareOp .GtE) (rOrd (fun i j => decide (j ≤ i)) (fun a b => !decide (a < b))) := op_ge.or op_ge_str
/-! ### is None -/
def isN : D → Bool
  | .non => true
  | _ => false
theorem isN_rel (r : RelD K ω d v) : decide (v = .non) = isN d := by
  cases d with
  | non => rw [rd_non r]; rfl
  | bl b => rw [rd_bl r]; rfl
  | int b => rw [rd_int r]; rfl
  | str b => rw [rd_str r]; rfl
  | ty b => rw [rd_ty r]; rfl
  | tup b => obtain ⟨p, vs, rfl, _⟩ := rd_tup r; rfl
  | lst b => obtain ⟨p, vs, rfl, _⟩ := rd_lst r; rfl
  | scr b => obtain ⟨p, vs, rfl, _⟩ := rd_scr r; rfl
  | dct ks b => unfold RelD at r; obtain ⟨p, vs, rfl, _⟩ := r; rfl
  | ref i => unfold RelD at r; rw [r.2]; rfl
def isnF (x y : D) (h : Hc) : R D := match y with
  | .non => .ok (.bl (isN x)) h
  | _ => .bad
def notnF (x y : D) (h : Hc) : R D := match y with
  | .non => .ok (.bl (!isN x)) h
  | _ => .bad
@[simp] theorem isnF_non (x : D) (h : Hc) : isnF x .non h = .ok (.bl (isN x)) h := Eq.trans rfl rfl
@[simp] theorem notnF_non (x : D) (h : Hc) : notnF x .non h = .ok (.bl (!isN x)) h := Eq.trans rfl rfl
theorem opd_isn : OpD X (fun x y H Q => y = .non ∧ Q (.bl (decide (x = .non))) H) isnF := fun W σ ω h x y v u Q r rx ry p => by
  cases y <;> try exact False.elim p
  exact ⟨rd_non ry, by rw [isN_rel rx]; exact p.here r bl_rd⟩
theorem opd_notn : OpD X (fun x y H Q => y = .non ∧ Q (.bl (!decide (x = .non))) H) notnF := fun W σ ω h x y v u Q r rx ry p => by
  cases y <;> try exact False.elim p
  exact ⟨rd_non ry, by rw [isN_rel rx]; exact p.here r bl_rd⟩
/-! ### == -/
mutual
def toPy : D → Option PyData
  | .non => some .none
  | .bl b => some (.bool b)
  | .int i => some (.int i)
  | .str x => some (.str x)
  | .tup xs => (toPyL xs).map .tuple
  | .lst xs => (toPyL xs).map .list
  | .scr xs => (toPyL xs).map .list
  | _ => none
def toPyL : List D → Option (List PyData)
  | [] => some []
  | d :: ds => match toPy d, toPyL ds with
    | some e, some es => some (e :: es)
    | _, _ => none
end
def toPyR (h : Hc) : D → Option PyData
  | .ref i => match h[i]? with
    | some (.lst xs) => (toPyL xs).map .list
    | _ => none
  | d => toPy d
theorem toPy_rel : (∀ d v e, toPy d = some e → RelD K ω d v → Dp K ω.H v e) ∧ ∀ ds vs es, toPyL ds = some es → RelL K ω ds vs → DpAll K ω.H vs es := by
  have cons : ∀ d ds, (∀ v e, toPy d = some e → RelD K ω d v → Dp K ω.H v e) → (∀ vs es, toPyL ds = some es → RelL K ω ds vs → DpAll K ω.H vs es) → ∀ vs es, toPyL (d :: ds) = some es → RelL K ω (d :: ds) vs → DpAll K ω.H vs es := by
    intro d ds ih1 ih2 vs es q x
    obtain ⟨v, ws, rfl, e2, e3⟩ := x.inv
    unfold toPyL at q
    cases q1 : toPy d with
    | none => simp [q1] at q
    | some e =>
      cases q2 : toPyL ds with
      | none => simp [q1, q2] at q
      | some es' => simp [q1, q2] at q; subst q; exact .cons (ih1 _ _ q1 e2) (ih2 _ _ q2 e3)
  have nil : ∀ vs es, toPyL [] = some es → RelL K ω [] vs → DpAll K ω.H vs es := by
    intro vs es q x
    simp [toPyL] at q; subst q
    rw [x.inv0]; exact .nil
  have aux := @D.rec (motive_1 := fun d => ∀ v e, toPy d = some e → RelD K ω d v → Dp K ω.H v e) (motive_2 := fun ds => ∀ vs es, toPyL ds = some es → RelL K ω ds vs → DpAll K ω.H vs es)
    (fun v e q x => by simp [toPy] at q; subst q; rw [rd_non x]; exact .non) (fun b v e q x => by simp [toPy] at q; subst q; rw [rd_bl x]; exact .bl b) (fun b v e q x => by simp [toPy] at q; subst q; rw [rd_int x]; exact .int b) (fun b v e q x => by simp [toPy] at q; subst q; rw [rd_str x]; exact .str b)
    (fun ds ih v e q x => by
      simp only [toPy, Option.map_eq_some_iff] at q
      obtain ⟨es, q1, rfl⟩ := q
      obtain ⟨p, vs, rfl, e2, e3⟩ := rd_tup x
      exact .tup e2 (ih _ _ q1 e3))
    (fun ds ih v e q x => by
      simp only [toPy, Option.map_eq_some_iff] at q
      obtain ⟨es, q1, rfl⟩ := q
      obtain ⟨p, vs, rfl, e2, e3⟩ := rd_lst x
      exact .lst (.inl (.inl e2)) (ih _ _ q1 e3))
    (fun ds ih v e q x => by
      simp only [toPy, Option.map_eq_some_iff] at q
      obtain ⟨es, q1, rfl⟩ := q
      obtain ⟨p, vs, rfl, e2, e3⟩ := rd_scr x
      exact .lst e2 (ih _ _ q1 e3))
    (fun ks ds ih v e q x => by simp [toPy] at q) (fun i v e q x => by simp [toPy] at q) (fun t v e q x => by simp [toPy] at q) nil (fun d ds ih1 ih2 => cons d ds ih1 ih2)
  refine ⟨aux, fun ds => ?_⟩
  induction ds with
  | nil => exact nil
  | cons d ds ih => exact cons d ds (aux d) ih
theorem toPyR_rel {e : PyData} (r : Rel K ω h) (q : toPyR h d = some e) (x : RelD K ω d v) : Dp K ω.H v e := by
  by_cases hs : ∃ i, d = .ref i
  · obtain ⟨i, rfl⟩ := hs
    unfold toPyR at q
    cases q1 : h[i]? with
    | none => simp [q1] at q
    | some c =>
      cases c with
      | lst xs =>
        simp only [q1, Option.map_eq_some_iff] at q
        obtain ⟨es, q2, rfl⟩ := q
        obtain ⟨vs, _, rfl, e2, e3⟩ := rd_cel r x q1
        exact .lst (.inl (.inl e2)) (toPy_rel.2 _ _ _ q2 e3)
      | _ => simp [q1] at q
  · have q' : toPy d = some e := by cases d <;> first | exact q | exact absurd ⟨_, rfl⟩ hs
    exact toPy_rel.1 _ _ _ q' x
def eqG (neg : Bool) (x y : D) (h : Hc) : R D := match x, y with
  | .int i, .int j => .ok (.bl (if neg then !decide (i = j) else decide (i = j))) h
  | .str i, .str j => .ok (.bl (if neg then !decide (i = j) else decide (i = j))) h
  | .bl i, .bl j => .ok (.bl (if neg then !decide (i = j) else decide (i = j))) h
  | .non, .non => .ok (.bl (!neg)) h
  | .non, .int _ => .ok (.bl neg) h
  | .int _, .non => .ok (.bl neg) h
  | .non, .str _ => .ok (.bl neg) h
  | .str _, .non => .ok (.bl neg) h
  | .int _, .str _ => .ok (.bl neg) h
  | .str _, .int _ => .ok (.bl neg) h
  | x, y => match toPyR h x, toPyR h y with
    | some a, some b => if SeqAt.shaped a = true ∧ SeqAt.shaped b = true then .ok (.bl (if neg then !PyData.eqv a b else PyData.eqv a b)) h else .bad
    | _, _ => .bad
abbrev eqF := eqG false
abbrev neF := eqG true
def rEqA (K : PySem.W.Frag) (neg : Bool) : R2 := fun x y H Q => (scal x y = true ∧ Q (.bl (if neg then !decide (x = y) else decide (x = y))) H) ∨ ∃ d e, Dp K H x d ∧ Dp K H y e ∧ SeqAt.shaped d = true ∧ SeqAt.shaped e = true ∧ Q (.bl (if neg then !PyData.eqv d e else PyData.eqv d e)) H
theorem op_eqA (hu : X.A.units + 64 < cLine) : OpR X (compareOp .Eq) (rEqA X.K false) := op_eq.or (op_eqD hu)
theorem op_neA (hu : X.A.units + 64 < cLine) : OpR X (compareOp .NotEq) (rEqA X.K true) := op_ne.or (op_neD hu)
theorem dec_inj {α : Type} [DecidableEq α] {f : α → V} (hf : ∀ a b, f a = f b → a = b) (a b : α) : decide (f a = f b) = decide (a = b) := by
  by_cases e : a = b
  · subst e; simp
  · rw [decide_eq_false e, decide_eq_false fun z => e (hf _ _ z)]
theorem opd_eqA {neg : Bool} : OpD X (rEqA X.K neg) (eqG neg) := fun W σ ω h x y v u Q r rx ry p => by
  unfold eqG at p
  split at p
  · rw [rd_int rx, rd_int ry]
    exact .inl ⟨rfl, by rw [dec_inj (f := V.int) (fun a b e => by cases e; rfl)]; exact p.here r bl_rd⟩
  · rw [rd_str rx, rd_str ry]
    exact .inl ⟨rfl, by rw [dec_inj (f := V.str) (fun a b e => by cases e; rfl)]; exact p.here r bl_rd⟩
  · rw [rd_bl rx, rd_bl ry]
    exact .inl ⟨rfl, by rw [dec_inj (f := V.bl) (fun a b e => by cases e; rfl)]; exact p.here r bl_rd⟩
  · rw [rd_non rx, rd_non ry]
    exact .inl ⟨rfl, by have := p.here r bl_rd; cases neg <;> exact this⟩
  · rw [rd_non rx, rd_int ry]
    exact .inl ⟨rfl, by have := p.here r bl_rd; cases neg <;> exact this⟩
  · rw [rd_int rx, rd_non ry]
    exact .inl ⟨rfl, by have := p.here r bl_rd; cases neg <;> exact this⟩
  · rw [rd_non rx, rd_str ry]
    exact .inl ⟨rfl, by have := p.here r bl_rd; cases neg <;> exact this⟩
  · rw [rd_str rx, rd_non ry]
    exact .inl ⟨rfl, by have := p.here r bl_rd; cases neg <;> exact this⟩
  · rw [rd_int rx, rd_str ry]
    exact .inl ⟨rfl, by have := p.here r bl_rd; cases neg <;> exact this⟩
  · rw [rd_str rx, rd_int ry]
    exact .inl ⟨rfl, by have := p.here r bl_rd; cases neg <;> exact this⟩
  · split at p
    · rename_i a b q1 q2
      obtain ⟨hs, p⟩ := p.if_
      exact .inr ⟨a, b, toPyR_rel r q1 rx, toPyR_rel r q2 ry, hs.1, hs.2, p.here r bl_rd⟩
    · exact False.elim p
/-! ### in: a flat item in a row of flat items; a sign in a text -/
def scalD : D → Bool
  | .non => true
  | .bl _ => true
  | .int _ => true
  | .str _ => true
  | _ => false
def eqS : D → D → Bool
  | .non, .non => true
  | .bl a, .bl b => a == b
  | .bl a, .int b => (if a then 1 else 0) == b
  | .int a, .bl b => a == (if b then 1 else 0)
  | .int a, .int b => a == b
  | .str a, .str b => a == b
  | _, _ => false
theorem scal_rel (hs : scalD d = true) (r : RelD K ω d v) : flatV v = true := by
  cases d <;> simp [scalD] at hs
  · rw [rd_non r]; rfl
  · rw [rd_bl r]; rfl
  · rw [rd_int r]; rfl
  · rw [rd_str r]; rfl
theorem scalL_rel : ∀ {ds : List D} {vs : List V}, ds.all scalD = true → RelL K ω ds vs → vs.all flatV = true
  | [], vs, _, x => by rw [x.inv0]; rfl
  | d :: ds, vs, hs, x => by
    obtain ⟨v, ws, rfl, e2, e3⟩ := x.inv
    simp only [List.all_cons, Bool.and_eq_true] at hs ⊢
    exact ⟨scal_rel hs.1 e2, scalL_rel hs.2 e3⟩
theorem eqS_rel {e : D} {u : V} (hd : scalD d = true) (he : scalD e = true) (r : RelD K ω d v) (r2 : RelD K ω e u) : eqV v u = eqS d e := by
  cases d <;> simp [scalD] at hd <;> cases e <;> simp [scalD] at he
  all_goals first
    | (rw [rd_non r, rd_non r2]; rfl) | (rw [rd_non r, rd_bl r2]; rfl) | (rw [rd_non r, rd_int r2]; rfl) | (rw [rd_non r, rd_str r2]; rfl)
    | (rw [rd_bl r, rd_non r2]; rfl) | (rw [rd_bl r, rd_bl r2]; rfl) | (rw [rd_bl r, rd_int r2]; rfl) | (rw [rd_bl r, rd_str r2]; rfl)
    | (rw [rd_int r, rd_non r2]; rfl) | (rw [rd_int r, rd_bl r2]; rfl) | (rw [rd_int r, rd_int r2]; rfl) | (rw [rd_int r, rd_str r2]; rfl)
    | (rw [rd_str r, rd_non r2]; rfl) | (rw [rd_str r, rd_bl r2]; rfl) | (rw [rd_str r, rd_int r2]; rfl) | (rw [rd_str r, rd_str r2]; rfl)
theorem any_rel {e : D} {u : V} (he : scalD e = true) (r2 : RelD K ω e u) : ∀ {ds : List D} {vs : List V}, ds.all scalD = true → RelL K ω ds vs → inV u vs = ds.any fun y => eqS y e
  | [], vs, _, x => by rw [x.inv0]; rfl
  | d :: ds, vs, hs, x => by
    obtain ⟨v, ws, rfl, e2, e3⟩ := x.inv
    simp only [List.all_cons, Bool.and_eq_true] at hs
    unfold inV
    rw [List.any_cons, List.any_cons, eqS_rel hs.1 he e2 r2]
    have := any_rel he r2 hs.2 e3
    unfold inV at this
    rw [this]
def inG (neg : Bool) (x y : D) (h : Hc) : R D := match x, y with
  | .str a, .str b => match a.cps.toList with
    | [c] => .ok (.bl (if neg then !decide (c ∈ b.cps.toList) else decide (c ∈ b.cps.toList))) h
    | _ => .bad
  | x, y => match seqD h y with
    | some xs => if scalD x = true ∧ xs.all scalD = true then .ok (.bl (if neg then !(xs.any fun y => eqS y x) else xs.any fun y => eqS y x)) h else .bad
    | none => .bad
def rInA (K : PySem.W.Frag) (neg : Bool) : R2 := fun x y H Q => rIn K neg x y H Q ∨ ∃ (c : Nat) (z : Str), x = .str ⟨#[c]⟩ ∧ y = .str z ∧ Q (.bl (if neg then !decide (c ∈ z.cps.toList) else decide (c ∈ z.cps.toList))) H
theorem op_inA : OpR X (compareOp .In) (rInA X.K false) := op_in_seq.or op_in_sign
theorem op_notInA : OpR X (compareOp .NotIn) (rInA X.K true) := op_notIn_seq.or op_notIn_sign
theorem opd_in {neg : Bool} : OpD X (rInA X.K neg) (inG neg) := fun W σ ω h x y v u Q r rx ry p => by
  unfold inG at p
  split at p
  · rename_i a b
    split at p
    · rename_i c q
      refine .inr ⟨c, b, ?_, rd_str ry, p.here r bl_rd⟩
      rw [rd_str rx]
      obtain ⟨⟨l⟩⟩ := a
      have q' : l = [c] := q
      rw [q']
    · exact False.elim p
  · split at p
    · rename_i xs q
      obtain ⟨⟨h1, h2⟩, p⟩ := p.if_
      obtain ⟨a, vs, e1, e2, e3⟩ := seqD_rel r q ry
      refine .inl ⟨a, vs, e1, e2.symm, scal_rel h1 rx, scalL_rel h2 e3, ?_⟩
      rw [any_rel h1 rx h2 e3]
      exact p.here r bl_rd
    · exact False.elim p
/-! ### subscripts -/
def ixF (x y : D) (h : Hc) : R D := match y with
  | .int i => match x with
    | .str z => if z.length ≤ lim then (match atI z.cps.toList i with
      | some c => .ok (.str ⟨#[c]⟩) h
      | none => .bad) else .bad
    | x => match seqD h x with
      | some xs => match atI xs i with
        | some d => .ok d h
        | none => .bad
      | none => .bad
  | _ => .bad
theorem atI_rel {ds : List D} {vs : List V} {i : Int} (x : RelL K ω ds vs) (e : atI ds i = some d) : ∃ v, atI vs i = some v ∧ RelD K ω d v := by
  unfold atI at e ⊢
  rw [← x.len]
  cases q : ixN ds.length i with
  | none => rw [q] at e; cases e
  | some j =>
    rw [q] at e
    exact x.get e
theorem opd_ix : OpD X (rIx X.K) ixF := fun W σ ω h x y v u Q r rx ry p => by
  unfold ixF at p
  split at p
  · rename_i i
    split at p
    · rename_i z
      obtain ⟨hl, p⟩ := p.if_
      split at p
      · rename_i c q
        exact .inr (.inr ⟨z, i, c, rd_str rx, rd_int ry, lim_le hl, q, p.here r str_rd⟩)
      · exact False.elim p
    · split at p
      · rename_i xs q
        split at p
        · rename_i d q2
          obtain ⟨a, vs, e1, e2, e3⟩ := seqD_rel r q rx
          obtain ⟨w, e4, e5⟩ := atI_rel e3 q2
          rcases e2 with e2 | e2
          · exact .inr (.inl ⟨a, vs, i, w, e1, rd_int ry, e2, e4, p.here r e5⟩)
          · exact .inl ⟨a, vs, i, w, e1, rd_int ry, e2, e4, p.here r e5⟩
        · exact False.elim p
      · exact False.elim p
  · exact False.elim p
/-! ### slices -/
def cutD {α : Type} (xs : List α) (lo hi : Option Int) : List α := (xs.drop (HT.sIx xs.length 0 lo)).take (HT.sIx xs.length xs.length hi - HT.sIx xs.length 0 lo)
def slF (x : D) (lo hi : Option Int) (h : Hc) : R D := match x with
  | .tup xs => .ok (.tup (cutD xs lo hi)) h
  | .str z => if z.length ≤ lim then .ok (.str ⟨(cutD z.cps.toList lo hi).toArray⟩) h else .bad
  | x => match rdlD h x with
    | some xs => .ok (.lst (cutD xs lo hi)) h
    | none => .bad
def slC (x : D) (lo hi : Option Int) (h : Hc) : R D := match rdlD h x with
    | some xs => .ok (.ref h.length) (h ++ [.lst (cutD xs lo hi)])
    | none => .bad
/-- t[lo:hi], its object kept; the whole of it is t itself -/
def rSlF (K : PySem.W.Frag) : V → Option Int → Option Int → Hp → VK → Prop := fun x lo hi H Q => ∃ a l, x = .ref a ∧ SqT K H a l ∧
  (HT.sIx l.length 0 lo = 0 ∧ HT.sIx l.length l.length hi = l.length → Q (.ref a) H) ∧ ∀ (p : Addr) (o : Obj), H p = none → o.dict = none → Q (.ref p) (upd H p (tuO o (cutV l lo hi)))
theorem sl_tupF : SlR X (rSlF X.K) := by
  intro pins s σ H x v vl vu lo hi sl Q I rv isl lw up wish
  obtain ⟨a, l, rfl, ta, g1, g2⟩ := wish
  by_cases whole : HT.sIx l.length 0 lo = 0 ∧ HT.sIx l.length l.length hi = l.length
  · exact sl_tupA pins s σ H _ v vl vu lo hi sl Q I rv isl lw up ⟨a, l, rfl, ta, g1, fun z => absurd whole z⟩
  · cases rv
    obtain ⟨us, w, t1, hz⟩ := I.tuple ta
    have ln : us.toArray.size = l.length := by rw [List.size_toArray]; exact w.length.symm
    refine ⟨"tuple", _, PyProof.Rows.slot_tuple_getitem.lookup, t1.typeIs, HT.getItem_tuple_cut t1 isl lw up (by rw [ln]; exact whole) ?_ (by rw [ln]; exact hz)⟩
    rw [ln]
    exact ⟨.ref s.heap.objs.size, _, laidF (t' := s.toks) (xs := cutV l lo hi) I (fun b u e => Heap.get?_push_of_some _ e) (Nat.le_refl _) (Heap.get?_push_size _ rfl)
      ⟨Nat.le_trans (cutV_length l lo hi) hz, _, (w.drop (HT.sIx l.length 0 lo)).take (HT.sIx l.length l.length hi - HT.sIx l.length 0 lo), IsTup.new _ _⟩, rfl, g2 _ _ (I.hok.fresh (Nat.le_refl _)) rfl⟩
def rSlAll (K : PySem.W.Frag) : V → Option Int → Option Int → Hp → VK → Prop := fun x lo hi H Q => rSlF K x lo hi H Q ∨ (∃ z, x = .str z ∧ z.length ≤ sizeLine ∧ Q (.str (cutS z lo hi)) H) ∨ rSlL K x lo hi H Q
theorem sl_all : SlR X (rSlAll X.K) := sl_tupF.or (sl_str.or sl_list)
def optI (m : Option SE) : Sl → Hc → R (Option Int) := fun ds h => match m with
  | none => .ok none h
  | some m => (m ds h).bd fun d h1 => match d with
    | .int i => .ok (some i) h1
    | _ => .bad
def eSl (f : D → Option Int → Option Int → Hc → R D) (m : SE) (lo hi : Option SE) : SE := fun ds h => (m ds h).bd fun x h1 => (optI lo ds h1).bd fun l h2 => (optI hi ds h2).bd fun u h3 => f x l u h3
end
end Mp
/-! LayF: built-in functions, methods, stores, what is walked. -/
namespace Mp
open PySem PySem.Spec PyProof.Rows L2
section
variable {X : Cx} {W : WX} {K : PySem.W.Frag} {mg : Str → Option Value} {ω ω' : Wo} {h h' : Hc} {d : D} {v : V} {e a b : Expr} {es : List Expr} {m ma mb : SE} {as : SA} {pos p : Pos} {x : Str}
/-! ### slices -/
theorem cut_rel {xs : List D} {vs : List V} (x : RelL K ω xs vs) (lo hi : Option Int) : RelL K ω (cutD xs lo hi) (cutV vs lo hi) := by
  unfold cutD cutV
  rw [x.len]
  exact (x.drop _).take _
theorem cut_all {α : Type} (xs : List α) (lo hi : Option Int) (h1 : HT.sIx xs.length 0 lo = 0) (h2 : HT.sIx xs.length xs.length hi = xs.length) : cutD xs lo hi = xs := by
  unfold cutD
  rw [h1, h2]
  simp
def SlD (X : Cx) (r : V → Option Int → Option Int → Hp → VK → Prop) (f : D → Option Int → Option Int → Hc → R D) : Prop :=
  ∀ (W : WX) (σ : L2.St) (ω : Wo) (h : Hc) (x : D) (lo hi : Option Int) (v : V) (Q : VK), Rel X.K ω h → RelD X.K ω x v → Post X.K X.mg W σ ω (RelD X.K) Q (f x lo hi h) → r v lo hi ω.H Q
theorem sld_f : SlD X (rSlAll X.K) slF := fun W σ ω h x lo hi v Q r rx p => by
  unfold slF at p
  split at p
  · rename_i xs
    obtain ⟨a, vs, e1, e2, e3⟩ := rd_tup rx
    subst e1
    refine .inl ⟨a, vs, rfl, e2, fun z => ?_, fun q o hq hd => ?_⟩
    · rw [← e3.len] at z
      rw [cut_all xs lo hi z.1 z.2] at p
      exact p.here r rx
    · exact p (.ref q) (ω.up q _) (Ext.up hq) (r.up hq) (tup_new r hq hd (cut_rel e3 lo hi))
  · rename_i z
    obtain ⟨hl, p⟩ := p.if_
    exact .inr (.inl ⟨z, rd_str rx, lim_le hl, p.here r str_rd⟩)
  · split at p
    · rename_i xs q
      obtain ⟨a, vs, e1, e2, e3⟩ := rdlD_rel r q rx
      exact .inr (.inr ⟨a, vs, e1, e2, fun q hq => p (.ref q) (ω.up q _) (Ext.up hq) (r.up hq) (fz_new r hq (cut_rel e3 lo hi))⟩)
    · exact False.elim p
abbrev tOI (X : Cx) (W : WX) (m : Option SE) : TO := tOf X.K X.mg W (fun _ a b => a = b) (optI m)
abbrev DO (X : Cx) (W : WX) (e : Option Expr) (m : Option SE) : Prop := PO X e (tOI X W m)
theorem do_none : DO X W none none := ⟨fun pins s σ H Q I q => po_none.run pins s σ H Q I (by
  obtain ⟨ω, h, ds, e1, r, s, p⟩ := q
  subst e1
  exact p _ ω (Ext.refl _) r rfl)⟩
theorem do_some (he : DE X W e m) : DO X W (some e) (some m) := ⟨fun pins s σ H Q I q => (po_some he).run pins s σ H Q I (by
  obtain ⟨ω, h, ds, e1, r, s, p⟩ := q
  subst e1
  refine ⟨ω, h, ds, rfl, r, s, Post.bd (show Post X.K X.mg W σ ω _ Q ((m ds h).bd _) from p) fun d h1 v ω1 e1 r1 d1 p1 => ?_⟩
  split at p1
  · exact ⟨_, rd_int d1, p1 _ ω1 (Ext.refl _) r1 rfl⟩
  · exact False.elim p1)⟩
theorem de_sl {r : V → Option Int → Option Int → Hp → VK → Prop} {f : D → Option Int → Option Int → Hc → R D} {lo hi : Option SE} (h : PE X e (tSl r (tE X W m) (tOI X W lo) (tOI X W hi))) (hd : SlD X r f) : DE X W e (eSl f m lo hi) :=
  de_of h fun σ H Q ⟨ω, h, ds, e1, r, s, p⟩ => by
    subst e1
    exact ⟨ω, h, ds, rfl, r, s, p.bd fun x h1 v ω1 e1 r1 d1 p1 => ⟨ω1, h1, ds, rfl, r1, monoS r e1 s, p1.bd fun l h2 l' ω2 e2 r2 d2 p2 => ⟨ω2, h2, ds, rfl, r2, monoS r (e1.trans e2) s, p2.bd fun u h3 u' ω3 e3 r3 d3 p3 => by
      have d2' : l = l' := d2
      have d3' : u = u' := d3
      subst d2'; subst d3'
      exact hd W σ ω3 h3 x l u v Q r3 (mono r1 (e2.trans e3) _ _ d1) p3⟩⟩⟩
/-! ### built-in functions -/
def CallD (X : Cx) (r : List V → Hp → VK → Prop) (f : List D → Hc → R D) : Prop :=
  ∀ (W : WX) (σ : L2.St) (ω : Wo) (h : Hc) (xs : List D) (vs : List V) (Q : VK), Rel X.K ω h → RelL X.K ω xs vs → Post X.K X.mg W σ ω (RelD X.K) Q (f xs h) → r vs ω.H Q
def eCB (f : List D → Hc → R D) (as : SA) : SE := fun ds h => (as ds h).bd fun xs h1 => f xs h1
theorem de_cb {r : List V → Hp → VK → Prop} {f : List D → Hc → R D} (h : PE X e (tCB r (tA X W as))) (hd : CallD X r f) : DE X W e (eCB f as) := de_of h fun σ H Q ⟨ω, h, ds, e1, r, s, p⟩ => by
  subst e1
  exact ⟨ω, h, ds, rfl, r, s, p.bd fun xs h1 vs ω1 e1 r1 d1 p1 => hd W σ ω1 h1 xs vs Q r1 d1 p1⟩
/-- a dict's keys and values -/
def dctD (h : Hc) : D → Option (List Key × List D)
  | .dct ks ds => some (ks, ds)
  | .ref i => match h[i]? with
    | some (.dct ks ds) => some (ks, ds)
    | _ => none
  | _ => none
theorem dctD_rel {ks : List Key} {ds : List D} (r : Rel K ω h) (e : dctD h d = some (ks, ds)) (x : RelD K ω d v) : ∃ p vs, v = .ref p ∧ ω.H p = some (.dK (ks.zip vs)) ∧ ks.length = vs.length ∧ RelL K ω ds vs := by
  cases d <;> simp [dctD] at e
  · obtain ⟨rfl, rfl⟩ := e
    unfold RelD at x
    obtain ⟨p, vs, e1, e2, e3, e4⟩ := x
    exact ⟨p, vs, e1, e2.1, e3, e4⟩
  · rename_i i
    cases q : h[i]? with
    | none => simp [q] at e
    | some c =>
      cases c with
      | dct ks' ds' =>
        simp [q] at e
        obtain ⟨rfl, rfl⟩ := e
        unfold RelD at x
        obtain ⟨vs, e1, e2, e3⟩ := r.cel i _ q
        exact ⟨_, vs, x.2, e1, e2, e3⟩
      | _ => simp [q] at e
/-- len -/
def lenF (xs : List D) (h : Hc) : R D := match xs with
  | [.str z] => if z.length ≤ lim then .ok (.int z.length) h else .bad
  | [d] => match seqD h d with
    | some ys => .ok (.int ys.length) h
    | none => match dctD h d with
      | some (ks, _) => .ok (.int ks.length) h
      | none => .bad
  | _ => .bad
def rLenA (K : PySem.W.Frag) : List V → Hp → VK → Prop := fun xs H Q => (∃ x n, xs = [x] ∧ LenV K x H n ∧ Q (.int n) H) ∨ ∃ a kvs, xs = [V.ref a] ∧ H a = some (.dK kvs) ∧ Q (.int kvs.length) H
theorem call_lenA : CallR X (.builtin "len") (rLenA X.K) := call_len.or call_lenD
theorem zip_len {ks : List Key} {vs : List V} (e : ks.length = vs.length) : (ks.zip vs).length = ks.length := by rw [List.length_zip, e, Nat.min_self]
theorem cd_len : CallD X (rLenA X.K) lenF := fun W σ ω h xs vs Q r rx p => by
  unfold lenF at p
  split at p
  · rename_i z
    obtain ⟨hl, p⟩ := p.if_
    obtain ⟨v, ws, rfl, e2, e3⟩ := rx.inv
    rw [e3.inv0, rd_str e2]
    exact .inl ⟨_, z.length, rfl, ⟨lim_le hl, rfl⟩, p.here r int_rd⟩
  · obtain ⟨v, ws, rfl, e2, e3⟩ := rx.inv
    rw [e3.inv0]
    split at p
    · rename_i ys q
      obtain ⟨a, us, e1, e4, e5⟩ := seqD_rel r q e2
      refine .inl ⟨v, us.length, rfl, ?_, by rw [← e5.len]; exact p.here r int_rd⟩
      rw [e1]
      exact e4.elim (fun z => .inr ⟨us, z, rfl⟩) fun z => .inl ⟨us, z, rfl⟩
    · split at p
      · rename_i ks ds q
        obtain ⟨a, us, e4, e5, e6, e7⟩ := dctD_rel r q e2
        refine .inr ⟨a, _, by rw [e4], e5, ?_⟩
        rw [zip_len e6]; exact p.here r int_rd
      · exact False.elim p
  · exact False.elim p
/-- isinstance -/
def tyD (h : Hc) : D → Option String
  | .non => some "NoneType"
  | .bl _ => some "bool"
  | .int _ => some "int"
  | .str _ => some "str"
  | .tup _ => some "tuple"
  | .lst _ => some "list"
  | .scr _ => some "list"
  | .dct _ _ => some "dict"
  | .ref i => match h[i]? with
    | some (.lst _) => some "list"
    | some (.dct _ _) => some "dict"
    | _ => none
  | .ty _ => none
theorem tyD_rel {t : String} (r : Rel K ω h) (e : tyD h d = some t) (x : RelD K ω d v) : TyX K ω.H v (.type t) := by
  have tl : ∀ {p : Addr} {vs : List V}, SqL K ω.H p vs → TyX K ω.H (.ref p) (.type "list") := fun z => by
    rcases z with (z | ⟨o, z⟩) | ⟨o, its, n, z1, z2, _⟩
    · exact .base (.lst z)
    · exact .base (.frz z)
    · exact .kList z1 z2
  cases d <;> simp [tyD] at e
  · subst e; rw [rd_non x]; exact .base .non
  · subst e; rw [rd_bl x]; exact .base (.bl _)
  · subst e; rw [rd_int x]; exact .base (.int _)
  · subst e; rw [rd_str x]; exact .base (.str _)
  · subst e
    obtain ⟨p, vs, rfl, z, _⟩ := rd_tup x
    rcases z with (z | ⟨o, z⟩) | ⟨o, its, n, z1, z2, _⟩
    · exact .base (.tup z)
    · exact .fTuple z
    · exact .kTuple z1 z2
  · subst e
    obtain ⟨p, vs, rfl, z, _⟩ := rd_lst x
    exact tl (.inl (.inl z))
  · subst e
    obtain ⟨p, vs, rfl, z, _⟩ := rd_scr x
    exact tl z
  · rename_i ks ds
    subst e
    obtain ⟨p, vs, rfl, z, _⟩ := dctD_rel (d := .dct ks ds) r rfl x
    exact .base (.dK z)
  · rename_i i
    cases q : h[i]? with
    | none => simp [q] at e
    | some c =>
      cases c with
      | lst ys =>
        simp [q] at e; subst e
        obtain ⟨vs, _, rfl, z, _⟩ := rd_cel r x q
        exact tl (.inl (.inl z))
      | dct ks ds =>
        simp [q] at e; subst e
        obtain ⟨p, vs, rfl, z, _⟩ := dctD_rel (d := .ref i) (ks := ks) (ds := ds) r (by simp only [dctD, q]) x
        exact .base (.dK z)
      | _ => simp [q] at e
def tyNames : List String := ["NoneType", "bool", "int", "str", "tuple", "list", "dict"]
def isB (a b : String) : Bool := a == b || (a == "bool" && b == "int")
theorem isB_ok : ∀ a ∈ tyNames, ∀ b ∈ (["bool", "int", "str", "tuple", "list", "dict"] : List String), kitB a b = some (isB a b) := by decide +kernel
theorem tyD_in {t : String} (e : tyD h d = some t) : t ∈ tyNames := by
  cases d <;> simp [tyD] at e <;> try (subst e; decide)
  rename_i i
  cases q : h[i]? with
  | none => simp [q] at e
  | some c => cases c <;> simp [q] at e <;> subst e <;> decide
def tyAsked : List String := ["bool", "int", "str", "tuple", "list", "dict"]
def isF (xs : List D) (h : Hc) : R D := match xs with
  | [x, .ty b] => match tyD h x with
    | some t => if tyAsked.contains b = true then .ok (.bl (isB t b)) h else .bad
    | none => .bad
  | _ => .bad
theorem cd_is : CallD X (rIsi X.K) isF := fun W σ ω h xs vs Q r rx p => by
  unfold isF at p
  split at p
  · rename_i x b
    split at p
    · rename_i t q1
      obtain ⟨hc, p⟩ := p.if_
      obtain ⟨v, ws, rfl, e2, e3⟩ := rx.inv
      obtain ⟨u, ws', rfl, e4, e5⟩ := e3.inv
      rw [e5.inv0]
      exact ⟨v, u, .type t, .type b, isB t b, rfl, by rw [rd_ty e4]; exact .ty b, tyD_rel r q1 e2, kit_ty (isB_ok t (tyD_in q1) b (by simpa [tyAsked] using hc)), p.here r bl_rd⟩
    · exact False.elim p
  · exact False.elim p
/-- isinstance(x, (A, B)) -/
def eIs2 (m : SE) (a b : String) : SE := fun ds h => (m ds h).bd fun x h1 => match tyD h1 x with
  | some t => if tyAsked.contains a = true ∧ tyAsked.contains b = true then .ok (.bl (isB t a || isB t b)) h1 else .bad
  | none => .bad
theorem TyX.up {t : Value} {q : Addr} {o : HO} (hq : ω.H q = none) (x : TyX K ω.H v t) : TyX K (upd ω.H q o) v t := by
  have ne : ∀ {a : Addr} {u : HO}, ω.H a = some u → (upd ω.H q o) a = some u := fun z => by rw [upd_ne (ne_of_none z hq)]; exact z
  cases x with
  | base z =>
    cases z with
    | non => exact .base .non
    | bl b => exact .base (.bl b)
    | int i => exact .base (.int i)
    | str i => exact .base (.str i)
    | flt i => exact .base (.flt i)
    | lst e => exact .base (.lst (ne e))
    | frz e => exact .base (.frz (ne e))
    | tup e => exact .base (.tup (ne e))
    | dK e => exact .base (.dK (ne e))
    | dT e => exact .base (.dT (ne e))
    | ins e a b c d f => exact .base (.ins (ne e) a b c d f)
  | byt b => exact .byt b
  | set e => exact .set (ne e)
  | kList e c => exact .kList e c
  | kTuple e c => exact .kTuple e c
  | kDict e c => exact .kDict e c
  | fTuple e => exact .fTuple (ne e)
  | fDict e => exact .fDict (ne e)
theorem de_is2 {a b : String} {e : Expr} (h : PE X e (tCB (rIsiT X.K) (tCons (tE X W m) (tCons (tTup (tCons (tC (.ty a)) (tCons (tC (.ty b)) tNil))) tNil)))) : DE X W e (eIs2 m a b) := de_of h fun σ H Q ⟨ω, h, ds, e1, r, s, p⟩ => by
  subst e1
  refine ⟨ω, h, ds, rfl, r, s, Post.bd (show Post X.K X.mg W σ ω _ Q ((m ds h).bd _) from p) fun x h1 v ω1 e1 r1 d1 p1 => ?_⟩
  split at p1
  · rename_i t q1
    obtain ⟨⟨ha, hb⟩, p1⟩ := p1.if_
    refine ⟨by show 2 ≤ sizeLine; decide, fun q hq => ⟨v, q, [.ty a, .ty b], .type t, [.type a, .type b], isB t a || isB t b, rfl, upd_same, .cons (.ty a) (.cons (.ty b) .nil), TyX.up hq (tyD_rel r1 q1 d1), ?_, p1 _ (ω1.up q _) (Ext.up hq) (r1.up hq) bl_rd⟩⟩
    have za := kit_ty (K := X.K) (isB_ok t (tyD_in q1) a (by simpa [tyAsked] using ha))
    have zb := kit_ty (K := X.K) (isB_ok t (tyD_in q1) b (by simpa [tyAsked] using hb))
    refine kitAny_cons za (fun z => ?_) fun z => by rw [z]; rfl
    refine kitAny_cons zb (fun z2 => ?_) fun z2 => by rw [z, z2]; rfl
    rw [z, z2]; exact kitAny_nil
  · exact False.elim p1
/-- int -/
def intF (xs : List D) (h : Hc) : R D := match xs with
  | [.int i] => .ok (.int i) h
  | [.bl b] => .ok (.int (if b then 1 else 0)) h
  | _ => .bad
@[simp] theorem intF_int (i : Int) (h : Hc) : intF [.int i] h = .ok (.int i) h := Eq.trans rfl rfl
theorem cd_int : CallD X (fun xs H Q => (∃ i, xs = [.int i] ∧ Q (.int i) H) ∨ ∃ k, xs = [.bl k] ∧ Q (.int (if k then 1 else 0)) H) intF := fun W σ ω h xs vs Q r rx p => by
  unfold intF at p
  split at p
  · obtain ⟨v, ws, rfl, e2, e3⟩ := rx.inv
    rw [e3.inv0, rd_int e2]
    exact .inl ⟨_, rfl, p.here r int_rd⟩
  · obtain ⟨v, ws, rfl, e2, e3⟩ := rx.inv
    rw [e3.inv0, rd_bl e2]
    exact .inr ⟨_, rfl, p.here r int_rd⟩
  · exact False.elim p
/-- math.gcd -/
def gcdF (xs : List D) (h : Hc) : R D := match xs with
  | [.int i, .int j] => .ok (.int ((Nat.gcd i.natAbs j.natAbs : Nat) : Int)) h
  | _ => .bad
@[simp] theorem gcdF_int (i j : Int) (h : Hc) : gcdF [.int i, .int j] h = .ok (.int ((Nat.gcd i.natAbs j.natAbs : Nat) : Int)) h := Eq.trans rfl rfl
theorem cd_gcd : CallD X rGcd gcdF := fun W σ ω h xs vs Q r rx p => by
  unfold gcdF at p
  split at p
  · obtain ⟨v, ws, rfl, e2, e3⟩ := rx.inv
    obtain ⟨v', ws', rfl, e4, e5⟩ := e3.inv
    rw [e5.inv0, rd_int e2, rd_int e4]
    exact ⟨_, _, rfl, p.here r int_rd⟩
  · exact False.elim p
/-- tuple(xs), list(xs) -/
def tupleF (xs : List D) (h : Hc) : R D := match xs with
  | [.tup ys] => .ok (.tup ys) h
  | [d] => match rdlD h d with
    | some ys => .ok (.tup ys) h
    | none => .bad
  | _ => .bad
/-- tuple(xs), its object kept -/
def rTupF (K : PySem.W.Frag) : List V → Hp → VK → Prop := fun xs H Q => ∃ p ys, xs = [.ref p] ∧ ((SqL K H p ys ∧ ∀ (l : Addr) (o : Obj), H l = none → o.dict = none → Q (.ref l) (upd H l (tuO o ys))) ∨ (SqT K H p ys ∧ Q (.ref p) H))
theorem call_tupF : CallR X (.type "tuple") (rTupF X.K) := by
  intro pins s σ H xs us Q I rv wish
  obtain ⟨p, ys, rfl, wish⟩ := wish
  rcases wish with ⟨sq, g⟩ | ⟨sq, g⟩
  · obtain ⟨u, rfl, ru⟩ := vals1 rv
    cases ru
    obtain ⟨its, w, pl, hz⟩ := I.list sq
    have ln := w.length
    refine call_tuple_list pl.isList (fun h' kp => ?_) (by simp only [List.size_toArray] <;> omega)
    have J : Inv X pins σ H { s with heap := h' } := I.kept (t' := s.toks) kp
    exact ⟨.ref h'.objs.size, _, laidF (s := { s with heap := h' }) (q := h'.objs.size) (t' := s.toks) (xs := ys) J (fun b o e => Heap.get?_push_of_some _ e) (Nat.le_refl _) (Heap.get?_push_size _ rfl) ⟨hz, its, w, IsTup.new _ _⟩, rfl, g _ _ (J.hok.fresh (Nat.le_refl _)) rfl⟩
  · exact call_tuple_of pins s σ H _ us Q I rv ⟨p, ys, rfl, .inr ⟨sq, g⟩⟩
theorem cd_tuple : CallD X (rTupF X.K) tupleF := fun W σ ω h xs vs Q r rx p => by
  unfold tupleF at p
  split at p
  · obtain ⟨v, ws, rfl, e2, e3⟩ := rx.inv
    rw [e3.inv0]
    obtain ⟨a, us, e4, e5, e6⟩ := rd_tup e2
    subst e4
    exact ⟨a, us, rfl, .inr ⟨e5, p.here r e2⟩⟩
  · obtain ⟨v, ws, rfl, e2, e3⟩ := rx.inv
    rw [e3.inv0]
    split at p
    · rename_i ys q
      obtain ⟨a, us, e4, e5, e6⟩ := rdlD_rel r q e2
      subst e4
      exact ⟨a, us, rfl, .inl ⟨e5, fun l o hl hd => p (.ref l) (ω.up l _) (Ext.up hl) (r.up hl) (tup_new r hl hd e6)⟩⟩
    · exact False.elim p
  · exact False.elim p
def listF (xs : List D) (h : Hc) : R D := match xs with
  | [d] => match seqD h d with
    | some ys => .ok (.lst ys) h
    | none => .bad
  | _ => .bad
def listC (xs : List D) (h : Hc) : R D := match xs with
  | [d] => match seqD h d with
    | some ys => .ok (.ref h.length) (h ++ [.lst ys])
    | none => .bad
  | _ => .bad
/-- sum, all, any of a list -/
def intsD : List D → Option (List Int)
  | [] => some []
  | .int i :: r => (intsD r).map (i :: ·)
  | _ :: _ => none
def blsD : List D → Option (List Bool)
  | [] => some []
  | .bl i :: r => (blsD r).map (i :: ·)
  | _ :: _ => none
def strsD : List D → Option (List Str)
  | [] => some []
  | .str i :: r => (strsD r).map (i :: ·)
  | _ :: _ => none
theorem intsD_eq : ∀ {ds : List D} {ns : List Int}, intsD ds = some ns → ds = ns.map D.int
  | [], ns, e => by simp [intsD] at e; subst e; rfl
  | d :: ds, ns, e => by
    cases d <;> simp [intsD] at e
    obtain ⟨a, e1, rfl⟩ := e
    rw [intsD_eq e1]; rfl
theorem blsD_eq : ∀ {ds : List D} {ns : List Bool}, blsD ds = some ns → ds = ns.map D.bl
  | [], ns, e => by simp [blsD] at e; subst e; rfl
  | d :: ds, ns, e => by
    cases d <;> simp [blsD] at e
    obtain ⟨a, e1, rfl⟩ := e
    rw [blsD_eq e1]; rfl
theorem strsD_eq : ∀ {ds : List D} {ns : List Str}, strsD ds = some ns → ds = ns.map D.str
  | [], ns, e => by simp [strsD] at e; subst e; rfl
  | d :: ds, ns, e => by
    cases d <;> simp [strsD] at e
    obtain ⟨a, e1, rfl⟩ := e
    rw [strsD_eq e1]; rfl
@[simp] theorem blsD_map (ns : List Bool) : blsD (ns.map D.bl) = some ns := by induction ns with
  | nil => rfl
  | cons n ns ih => simp [blsD, ih]
@[simp] theorem strsD_map (ns : List Str) : strsD (ns.map D.str) = some ns := by induction ns with
  | nil => rfl
  | cons n ns ih => simp [strsD, ih]
/-- one list of ints (bools), and what is made of it -/
def lF {α : Type} (get : List D → Option (List α)) (g : List α → D) (xs : List D) (h : Hc) : R D := match xs with
  | [d] => match rdlD h d with
    | some ys => match get ys with
      | some ns => .ok (g ns) h
      | none => .bad
    | none => .bad
  | _ => .bad
abbrev sumF := lF intsD fun ns => .int ns.sum
abbrev allF := lF blsD fun bs => .bl (bs.all id)
abbrev anyF := lF blsD fun bs => .bl (bs.any id)
theorem lF_get {α : Type} {get : List D → Option (List α)} {g : List α → D} {xs : List D} {vs : List V} {Q : VK} {σ : L2.St} (r : Rel X.K ω h) (rx : RelL X.K ω xs vs) (p : Post X.K X.mg W σ ω (RelD X.K) Q (lF get g xs h)) :
    ∃ a us ys ns, vs = [.ref a] ∧ SqL X.K ω.H a us ∧ get ys = some ns ∧ RelL X.K ω ys us ∧ Post X.K X.mg W σ ω (RelD X.K) Q (.ok (g ns) h) := by
  unfold lF at p
  split at p
  · obtain ⟨v, ws, rfl, e2, e3⟩ := rx.inv
    rw [e3.inv0]
    split at p
    · rename_i ys q
      split at p
      · rename_i ns q2
        obtain ⟨a, us, e4, e5, e6⟩ := rdlD_rel r q e2
        subst e4
        exact ⟨a, us, ys, ns, rfl, e5, q2, e6, p⟩
      · exact False.elim p
    · exact False.elim p
  · exact False.elim p
theorem cd_all : CallD X (rAll X.K) allF := fun W σ ω h xs vs Q r rx p => by
  obtain ⟨a, us, ys, ns, rfl, e1, e2, e3, p⟩ := lF_get r rx p
  rw [blsD_eq e2] at e3
  rw [e3.bls] at e1
  exact ⟨a, ns, rfl, e1, p.here r bl_rd⟩
/-! ### methods of lists -/
def MtD (X : Cx) (T : String) (r : V → List V → Hp → VK → Prop) (f : D → List D → Hc → R D) : Prop :=
  ∀ (W : WX) (σ : L2.St) (ω : Wo) (h : Hc) (x : D) (xs : List D) (v : V) (vs : List V) (Q : VK), Rel X.K ω h → RelD X.K ω x v → RelL X.K ω xs vs → Post X.K X.mg W σ ω (RelD X.K) Q (f x xs h) → r v vs ω.H Q
/-- of which type the receiver is, as it is read ahead of the arguments -/
def kindOk (h : Hc) (T : String) (x : D) : Bool := if T == "str" then (match x with | .str _ => true | _ => false) else if T == "list" then (rdlD h x).isSome else if T == "dict" then (dctD h x).isSome else false
theorem kindOk_rel {T : String} (r : Rel K ω h) (e : kindOk h T d = true) (x : RelD K ω d v) : tyV K T v ω.H := by
  unfold kindOk at e
  split at e
  · rename_i ht
    have ht' : T = "str" := by simpa using ht
    subst ht'
    cases d <;> simp at e
    rw [rd_str x]; rfl
  · split at e
    · rename_i ht
      have ht' : T = "list" := by simpa using ht
      subst ht'
      obtain ⟨ys, q⟩ := Option.isSome_iff_exists.mp e
      obtain ⟨a, us, rfl, e5, e6⟩ := rdlD_rel r q x
      exact .inl ⟨rfl, us, e5⟩
    · split at e
      · rename_i ht
        have ht' : T = "dict" := by simpa using ht
        subst ht'
        obtain ⟨⟨ks, ds⟩, q⟩ := Option.isSome_iff_exists.mp e
        obtain ⟨a, us, rfl, e5, e6⟩ := dctD_rel r q x
        exact .inr (.inr (.inl ⟨rfl, .inl ⟨_, e5⟩⟩))
      · cases e
def eBM (T : String) (f : D → List D → Hc → R D) (m : SE) (as : SA) : SE := fun ds h => (m ds h).bd fun x h1 => if kindOk h1 T x = true then (as ds h1).bd fun xs h2 => f x xs h2 else .bad
def eBM0 (T : String) (f : D → List D → Hc → R D) (m : SE) : SE := fun ds h => (m ds h).bd fun x h1 => if kindOk h1 T x = true then f x [] h1 else .bad
theorem de_bm {T : String} {r : V → List V → Hp → VK → Prop} {f : D → List D → Hc → R D} (h : PE X e (tBM X.K T r (tE X W m) (tA X W as))) (hd : MtD X T r f) : DE X W e (eBM T f m as) := de_of h fun σ H Q ⟨ω, h, ds, e1, r, s, p⟩ => by
  subst e1
  refine ⟨ω, h, ds, rfl, r, s, Post.bd (show Post X.K X.mg W σ ω _ Q ((m ds h).bd _) from p) fun x h1 v ω1 e1 r1 d1 p1 => ?_⟩
  obtain ⟨hk, p1⟩ := p1.if_
  exact ⟨kindOk_rel r1 hk d1, ω1, h1, ds, rfl, r1, monoS r e1 s, p1.bd fun xs h2 vs ω2 e2 r2 d2 p2 => hd W σ ω2 h2 x xs v vs Q r2 (mono r1 e2 _ _ d1) d2 p2⟩
theorem de_bm0 {T : String} {r : V → List V → Hp → VK → Prop} {f : D → List D → Hc → R D} (h : PE X e (tBM0 X.K T r (tE X W m))) (hd : MtD X T r f) : DE X W e (eBM0 T f m) := de_of h fun σ H Q ⟨ω, h, ds, e1, r, s, p⟩ => by
  subst e1
  refine ⟨ω, h, ds, rfl, r, s, Post.bd (show Post X.K X.mg W σ ω _ Q ((m ds h).bd _) from p) fun x h1 v ω1 e1 r1 d1 p1 => ?_⟩
  obtain ⟨hk, p1⟩ := p1.if_
  exact ⟨kindOk_rel r1 hk d1, hd W σ ω1 h1 x [] v [] Q r1 d1 RelL.nil p1⟩
/-- xs.append(d) -/
def appF (x : D) (as : List D) (h : Hc) : R D := match x, as with
  | .ref i, [d] => match h[i]? with
    | some (.lst xs) => if xs.length < lim then .ok .non (h.set i (.lst (xs ++ [d]))) else .bad
    | _ => .bad
  | _, _ => .bad
theorem put_lst {i : Nat} {xs ys : List D} {vs : List V} (r : Rel K ω h) (q : h[i]? = some (.lst xs)) (y : RelL K ω ys vs) :
    Ext ω (ω.up (ω.β i) (.lst vs)) ∧ Rel K (ω.up (ω.β i) (.lst vs)) (h.set i (.lst ys)) := by
  have hi : i < ω.n := by rw [r.n]; exact (List.getElem?_eq_some_iff.mp q).1
  obtain ⟨_, ho, _⟩ := r.cel i _ q
  have e := Ext.put (o := .lst vs) hi ho
  exact ⟨e, r.put hi ho ⟨vs, upd_same, monoL r e _ _ y⟩⟩
theorem md_app : MtD X "list" rAppend appF := fun W σ ω h x xs v vs Q r rx ry p => by
  unfold appF at p
  split at p
  · rename_i i d
    split at p
    · rename_i ys q
      obtain ⟨hl, p⟩ := p.if_
      obtain ⟨us, hi, rfl, e2, e3⟩ := rd_cel r rx q
      obtain ⟨u, ws, rfl, e4, e5⟩ := ry.inv
      rw [e5.inv0]
      obtain ⟨e, r'⟩ := put_lst r q (e3.append (RelL.cons e4 RelL.nil))
      exact ⟨_, us, u, rfl, rfl, e2, by rw [← e3.len]; exact lim_lt hl, p _ _ e r' non_rd⟩
    · exact False.elim p
  · exact False.elim p
/-- xs.pop() -/
def popF (x : D) (as : List D) (h : Hc) : R D := match x, as with
  | .ref i, [] => match h[i]? with
    | some (.lst xs) => match xs[xs.length - 1]? with
      | some d => .ok d (h.set i (.lst xs.dropLast))
      | none => .bad
    | _ => .bad
  | _, _ => .bad
theorem RelL.dropLast {xs : List D} {vs : List V} (x : RelL K ω xs vs) : RelL K ω xs.dropLast vs.dropLast := by
  rw [List.dropLast_eq_take, List.dropLast_eq_take, x.len]
  exact x.take _
theorem md_pop : MtD X "list" rPop popF := fun W σ ω h x xs v vs Q r rx ry p => by
  unfold popF at p
  split at p
  · rename_i i
    split at p
    · rename_i ys q
      split at p
      · rename_i d q2
        obtain ⟨us, hi, rfl, e2, e3⟩ := rd_cel r rx q
        rw [ry.inv0]
        obtain ⟨w, e4, e5⟩ := e3.get q2
        obtain ⟨e, r'⟩ := put_lst r q e3.dropLast
        exact ⟨_, us, w, rfl, rfl, e2, by rw [← e3.len]; exact e4, p _ _ e r' (mono r e _ _ e5)⟩
      · exact False.elim p
    · exact False.elim p
  · exact False.elim p
/-! ### stores -/
def SetD (X : Cx) (r : TSet) (f : D → D → D → Hc → Option Hc) : Prop :=
  ∀ (ω : Wo) (h h' : Hc) (o i x : D) (ov iv v : V) (Q : Hp → Prop), Rel X.K ω h → RelD X.K ω o ov → RelD X.K ω i iv → RelD X.K ω x v → f o i x h = some h' → (∀ ω', Ext ω ω' → Rel X.K ω' h' → Q ω'.H) → r ov iv v ω.H Q
def setF (o i x : D) (h : Hc) : Option Hc := match o, i with
  | .ref j, .int k => match h[j]? with
    | some (.lst xs) => (ixN xs.length k).map fun n => h.set j (.lst (xs.set n x))
    | _ => none
  | _, _ => none
theorem sd_set : SetD X rSetL setF := fun ω h h' o i x ov iv v Q r ro ri rx e q => by
  unfold setF at e
  split at e
  · rename_i j k
    split at e
    · rename_i xs q1
      rw [Option.map_eq_some_iff] at e
      obtain ⟨n, e1, rfl⟩ := e
      obtain ⟨us, hj, rfl, e2, e3⟩ := rd_cel r ro q1
      obtain ⟨ex, r'⟩ := put_lst r q1 (RelL.set rx n e3)
      exact ⟨_, us, k, n, rfl, rd_int ri, e2, by rw [← e3.len]; exact e1, q _ ex r'⟩
    · cases e
  · cases e
def sPut (f : D → D → D → Hc → Option Hc) (me mo mi : SE) : SS := fun ds h => sBd (me ds h) ds fun x h1 => sBd (mo ds h1) ds fun o h2 => sBd (mi ds h2) ds fun i h3 => match f o i x h3 with
  | some h4 => .nx ds h4
  | none => .bad
theorem ds_put {o i e : Expr} {me mo mi : SE} {r : TSet} {f : D → D → D → Hc → Option Hc} {p' : Pos} (h : PS X (.Assign [.Subscript o i p'] e pos) (tAsg (tE X W me) (gSub (tE X W mo) (tE X W mi) r))) (hd : SetD X r f) : DS X W (.Assign [.Subscript o i p'] e pos) (sPut f me mo mi) :=
  ds_of h fun E σ H ⟨ω, h, ds, e1, r, s, p⟩ => by
    subst e1
    refine ⟨ω, h, ds, rfl, r, s, PostO.bd r s p fun x h1 v ω1 e1 r1 d1 s1 p1 => ⟨ω1, h1, ds, rfl, r1, s1, PostO.bd r1 s1 p1 fun o h2 u ω2 e2 r2 d2 s2 p2 => ⟨ω2, h2, ds, rfl, r2, s2, PostO.bd r2 s2 p2 fun i h3 w ω3 e3 r3 d3 s3 p3 => ?_⟩⟩⟩
    cases q : f o i x h3 with
    | none => rw [q] at p3; exact False.elim p3
    | some h4 =>
      rw [q] at p3
      exact hd ω3 h3 h4 o i x u w v _ r3 (mono r2 e3 _ _ d2) d3 (mono r1 (e2.trans e3) _ _ d1) q fun ω4 e4 r4 => p3 σ ω4 e4 r4 (monoS r3 e4 s3)
/-- x op= e -/
def sAug (i : Nat) (f : D → D → Hc → R D) (me : SE) : SS := fun ds h => match ds[i]? with
  | some (some x) => sBd ((me ds h).bd fun y h1 => f x y h1) ds fun z h2 => .nx (ds.set i (some z)) h2
  | _ => .bad
theorem ds_aug {st : Stmt} {i : Nat} {me : SE} {r : R2} {f : D → D → Hc → R D} (h : PS X st (tAug i (tE X W me) r)) (hd : OpD X r f) : DS X W st (sAug i f me) := ds_of h fun E σ H ⟨ω, h, ds, e1, r, s, p⟩ => by
  subst e1
  unfold sAug at p
  split at p
  · rename_i x q
    obtain ⟨v, e2, rx⟩ := s.2 i x q
    refine ⟨v, e2, ω, h, ds, rfl, r, s, ?_⟩
    have p' : Post X.K X.mg W σ ω (RelD X.K) (fun z H2 => E.nx (σ.set i (some z)) H2) ((me ds h).bd fun y h1 => f x y h1) := PostO.bd r s p fun z h2 w ω2 e2 r2 d2 s2 p2 => p2 _ ω2 (Ext.refl _) r2 (s2.set i d2)
    exact p'.bd fun y h1 u ω1 e1 r1 d1 p1 => hd W σ ω1 h1 x y v u _ r1 (mono r e1 _ _ rx) d1 p1
  · exact False.elim p
/-! ### what is walked -/
mutual
/-- equality of data, to be reckoned -/
def eqDD : D → D → Bool
  | .non, .non => true
  | .bl a, .bl b => a == b
  | .int a, .int b => decide (a = b)
  | .str a, .str b => decide (a = b)
  | .ty a, .ty b => decide (a = b)
  | .tup a, .tup b => eqDL a b
  | .lst a, .lst b => eqDL a b
  | .scr a, .scr b => eqDL a b
  | .dct k a, .dct l b => decide (k = l) && eqDL a b
  | .ref a, .ref b => decide (a = b)
  | _, _ => false
def eqDL : List D → List D → Bool
  | [], [] => true
  | a :: r, b :: s => eqDD a b && eqDL r s
  | _, _ => false
end
mutual
theorem eqDD_eq : ∀ (a b : D), eqDD a b = true → a = b
  | .non, b, h => by cases b <;> simp [eqDD] at h ⊢
  | .bl x, b, h => by cases b <;> simp [eqDD] at h ⊢; exact h
  | .int x, b, h => by cases b <;> simp [eqDD] at h ⊢; exact h
  | .str x, b, h => by cases b <;> simp [eqDD] at h ⊢; exact h
  | .ty x, b, h => by cases b <;> simp [eqDD] at h ⊢; exact h
  | .tup x, b, h => by cases b <;> simp [eqDD] at h ⊢; exact eqDL_eq _ _ h
  | .lst x, b, h => by cases b <;> simp [eqDD] at h ⊢; exact eqDL_eq _ _ h
  | .scr x, b, h => by cases b <;> simp [eqDD] at h ⊢; exact eqDL_eq _ _ h
  | .dct k x, b, h => by cases b <;> simp [eqDD] at h ⊢; exact ⟨h.1, eqDL_eq _ _ h.2⟩
  | .ref x, b, h => by cases b <;> simp [eqDD] at h ⊢; exact h
theorem eqDL_eq : ∀ (a b : List D), eqDL a b = true → a = b
  | [], b, h => by cases b <;> simp [eqDL] at h ⊢
  | x :: r, b, h => by
    cases b with
    | nil => simp [eqDL] at h
    | cons y s =>
      simp [eqDL] at h
      rw [eqDD_eq _ _ h.1, eqDL_eq _ _ h.2]
end
mutual
theorem eqDD_self : ∀ (a : D), eqDD a a = true
  | .non => by unfold eqDD; rfl
  | .bl x => by unfold eqDD; simp
  | .int x => by unfold eqDD; simp
  | .str x => by unfold eqDD; simp
  | .ty x => by unfold eqDD; simp
  | .tup x => by unfold eqDD; exact eqDL_self x
  | .lst x => by unfold eqDD; exact eqDL_self x
  | .scr x => by unfold eqDD; exact eqDL_self x
  | .dct k x => by unfold eqDD; simp [eqDL_self x]
  | .ref x => by unfold eqDD; simp
theorem eqDL_self : ∀ (a : List D), eqDL a a = true
  | [] => by unfold eqDL; rfl
  | x :: r => by unfold eqDL; simp [eqDD_self x, eqDL_self r]
end
/-- the sequence is as it was -/
def chkQ (d : D) (xs : List D) : Hc → Bool := fun h' => match seqD h' d with
  | some ys => eqDL ys xs
  | none => false
theorem chkQ_spec {d : D} {xs : List D} {h' : Hc} (e : chkQ d xs h' = true) : seqD h' d = some xs := by
  unfold chkQ at e
  split at e
  · rename_i ys q
    rw [q, eqDL_eq _ _ e]
  · cases e
theorem chkQ_of {d : D} {xs : List D} {h' : Hc} (e : seqD h' d = some xs) : chkQ d xs h' = true := by
  unfold chkQ
  rw [e]
  exact eqDL_self xs
/-- a sequence -/
def iSeq (m : SE) : SI := fun ds h => (m ds h).bd fun d h1 => match seqD h1 d with
  | some xs => .ok ⟨xs, chkQ d xs⟩ h1
  | none => .bad
theorem itOk_list {xs : List D} {a : Addr} (r : Rel K ω h) (x : RelD K ω d (.ref a)) (hs : ∀ h', seqD h' d = some xs → rdlD h' d = some xs) : ItOk K ω ⟨xs, chkQ d xs⟩ (Itl K a) := fun i ω' h' e r' hk => by
  replace hk : seqD h' d = some xs := chkQ_spec (show chkQ d xs h' = true from hk)
  obtain ⟨p, vs, e1, e2, e3⟩ := rdlD_rel r' (hs h' hk) (mono r e _ _ x)
  cases e1
  refine ⟨fun d hd => ?_, fun hn => ⟨vs, e2, ?_⟩⟩
  · obtain ⟨v, e4, e5⟩ := e3.get hd
    refine ⟨⟨vs, v, e2, e4⟩, fun y H' ⟨e6, e7⟩ => ⟨ω', e6.symm, Ext.refl _, r', ?_⟩⟩
    have := e7 vs e2
    rw [e4] at this
    cases this
    exact e5
  · rw [← e3.len]; exact List.getElem?_eq_none_iff.mp hn
theorem itOk_tup {xs : List D} {a : Addr} (r : Rel K ω h) (x : RelD K ω (.tup xs) (.ref a)) : ItOk K ω ⟨xs, chkQ (.tup xs) xs⟩ (Itt K a) := fun i ω' h' e r' hk => by
  replace hk : seqD h' (.tup xs) = some xs := chkQ_spec (show chkQ (.tup xs) xs h' = true from hk)
  obtain ⟨p, vs, e1, e2, e3⟩ := rd_tup (mono r e _ _ x)
  cases e1
  refine ⟨fun d hd => ?_, fun hn => ⟨vs, e2, ?_⟩⟩
  · obtain ⟨v, e4, e5⟩ := e3.get hd
    refine ⟨⟨vs, v, e2, e4⟩, fun y H' ⟨e6, e7⟩ => ⟨ω', e6.symm, Ext.refl _, r', ?_⟩⟩
    have := e7 vs e2
    rw [e4] at this
    cases this
    exact e5
  · rw [← e3.len]; exact List.getElem?_eq_none_iff.mp hn
def isTup : D → Bool
  | .tup _ => true
  | _ => false
theorem rdl_of_seq {xs : List D} (hn : isTup d = false) (e : seqD h d = some xs) : rdlD h d = some xs := by
  cases d <;> simp [isTup] at hn <;> first | exact e | (simp [seqD] at e)
theorem di_seq {tg : Expr} (he : DE X W e m) : DI X W tg e (iSeq m) := di_of (pi_or (pi_list he) (pi_tup he)) fun σ H R ⟨ω, h, ds, e1, r, s, p⟩ => by
  subst e1
  have p' : Post X.K X.mg W σ ω (ItOk X.K) R ((m ds h).bd fun d h1 => match seqD h1 d with
    | some xs => .ok ⟨xs, chkQ d xs⟩ h1
    | none => .bad) := p
  cases q : m ds h with
  | ok d h1 =>
    by_cases ht : isTup d = true
    · refine .inr ⟨ω, h, ds, rfl, r, s, ?_⟩
      rw [q]
      intro v ω1 e1 r1 d1
      rw [q] at p'
      cases d <;> simp [isTup] at ht
      rename_i xs
      obtain ⟨a, vs, rfl, e4, e5⟩ := rd_tup d1
      exact ⟨a, rfl, ⟨vs, e4⟩, (show Post X.K X.mg W σ ω (ItOk X.K) R (.ok ⟨xs, chkQ (.tup xs) xs⟩ h1) from p') _ ω1 e1 r1 (itOk_tup r1 d1)⟩
    · have ht' : isTup d = false := by simpa using ht
      refine .inl ⟨ω, h, ds, rfl, r, s, ?_⟩
      rw [q]
      intro v ω1 e1 r1 d1
      rw [q] at p'
      simp only [Mp.R.bd_ok] at p'
      split at p'
      · rename_i xs q2
        obtain ⟨a, vs, rfl, e4, e5⟩ := rdlD_rel r1 (rdl_of_seq ht' q2) d1
        exact ⟨a, rfl, ⟨vs, e4⟩, p' _ ω1 e1 r1 (itOk_list r1 d1 fun h' z => rdl_of_seq ht' z)⟩
      · exact False.elim p'
  | ex x fs vs h1 =>
    refine .inl ⟨ω, h, ds, rfl, r, s, ?_⟩
    rw [q] at p' ⊢; exact p'
  | bad => rw [q] at p'; exact False.elim p'
/-- range -/
def upFrom (lo : Int) (n : Nat) : List D := (List.range n).map fun (i : Nat) => D.int (lo + (i : Int))
def iRg1 (as : SA) : SI := fun ds h => (as ds h).bd fun xs h1 => match xs with
  | [.int j] => if -(2 ^ 62) ≤ j ∧ j < 2 ^ 62 then .ok ⟨upFrom 0 j.toNat, fun _ => true⟩ h1 else .bad
  | _ => .bad
def iRg2 (as : SA) : SI := fun ds h => (as ds h).bd fun xs h1 => match xs with
  | [.int i, .int j] => if -(2 ^ 62) ≤ i ∧ i < 2 ^ 62 ∧ -(2 ^ 62) ≤ j ∧ j < 2 ^ 62 then .ok ⟨upFrom i (j - i).toNat, fun _ => true⟩ h1 else .bad
  | _ => .bad
theorem itOk_rng {lo : Int} {n : Nat} : ItOk K ω ⟨upFrom lo n, fun _ => true⟩ (Itr lo n) := fun i ω' h' e r' hk => by
  unfold upFrom
  refine ⟨fun d hd => ?_, fun hn => ?_⟩
  · by_cases hi : i < n
    · have : d = .int (lo + (i : Int)) := by
        simp [List.getElem?_map, List.getElem?_range hi] at hd
        exact hd.symm
      subst this
      refine ⟨hi, fun y H' ⟨e6, e7⟩ => ⟨ω', e6.symm, Ext.refl _, r', ?_⟩⟩
      rw [e7]; exact int_rd
    · rw [List.getElem?_map, List.getElem?_eq_none (by simpa using Nat.not_lt.mp hi)] at hd; cases hd
  · simp only [List.getElem?_map, Option.map_eq_none_iff, List.getElem?_eq_none_iff, List.length_range] at hn
    exact hn
theorem di_rg1 {tg : Expr} (h : PI X tg e (iRng1 (tA X W as))) : DI X W tg e (iRg1 as) := di_of h fun σ H R ⟨ω, h, ds, e1, r, s, p⟩ => by
  subst e1
  refine ⟨ω, h, ds, rfl, r, s, Post.bd (show Post X.K X.mg W σ ω _ R ((as ds h).bd _) from p) fun xs h1 vs ω1 e1 r1 d1 p1 => ?_⟩
  split at p1
  · rename_i j
    obtain ⟨hc, p1⟩ := p1.if_
    obtain ⟨v, ws, rfl, e2, e3⟩ := d1.inv
    rw [e3.inv0, rd_int e2]
    exact ⟨j, rfl, hc.1, hc.2, p1 _ ω1 (Ext.refl _) r1 itOk_rng⟩
  · exact False.elim p1
end
end Mp
/-! LayG: truth, defs as they stand behind the top, the end. -/
namespace Mp
open PySem PySem.Spec PyProof.Rows L2
section
variable {X : Cx} {W : WX} {K : PySem.W.Frag} {mg : Str → Option Value} {ω ω' : Wo} {h h' : Hc} {d : D} {v : V} {e a b : Expr} {es : List Expr} {m ma mb : SE} {as : SA} {pos p : Pos} {x : Str}
/-! ### truth -/
def truD (h : Hc) : D → Option Bool
  | .non => some false
  | .bl b => some b
  | .int i => some (i != 0)
  | .str z => if z.length ≤ lim then some ((z.length : Int) != 0) else none
  | d => match seqD h d with
    | some xs => some (!xs.isEmpty)
    | none => match dctD h d with
      | some (ks, _) => some (!ks.isEmpty)
      | none => none
theorem emp_len {α β : Type} : ∀ {xs : List α} {ys : List β}, xs.length = ys.length → xs.isEmpty = ys.isEmpty
  | [], [], _ => rfl
  | [], _ :: _, e => by simp at e
  | _ :: _, [], e => by simp at e
  | _ :: _, _ :: _, _ => rfl
theorem truD_rel {k : Bool} (r : Rel K ω h) (e : truD h d = some k) (x : RelD K ω d v) : TruV K v ω.H k := by
  have go : ∀ d, RelD K ω d v → (match seqD h d with
    | some xs => some (!xs.isEmpty)
    | none => match dctD h d with
      | some (ks, _) => some (!ks.isEmpty)
      | none => none) = some k → TruV K v ω.H k := by
    intro d x e
    split at e
    · rename_i xs q
      cases e
      obtain ⟨a, us, rfl, e4, e5⟩ := seqD_rel r q x
      rcases e4 with e4 | e4
      · exact .inr (.inl ⟨us, e4, by rw [emp_len e5.len]⟩)
      · exact .inl ⟨us, e4, by rw [emp_len e5.len]⟩
    · split at e
      · rename_i ks ds q
        cases e
        obtain ⟨a, us, rfl, e5, e6, e7⟩ := dctD_rel r q x
        exact .inr (.inr ⟨_, e5, by rw [emp_len (zip_len e6)]⟩)
      · cases e
  cases d with
  | non => simp only [truD, Option.some.injEq] at e; rw [rd_non x]; exact (show k = false from e.symm)
  | bl b => simp only [truD, Option.some.injEq] at e; rw [rd_bl x]; exact (show k = b from e.symm)
  | int i => simp only [truD, Option.some.injEq] at e; rw [rd_int x]; exact (show k = (i != 0) from e.symm)
  | str z =>
    simp only [truD] at e
    by_cases hl : z.length ≤ lim
    · rw [if_pos hl] at e; cases e; rw [rd_str x]; exact ⟨lim_le hl, rfl⟩
    · rw [if_neg hl] at e; cases e
  | tup xs => exact go _ x e
  | lst xs => exact go _ x e
  | scr xs => exact go _ x e
  | dct ks xs => exact go _ x e
  | ref i => exact go _ x e
  | ty t => exact go _ x e
def bTru (m : SE) : SB := fun ds h => (m ds h).bd fun x h1 => match truD h1 x with
  | some b => .ok b h1
  | none => .bad
theorem dt_tru (ha : DE X W e m) (he : ∀ whole, isTrue e X.env whole = (do let v ← whole; standAt e.pos; holding [v] (truthy v)) := by intro _; rfl) : DT X W e (bTru m) :=
  dt_of (pt_truth ha he) fun σ H Q ⟨ω, h, ds, e1, r, s, p⟩ => by
    subst e1
    refine ⟨ω, h, ds, rfl, r, s, Post.bd (show Post X.K X.mg W σ ω _ Q ((m ds h).bd _) from p) fun x h1 v ω1 e1 r1 d1 p1 => ?_⟩
    split at p1
    · rename_i b q
      exact ⟨b, truD_rel r1 q d1, p1 b ω1 (Ext.refl _) r1 rfl⟩
    · exact False.elim p1
end
/-! ### a def of the text -/
def DefAt (K : PySem.W.Frag) (mg : Str → Option Value) (x qual : Str) (st : Stmt) (ps : List Str) : Prop := ∃ (f : Addr) (fd : FuncData), mg x = some (.ref f) ∧ Fun K x qual st f fd ∧ Binds K fd ps []
/-- a def that is as its data function says -/
def Good (P : Program) (w : World) (K : PySem.W.Frag) (mg : Str → Option Value) (base : Heap) (x : Str) (k : Nat) (ps : List Str) (m : Fn) : Prop :=
  ∃ (f : Addr) (fd : FuncData), mg x = some (.ref f) ∧ PySem.W.keepIn K (.ref f) = true ∧ Binds K fd ps [] ∧ (∃ oc od sl, K.lookup f = some ⟨oc, od, .func fd, sl⟩) ∧ FnOk P w K mg base (L2.CX P w) k f fd ps (spD K mg ps.length m)
section
variable {P : Program} {w : World} {K : PySem.W.Frag} {mg : Str → Option Value} {base : Heap} {x qual : Str} {st : Stmt} {ps N : List Str} {k j : Nat} {m : SS}
theorem fun_lk {f : Addr} {fd : FuncData} (F : Fun K x qual st f fd) : ∃ oc od sl, K.lookup f = some ⟨oc, od, .func fd, sl⟩ := by
  obtain ⟨oc, od, kV, doc, pm, an, cdv, ct, osl, rfl, lk, hcd⟩ := F.ex
  exact ⟨oc, od, osl, lk⟩
abbrev DefX (P : Program) (w : World) (K : PySem.W.Frag) (mg : Str → Option Value) (base : Heap) (N : List Str) (qual : Str) (st : Stmt) (f : Addr) (cdv : Value) (A : Around) (outer : List Env) (s : Shared) (H : Hp) (E : XK) : Cx := cxOf (L2.CX P w) P w K mg base N qual (defScope st) f cdv A outer s H E
theorem DefAt.good (D : DefAt K mg x qual st ps) (S : FnScope N ps (defScope st))
    (hb : ∀ (f : Addr) (cdv : Value) (A : Around) (outer : List Env) (s : Shared) (H : Hp) (E : XK), Room k (DefX P w K mg base N qual st f cdv A outer s H E).A → DSs (DefX P w K mg base N qual st f cdv A outer s H E) (WF E) (defBody st) m) :
    Good P w K mg base x (k + 1) ps (runB N.length m) := by
  obtain ⟨f, fd, g, F, b⟩ := D
  exact ⟨f, fd, g, F.kp, b, fun_lk F, fn_ok F S fun cdv A outer s H E hr => hb f cdv A outer s H E hr⟩
/-- nothing is claimed -/
theorem DefAt.none (D : DefAt K mg x qual st ps) (S : FnScope N ps (defScope st)) : Good P w K mg base x 1 ps (fun _ _ => .bad) := by
  obtain ⟨f, fd, g, F, b⟩ := D
  refine ⟨f, fd, g, F.kp, b, fun_lk F, (fn_ok (k := 0) (m := sBad) F S fun cdv A outer s H E hr => ⟨fun pins s σ H E I ⟨ω, h, ds, e1, r, s', p⟩ => False.elim p⟩).imp fun vs H Q E z => ?_⟩
  obtain ⟨_, ω, h, ds, _, _, _, p⟩ := z
  exact False.elim p
theorem Good.mono {m : Fn} (G : Good P w K mg base x j ps m) (h : j ≤ k) : Good P w K mg base x k ps m := by
  obtain ⟨f, fd, g, kp, b, lk, F⟩ := G
  exact ⟨f, fd, g, kp, b, lk, F.mono h⟩
end
section
variable {X : Cx} {W : WX} {e : Expr} {es : List Expr} {as : SA} {m : Fn} {pos p : Pos} {x : Str} {ps : List Str} {k : Nat}
theorem dc (tk : Takes X W) (G : Good X.prog X.w X.K X.mg X.base x k ps m) (hr : Room k X.A) (hg : Gl X x) (hn : (e :: es).length = ps.length) (hl : ∀ ds h xs h', as ds h = .ok xs h' → xs.length = (e :: es).length) (ha : DA X W (e :: es) as)
    (hdb : (x == ("__debug__" : Str)) = false := by decide) (he : starEach (e :: es) X.env = (false, eval e X.env) :: starEach es X.env := by rfl) (hpl : (backTo pos (starEach es X.env)).any (·.1) = false := by rfl) : DE X W (.Call (.Name x p) (e :: es) [] pos) (eCall m as) := by
  obtain ⟨f, fd, g, kp, b, _, F⟩ := G
  exact de_call tk F hr hg g kp b hn hl ha hdb he hpl
/-- a value of the top: d stands for it in every world -/
def TopVal (K : PySem.W.Frag) (mg : Str → Option Value) (x : Str) (d : D) : Prop := ∃ (u : Value) (v : V), mg x = some u ∧ RelV v u ∧ ∀ ω : Wo, RelD K ω d v
theorem de_top {d : D} (hg : Gl X x) (T : TopVal X.K X.mg x d) (hd : (x == ("__debug__" : Str)) = false := by decide) : DE X W (.Name x pos) (eC d) := by
  obtain ⟨u, v, h1, h2, h3⟩ := T
  exact de_c (pe_glob hg h1 h2 hd) h3
/-- a built-in type as a value -/
theorem de_bty {n : String} (hg : Gl X x) (hm : X.mg x = none) (hv : bootBuiltins x = some (.type n)) (hn : x ≠ "__name__" := by decide) (hd : (x == ("__debug__" : Str)) = false := by decide) : DE X W (.Name x pos) (eC (.ty n)) :=
  de_c (v := .ty n) (pe_bltn hg hm hv (show RelV (.ty n) (.type n) from rfl) hn hd) fun _ => ty_rd
end
section
variable {X : Cx} {W : WX} {K : PySem.W.Frag} {mg : Str → Option Value} {ω ω' : Wo} {h h' : Hc} {d : D} {v : V} {e a b : Expr} {es : List Expr} {m ma mb : SE} {as : SA} {pos : Pos}
theorem hu_of64 {k : Nat} (hr : Room k X.A) : X.A.units + 64 < cLine := by have := hr.un; omega
/-! ### targets, comprehensions, as they are printed -/
theorem dgsC {p : Pt} {ps : List Pt} (h1 : DG X e p) (h2 : DGs X es ps) (h : PG X e (tP X.K p) → PGs X es (tPs X.K ps) → PGs X (e :: es) (gCons (tP X.K p) (tPs X.K ps))) : DGs X (e :: es) (p :: ps) := dgs_cons h1 h2 (h h1 h2)
theorem dgT {k : Nat} {ps : List Pt} (hc : X.calm = true) (h : DGs X es ps) (h1 : PGs X es (tPs X.K ps) → PG X (.Tuple es k pos) (gTup X.K ps.length (tPs X.K ps))) (h2 : PGs X es (tPs X.K ps) → PG X (.Tuple es k pos) (gLst X.K ps.length (tPs X.K ps))) : DG X (.Tuple es k pos) (.t ps) := dg_t hc h (h1 h) (h2 h)
theorem dts_nil : PTs X [] (tT X W (fun _ h => .ok true h)) := ⟨fun pins s σ H Q I q => pts_nil.run pins s σ H Q I (by
  obtain ⟨ω, h, ds, e1, r, s, p⟩ := q
  subst e1
  exact p _ ω (Ext.refl _) r rfl)⟩
theorem dts_one {t : SB} (h : DT X W e t) : PTs X [e] (tT X W t) := pts_one h
theorem ds_setLc {i : Nat} {st : Stmt} {mi : SI} {p : Pt} {own : List Nat} {c : SB} (ho : ∀ i ∈ p.slots, i ∈ own) (h : PS X st (tAsg (tLc (tI X W mi) (tP X.K p) (tT X W0 c) (tE X W0 m) own) (gName i))) : DS X W st (sSet i (eLc mi p own c m)) := ds_of h fun E σ H ⟨ω, h, ds, e1, r, s, q⟩ => by
  subst e1
  refine lcW (W := W) (fin := fun xs h => .ok (.lst xs) h) ho lc_fz σ ω.H _ ⟨ω, h, ds, rfl, r, s, ?_⟩
  exact PostO.bd r s q fun d h1 v ω' e r1 rd s1 p1 => p1 _ ω' (Ext.refl _) r1 (s1.set i rd)
/-- x, y = a, b -/
def sPar (i j : Nat) (as : SA) : SS := fun ds h => sBd (as ds h) ds fun xs h1 => match xs with
  | [x, y] => .nx ((ds.set i (some x)).set j (some y)) h1
  | _ => .bad
theorem ds_par {i j : Nat} {st : Stmt} (h : PS X st (tPar i j (tA X W as))) : DS X W st (sPar i j as) := ds_of h fun E σ H ⟨ω, h, ds, e1, r, s, p⟩ => by
  subst e1
  refine ⟨ω, h, ds, rfl, r, s, PostO.bd r s p fun xs h1 vs ω' e r1 rd s1 p1 => ?_⟩
  split at p1
  · obtain ⟨v, ws, rfl, e2, e3⟩ := rd.inv
    obtain ⟨u, ws', rfl, e4, e5⟩ := e3.inv
    rw [e5.inv0]
    exact ⟨v, u, rfl, p1 _ ω' (Ext.refl _) r1 ((s1.set i e2).set j e4)⟩
  · exact False.elim p1
abbrev addI := i0F fun i j => .int (i + j)
theorem opd_addI : OpD X (rI0 fun i j => .int (i + j)) addI := opd_i0 fun _ _ _ => int_rd
abbrev mulI := iF (fun i j => decide (-(2 ^ 64) < i ∧ i < 2 ^ 64) || decide (-(2 ^ 64) < j ∧ j < 2 ^ 64)) fun i j => .int (i * j)
end
/-! ### the end -/
/-- the script: a list that is locked or written, or one of the caller's own -/
def scD (b : Bool) (xs : List D) : D := if b = true then .scr xs else .lst xs
def spTrue (K : PySem.W.Frag) : Sp := fun vs H Q _ => ∃ (a : Addr) (ns : List Int), vs = [.ref a] ∧ TabsK K H ∧ SqL K H a (ns.map V.int) ∧ ns.length ≤ 63 ∧ ∀ H', Q (.bl true) H'
theorem scr_rel {K : PySem.W.Frag} {H : Hp} {a : Addr} {ns : List Int} (h : SqL K H a (ns.map V.int)) : ∃ b, RelD K ⟨fun _ => False, fun _ => 0, 0, H⟩ (scD b (ns.map D.int)) (.ref a) := by
  rcases h with (h | ⟨o, h⟩) | h
  · refine ⟨false, ?_⟩
    show RelD K _ (.lst (ns.map D.int)) (.ref a)
    unfold RelD
    exact ⟨a, _, rfl, ⟨h, fun z => z⟩, RelL.of_ints ns⟩
  · refine ⟨true, ?_⟩
    show RelD K _ (.scr (ns.map D.int)) (.ref a)
    unfold RelD
    exact ⟨a, _, rfl, .inl ⟨o, h⟩, RelL.of_ints ns⟩
  · refine ⟨true, ?_⟩
    show RelD K _ (.scr (ns.map D.int)) (.ref a)
    unfold RelD
    exact ⟨a, _, rfl, .inr h, RelL.of_ints ns⟩
/-- the law's promise from its data function -/
theorem law_sp {K : PySem.W.Frag} {mg : Str → Option Value} {m : Fn} (hm : ∀ (b : Bool) (ns : List Int), ns.length ≤ 63 → ∃ h, m [scD b (ns.map D.int)] [] = .ok (.bl true) h) {vs : List V} {H : Hp} {Q : VK} {E : XK} (h : spTrue K vs H Q E) : spD K mg 1 m vs H Q E := by
  obtain ⟨a, ns, rfl, hO, hS, hl, q⟩ := h
  obtain ⟨b, hb⟩ := scr_rel hS
  obtain ⟨h', e⟩ := hm b ns hl
  refine ⟨rfl, ⟨fun _ => False, fun _ => 0, 0, H⟩, [], [scD b (ns.map D.int)], rfl, ⟨rfl, fun i j hi => absurd hi (Nat.not_lt_zero _), fun i hi => absurd hi (Nat.not_lt_zero _), fun q z => False.elim z, fun i c hi => by simp at hi, hO⟩, RelL.cons hb RelL.nil, ?_⟩
  rw [e]
  intro v ω' _ _ rv
  rw [rd_bl rv]
  exact q _
/-- the law's own code object and its table, and those of the other defs that make lambdas -/
structure LawTab (K : PySem.W.Frag) (mg : Str → Option Value) (base : Heap) (c P : Addr) : Prop where
  tb : LamX.TabB base mg c P
  ht : PySem.W.tabIn K "law" = some (c, P)
  more : ∀ x ∈ lamNames, ∀ c' P', PySem.W.tabIn K x = some (c', P') → LamX.TabB base mg c' P'
end Mp
/-! LayH: min, max, lcm; what is walked with its number. -/
namespace Mp
open PySem PySem.Spec PyProof.Rows L2
/-! ### enumerate of a tuple -/
theorem enumB1 {v : Value} {ob : Obj} {Z : Heap → Prop} (B : Begins v ob Z) :
    Meets (Builtin.«enumerate.__new__» ⟨[.type "enumerate", v], []⟩) (fun _ R z => Z z.heap ∧
      R (.ok (.ret (.ref (z.heap.push ob).objs.size))) { z with heap := (z.heap.push ob).push { cls := .type "enumerate", data := .fields #[.none, .bool false, .ref z.heap.objs.size, rawInt 0, .none, .none] } }) :=
  .of_wp fun prog w A R z q => by
    obtain ⟨hp, gg, dd, tk, oo⟩ := z
    obtain ⟨q1, q2⟩ := q
    have hsub := sub_enumerate
    have go : ∀ {A' : Around} {E' : Value → Shared → Prop} {Q' : Value → Shared → Prop}, Q' (.ref hp.objs.size) ⟨hp.push ob, gg, dd, tk, oo⟩ → wpAny (model prog w) A' (pyIter v) Q' E' ⟨hp, gg, dd, tk, oo⟩ :=
      fun x => B.iter prog w _ _ ⟨hp, gg, dd, tk, oo⟩ _ q1 x
    wp_walk
    refine wpAny_stack_any fun _ => wpAny_pure ?_
    split
    · rename_i c _ _ _ _ _
      cases (c == Value.type "enumerate") <;> (wp_walk using go; exact ⟨_, rfl, q2⟩)
    · wp_walk using go
      exact ⟨_, rfl, q2⟩
theorem enum_one {prog : Program} {w : World} {A : Around} {E : Value → Shared → Prop} {z : Shared} {v : Value} {ob : Obj} {Z : Heap → Prop} {Q : Value → Shared → Prop} (B : Begins v ob Z) (q1 : Z z.heap)
    (q : ∀ h2, IsEnum h2 (z.heap.objs.size + 1) z.heap.objs.size 0 .none → h2.get? z.heap.objs.size = some ob → (∀ b u, z.heap.get? b = some u → h2.get? b = some u) → Q (.ref (z.heap.objs.size + 1)) { z with heap := h2 }) :
    wpAny (model prog w) A (call (.type "enumerate") [v]) Q E z := by
  refine callType_new F.called_enumerate (by decide) (F.typeCall_enumerate_1 _) (F.newCall_enumerate_1 _) (fun b => F.args_object_init_2 b _) F.entry_enumerate_new (enumB1 B) ⟨q1, ?_⟩
  have sz : (z.heap.push ob).objs.size = z.heap.objs.size + 1 := Heap.size_push ..
  show _ ∧ _
  rw [sz]
  have he : IsEnum ((z.heap.push ob).push { cls := .type "enumerate", data := .fields #[.none, .bool false, .ref z.heap.objs.size, rawInt 0, .none, .none] }) (z.heap.objs.size + 1) z.heap.objs.size 0 .none := by
    have e := Heap.get?_push_size (z.heap.push ob) (o := { cls := .type "enumerate", data := .fields #[.none, .bool false, .ref z.heap.objs.size, rawInt 0, .none, .none] }) rfl
    rw [sz] at e; exact e
  exact ⟨⟨_, he, rfl⟩, q _ he (Heap.get?_push_of_some _ (Heap.get?_push_size _ B.free)) fun b u x => Heap.get?_push_of_some _ (Heap.get?_push_of_some _ x)⟩
/-- the tuple at a, each item in a new pair -/
def ItE (K : PySem.W.Frag) (a : Addr) : It where
  go i H := ∃ (xs : List V) (x : V), SqT K H a xs ∧ xs[i]? = some x
  yld i H v H' := ∃ T x, v = .ref T ∧ H T = none ∧ H' = upd H T (.tup [.int (i : Nat), x]) ∧ ∀ xs, SqT K H a xs → xs[i]? = some x
  stop i H := ∃ xs : List V, SqT K H a xs ∧ xs.length ≤ i
theorem turn_enT {P : Program} {w : World} {K : PySem.W.Frag} {elts : List Expr} {kk : Nat} {tpos : Pos} (a e it : Addr) (hai : a ≠ it) (hae : e ≠ a) :
    Turn P w K (.Tuple elts kk tpos) (ItE K a) [e, it] e (fun i g => (∃ old, IsEnum g e it ((i : Nat) : Int) old) ∧ g.IsTupleIter it a i ∧ e ≠ it) where
  mem := by simp
  obj := fun i g st b hb => by
    obtain ⟨⟨old, he⟩, ⟨u, hu, hc, hd⟩, _⟩ := st
    have z : b = e ∨ b = it := by simpa using hb
    rcases z with rfl | rfl
    · exact ⟨_, he, fun v q => nomatch q⟩
    · exact ⟨u, hu, fun v q => by rw [hd] at q; cases q⟩
  keep := fun i g g' st k => by
    obtain ⟨⟨old, he⟩, hi, hne⟩ := st
    exact ⟨⟨old, k e (by simp) _ he⟩, hi.at fun u q => k it (by simp) u q, hne⟩
  item := by
    intro X hP hw hK hc i pins s σ H E I hf st hg
    subst hP hw hK
    obtain ⟨⟨old, he⟩, hit, hne⟩ := st
    obtain ⟨xs, x, hq, hx⟩ := hg
    obtain ⟨its, rv, p, _⟩ := I.tuple hq
    obtain ⟨u, hu, ru⟩ := rv.get hx
    have lte : e < s.heap.objs.size := Heap.lt_size he
    have lti : it < s.heap.objs.size := by obtain ⟨_, q, _⟩ := hit; exact Heap.lt_size q
    have hlt : i < its.toArray.size := by
      have := (List.getElem?_eq_some_iff.mp hu).1
      simpa using this
    refine wpAny_pyNext_enum_itemD (Draws.tuple (prog := X.prog) (w := X.w) (A := X.A.in1) (show X.A.in1.handled = none from I.ok.hd hc) it a hai its.toArray) he ⟨hit, p⟩ hlt hne (by simp [hne, hae]) fun y h1 tk py ho st1 hT hsz hk => ?_
    have ey : y = u := by
      have : its.toArray[i]? = some u := by simpa using hu
      rw [this] at py; exact (Option.some.inj py).symm
    subst ey
    refine ⟨_, rfl, wpAny_letOwnedTupleGo_enum (s := { s with heap := h1, toks := tk + 1 }) ho fun h2 he2 sb => ?_⟩
    have hT2 := (sb.2 s.heap.objs.size (Nat.ne_of_gt lte)).trans hT
    have new : ObjOk X.prog X.w (upd H s.heap.objs.size (.tup [.int (i : Nat), x])) h2 s.heap.objs.size (.tup [.int (i : Nat), x]) := by
      refine ⟨by show 2 ≤ sizeLine; decide, [.int i tk, y], .cons ⟨_, rfl⟩ (.cons ru .nil), ?_⟩
      exact ⟨_, hT2, rfl, _, rfl⟩
    have I1 : Inv X pins σ (upd H s.heap.objs.size (.tup [.int (i : Nat), x])) { s with heap := h2, toks := tk + 1 } :=
      I.turnedNew (ch := [e, it]) (fun b ob hb q => by
        have n1 : b ≠ e := fun z => hb (by simp [z])
        have n2 : b ≠ it := fun z => hb (by simp [z])
        exact (sb.2 b n1).trans (hk b ob n1 n2 q)) hf (Nat.le_refl _) new
    refine ⟨.ref s.heap.objs.size, _, I1, rfl, ⟨_, x, rfl, I.hok.fresh (Nat.le_refl _), rfl, fun ys hy => by rw [I.tuple_inj hy hq]; exact hx⟩, ⟨⟨y, ?_⟩, st1.1.at fun u q => (sb.2 it (Ne.symm hne)).trans q, hne⟩, fun b hb => ?_⟩
    · have z : ((i + 1 : Nat) : Int) = (i : Int) + 1 := by omega
      rw [z]; exact he2
    · have z : b = e ∨ b = it := by simpa using hb
      have lb : b < s.heap.objs.size := by
        rcases z with rfl | rfl
        · exact lte
        · exact lti
      rw [upd_ne (Nat.ne_of_lt lb)]
      exact (hf b hb).1
  done := by
    intro X hP hw hK hc i pins s σ H E I hf st hg
    subst hP hw hK
    obtain ⟨⟨old, he⟩, hit, hne⟩ := st
    obtain ⟨xs, hq, hx⟩ := hg
    obtain ⟨its, rv, p, _⟩ := I.tuple hq
    obtain ⟨f0, f1, f2, f3, f4, f5⟩ := hf it (by simp)
    have hl := rv.length
    have D : Draws X.prog X.w X.A.in1 it [it, a] i (fun _ _ => True) (fun j g => j = i ∧ g.IsTupleIter it a i ∧ g.IsTuple a its.toArray) := {
      live := fun j g st2 => by
        obtain ⟨_, ⟨u, hu, _⟩, _⟩ := st2
        exact ⟨u, hu⟩
      frame := fun j g g' st2 k => ⟨st2.1, st2.2.1.at fun u q => k it (by simp) u q, st2.2.2.at fun u q => k a (by simp) u q⟩
      item := fun j s2 Q2 E2 hj st2 hQ2 => absurd st2.1 (Nat.ne_of_lt hj)
      done := fun s2 Q2 E2 st2 hE2 => wpAny_nextOf_tuple_end (show X.A.in1.handled = none from I.ok.hd hc) st2.2.1 st2.2.2 (by simp; omega) hE2 }
    exact wpAny_pyNext_enum_endD D he ⟨rfl, hit, p⟩ fun h1 eb => ⟨rfl, I.turned (t' := s.toks) (fun b u hb q => eb b u hb q) f0 f1 f3 f4 f5⟩
  self := fun A i s Q E st q => by
    obtain ⟨⟨old, he⟩, _⟩ := st
    exact wpAny_pyIter_enum he q
/-- enumerate of a list or of a tuple -/
def iEnB (K : PySem.W.Frag) (ta : TA) : TI := fun σ H R => ta σ H fun vs H1 => ∃ a xs, vs = [.ref a] ∧ ((SqL K H1 a xs ∧ R (Ite K a) H1) ∨ (SqT K H1 a xs ∧ R (ItE K a) H1))
theorem pi_enB {X : Cx} {e : Expr} {ta : TA} {p pos tpos : Pos} {elts : List Expr} {kk : Nat} (hg : Gl X "enumerate") (hm : X.mg "enumerate" = none) (ha : PA X [e] ta) (st : starEach [e] X.env = [(false, eval e X.env)] := by rfl) :
    PI X (.Tuple elts kk tpos) (.Call (.Name "enumerate" p) [e] [] pos) (iEnB X.K ta) := by
  refine ⟨fun pins s σ H R I q => ?_⟩
  refine Call_ (ld_blt I hg hm boot_enumerate (PyProof.Rows.callWith_type1 (thn (ha.run pos pins s σ H _ I q) fun us s1 ⟨vs, H1, I1, r1, q1⟩ => ?_) st rfl))
  obtain ⟨a, xs, rfl, q1⟩ := q1
  obtain ⟨u, rfl, r⟩ := vals1 r1
  cases r
  have fresh : ∀ b ∈ [s1.heap.objs.size + 1, s1.heap.objs.size], FpOk X pins H1 b := fun b hb => by
    have hle : s1.heap.objs.size ≤ b := by
      simp only [List.mem_cons, List.not_mem_nil, or_false] at hb
      omega
    exact I1.fpOk hle (I1.hok.fresh hle)
  rcases q1 with ⟨hq, q⟩ | ⟨hq, q⟩
  · obtain ⟨its, rv, p1, _⟩ := I1.list hq
    refine call_enumerate_list p1.isList fun h2 he hit _ hk => wpAny_pyIter_enum he ?_
    exact ⟨s1.heap.objs.size + 1, [s1.heap.objs.size + 1, s1.heap.objs.size], _, _, H1, rfl, I1.kept (t' := s1.toks) hk, turn_enum a (s1.heap.objs.size + 1) s1.heap.objs.size, ⟨⟨.none, he⟩, hit, Nat.succ_ne_self _⟩, fresh, q⟩
  · obtain ⟨its, rv, p1, _⟩ := I1.tuple hq
    have lta : a < s1.heap.objs.size := by
      obtain ⟨u, hu, _⟩ := id p1
      exact Heap.lt_size hu
    have ne1 : a ≠ s1.heap.objs.size := Nat.ne_of_lt lta
    have ne2 : s1.heap.objs.size + 1 ≠ a := fun z => Nat.lt_irrefl a (Nat.lt_of_lt_of_le lta (z ▸ Nat.le_succ _))
    refine enum_one (begins_tuple a its.toArray) p1 fun h2 he ho hk => wpAny_pyIter_enum he ?_
    have hit : h2.IsTupleIter s1.heap.objs.size a 0 := ⟨_, ho, rfl, rfl⟩
    exact ⟨s1.heap.objs.size + 1, [s1.heap.objs.size + 1, s1.heap.objs.size], _, _, H1, rfl, I1.kept (t' := s1.toks) hk, turn_enT a (s1.heap.objs.size + 1) s1.heap.objs.size ne1 ne2, ⟨⟨.none, he⟩, hit, Nat.succ_ne_self _⟩, fresh, q⟩
/-- each item with its number -/
def enumD : Nat → List D → List D
  | _, [] => []
  | n, x :: r => .tup [.int n, x] :: enumD (n + 1) r
theorem enumD_get : ∀ (n : Nat) (xs : List D) (i : Nat), (enumD n xs)[i]? = (xs[i]?).map fun x => .tup [.int ((n + i : Nat) : Int), x]
  | n, [], i => by simp [enumD]
  | n, x :: r, 0 => by simp [enumD]
  | n, x :: r, i + 1 => by
    unfold enumD
    rw [List.getElem?_cons_succ, List.getElem?_cons_succ, enumD_get (n + 1) r i]
    have : n + 1 + i = n + (i + 1) := by omega
    rw [this]
def enF (xs : List D) (h : Hc) : R ItD := match xs with
  | [d] => match seqD h d with
    | some ys => .ok ⟨enumD 0 ys, chkQ d ys⟩ h
    | none => .bad
  | _ => .bad
def iEnu (as : SA) : SI := fun ds h => (as ds h).bd enF
theorem pairUp {K : PySem.W.Frag} {ω : Wo} {h : Hc} {T : Addr} {o : Obj} {x y : D} {v w : V} (r : Rel K ω h) (hT : ω.H T = none) (hd : o.dict = none) (rx : RelD K ω x v) (ry : RelD K ω y w) :
    ∃ ω2, ω2.H = upd ω.H T (tuO o [v, w]) ∧ Ext ω ω2 ∧ Rel K ω2 h ∧ RelD K ω2 (.tup [x, y]) (.ref T) := by
  exact ⟨ω.up T (tuO o [v, w]), rfl, Ext.up hT, r.up hT, tup_new r hT hd (.cons rx (.cons ry .nil))⟩
section
variable {K : PySem.W.Frag} {ω : Wo} {h : Hc} {d : D}
theorem itOk_enL {xs : List D} {a : Addr} (r : Rel K ω h) (x : RelD K ω d (.ref a)) (hs : ∀ h', seqD h' d = some xs → rdlD h' d = some xs) : ItOk K ω ⟨enumD 0 xs, chkQ d xs⟩ (Ite K a) := fun i ω' h' e r' hk => by
  replace hk : seqD h' d = some xs := chkQ_spec (show chkQ d xs h' = true from hk)
  obtain ⟨p, vs, e1, e2, e3⟩ := rdlD_rel r' (hs h' hk) (mono r e _ _ x)
  cases e1
  refine ⟨fun y hd => ?_, fun hn => ⟨vs, e2, ?_⟩⟩
  · rw [enumD_get] at hd
    cases q : xs[i]? with
    | none => rw [q] at hd; cases hd
    | some y0 =>
      rw [q] at hd
      simp only [Option.map_some, Option.some.injEq] at hd
      subst hd
      obtain ⟨v, e4, e5⟩ := e3.get q
      refine ⟨⟨vs, v, e2, e4⟩, fun w H' ⟨T, w0, ew, hT, eH, e7⟩ => ?_⟩
      have := e7 vs e2
      rw [e4] at this
      cases this
      obtain ⟨ω2, f1, f2, f3, f4⟩ := pairUp (o := default) (x := .int ((0 + i : Nat) : Int)) r' hT rfl (int_rd (i := ((0 + i : Nat) : Int))) e5
      subst ew
      refine ⟨ω2, ?_, f2, f3, f4⟩
      rw [eH, f1, Nat.zero_add]; rfl
  · rw [enumD_get] at hn
    rw [← e3.len]; exact List.getElem?_eq_none_iff.mp (by simpa using hn)
theorem itOk_enT {xs : List D} {a : Addr} (r : Rel K ω h) (x : RelD K ω (.tup xs) (.ref a)) : ItOk K ω ⟨enumD 0 xs, chkQ (.tup xs) xs⟩ (ItE K a) := fun i ω' h' e r' hk => by
  replace hk : seqD h' (.tup xs) = some xs := chkQ_spec (show chkQ (.tup xs) xs h' = true from hk)
  obtain ⟨p, vs, e1, e2, e3⟩ := rd_tup (mono r e _ _ x)
  cases e1
  refine ⟨fun y hd => ?_, fun hn => ⟨vs, e2, ?_⟩⟩
  · rw [enumD_get] at hd
    cases q : xs[i]? with
    | none => rw [q] at hd; cases hd
    | some y0 =>
      rw [q] at hd
      simp only [Option.map_some, Option.some.injEq] at hd
      subst hd
      obtain ⟨v, e4, e5⟩ := e3.get q
      refine ⟨⟨vs, v, e2, e4⟩, fun w H' ⟨T, w0, ew, hT, eH, e7⟩ => ?_⟩
      have := e7 vs e2
      rw [e4] at this
      cases this
      obtain ⟨ω2, f1, f2, f3, f4⟩ := pairUp (o := default) (x := .int ((0 + i : Nat) : Int)) r' hT rfl (int_rd (i := ((0 + i : Nat) : Int))) e5
      subst ew
      refine ⟨ω2, ?_, f2, f3, f4⟩
      rw [eH, f1, Nat.zero_add]; rfl
  · rw [enumD_get] at hn
    rw [← e3.len]; exact List.getElem?_eq_none_iff.mp (by simpa using hn)
end
section
variable {X : Cx} {W : WX} {e : Expr} {as : SA}
theorem di_enu {tg : Expr} (he : PI X tg e (iEnB X.K (tA X W as))) : DI X W tg e (iEnu as) := di_of he fun σ H R ⟨ω, h, ds, e1, r, s, p⟩ => by
  subst e1
  refine ⟨ω, h, ds, rfl, r, s, Post.bd (show Post X.K X.mg W σ ω _ R ((as ds h).bd _) from p) fun xs h1 vs ω1 e1 r1 d1 p1 => ?_⟩
  unfold enF at p1
  split at p1
  · rename_i d
    obtain ⟨v, ws, rfl, e2, e3⟩ := d1.inv
    rw [e3.inv0]
    split at p1
    · rename_i ys q
      by_cases ht : isTup d = true
      · cases d <;> simp [isTup] at ht
        rename_i zs
        obtain ⟨a, us, rfl, e4, e5⟩ := rd_tup e2
        simp [seqD] at q
        subst q
        exact ⟨a, us, rfl, .inr ⟨e4, p1 _ ω1 (Ext.refl _) r1 (itOk_enT r1 e2)⟩⟩
      · have ht' : isTup d = false := by simpa using ht
        obtain ⟨a, us, rfl, e4, e5⟩ := rdlD_rel r1 (rdl_of_seq ht' q) e2
        exact ⟨a, us, rfl, .inl ⟨e4, p1 _ ω1 (Ext.refl _) r1 (itOk_enL r1 e2 fun h' z => rdl_of_seq ht' z)⟩⟩
    · exact False.elim p1
  · exact False.elim p1
end
/-! ### the least and the most -/
theorem cr_or {X : Cx} {f : Value} {r1 r2 : List V → Hp → VK → Prop} (h1 : CallR X f r1) (h2 : CallR X f r2) : CallR X f (fun xs H Q => r1 xs H Q ∨ r2 xs H Q) := by
  intro pins s σ H xs us Q I r q
  rcases q with q | q
  · exact h1 pins s σ H xs us Q I r q
  · exact h2 pins s σ H xs us Q I r q
def leastI : Int → List Int → Int
  | m, [] => m
  | m, n :: r => leastI (if n < m then n else m) r
def mostI : Int → List Int → Int
  | m, [] => m
  | m, n :: r => mostI (if m < n then n else m) r
/-! ### sums and bests of tuples -/
section
variable {prog : Program} {w : World} {A : Around} {E : Value → Shared → Prop} {z : Shared} {a : Addr} {xs : Array (Int × Tok)} {Q : Value → Shared → Prop}
end
section
variable {X : Cx}
def rSumU (K : PySem.W.Frag) : List V → Hp → VK → Prop := fun vs H Q => ∃ (a : Addr) (ns : List Int), vs = [V.ref a] ∧ SqT K H a (ns.map V.int) ∧ Q (.int ns.sum) H
def rMaxU (K : PySem.W.Frag) : List V → Hp → VK → Prop := fun vs H Q => ∃ (a : Addr) (ns : List Int), vs = [V.ref a] ∧ SqT K H a (ns.map V.int) ∧ 0 < ns.length ∧ ∀ m ∈ ns, (∀ y ∈ ns, y ≤ m) → Q (.int m) H
def rMinU (K : PySem.W.Frag) : List V → Hp → VK → Prop := fun vs H Q => ∃ (a : Addr) (ns : List Int), vs = [V.ref a] ∧ SqT K H a (ns.map V.int) ∧ 0 < ns.length ∧ ∀ m ∈ ns, (∀ y ∈ ns, m ≤ y) → Q (.int m) H
end
def sumA (xs : List D) (h : Hc) : R D := match xs with
  | [d] => match seqD h d with
    | some ys => match intsD ys with
      | some ns => .ok (.int ns.sum) h
      | none => .bad
    | none => .bad
  | _ => .bad
def bestF (f : Int → List Int → Int) (xs : List D) (h : Hc) : R D := match xs with
  | [.int i, .int j] => .ok (.int (f i [j])) h
  | [d] => match seqD h d with
    | some ys => match intsD ys with
      | some (n :: ns) => .ok (.int (f n ns)) h
      | _ => .bad
    | none => .bad
  | _ => .bad
abbrev minF := bestF leastI
abbrev maxF := bestF mostI
section
variable {X : Cx}
def rMinB (K : PySem.W.Frag) : List V → Hp → VK → Prop := fun xs H Q => (∃ i j, xs = [.int i, .int j] ∧ Q (.int (if j < i then j else i)) H) ∨ rMin K xs H Q ∨ rMinU K xs H Q
def rMaxB (K : PySem.W.Frag) : List V → Hp → VK → Prop := fun xs H Q => (∃ i j, xs = [.int i, .int j] ∧ Q (.int (if j > i then j else i)) H) ∨ rMax K xs H Q ∨ rMaxU K xs H Q
end
/-! ### the least common multiple -/
section
variable {X : Cx}
def rLcm : List V → Hp → VK → Prop := fun vs H Q => ∃ a b : Int, vs = [.int a, .int b] ∧ a.natAbs.log2 < 8000 ∧ b.natAbs.log2 < 8000 ∧ Q (.int ((Nat.lcm a.natAbs b.natAbs : Nat) : Int)) H
def lcmF (xs : List D) (h : Hc) : R D := match xs with
  | [.int i, .int j] => if i.natAbs.log2 < 8000 ∧ j.natAbs.log2 < 8000 then .ok (.int ((Nat.lcm i.natAbs j.natAbs : Nat) : Int)) h else .bad
  | _ => .bad
end
/-! ### copies of a list that is then changed -/
def mulC (x y : D) (h : Hc) : R D := match y with
  | .int k => match lstD h x with
    | some xs => if k ≤ lim ∧ -lim ≤ k ∧ xs.length * k.toNat ≤ lim then .ok (.ref h.length) (h ++ [.lst (repD k.toNat xs)]) else .bad
    | none => .bad
  | _ => .bad
end Mp
/-! LayI: two sequences walked side by side, each a list or a tuple. -/
namespace Mp
open PySem PySem.Spec PyProof.Rows L2
/-- a sequence of a kind (true: a tuple) -/
def SqX (t : Bool) (K : PySem.W.Frag) (H : Hp) (a : Addr) (xs : List V) : Prop := if t = true then SqT K H a xs else SqL K H a xs
/-- an iterator of a kind -/
def ItX (t : Bool) (g : Heap) (it a : Addr) (i : Nat) : Prop := if t = true then g.IsTupleIter it a i else g.IsListIter it a i
def CoX (t : Bool) (g : Heap) (a : Addr) (its : Array Value) : Prop := if t = true then g.IsTuple a its else g.IsList a its
section
variable {prog : Program} {w : World} {A : Around}
end
section
variable {X : Cx} {pins : List (Addr × Obj)} {σ : L2.St} {H : Hp} {s : Shared}
end
/-- two sequences, their items in new pairs -/
def ItP (t1 t2 : Bool) (K : PySem.W.Frag) (a b : Addr) : It where
  go i H := ∃ (xs ys : List V) (x y : V), SqX t1 K H a xs ∧ SqX t2 K H b ys ∧ xs[i]? = some x ∧ ys[i]? = some y
  yld i H v H' := ∃ T x y o, v = .ref T ∧ H T = none ∧ o.dict = none ∧ H' = upd H T (tuO o [x, y]) ∧ (∀ xs, SqX t1 K H a xs → xs[i]? = some x) ∧ ∀ ys, SqX t2 K H b ys → ys[i]? = some y
  stop i H := ∃ xs ys : List V, SqX t1 K H a xs ∧ SqX t2 K H b ys ∧ (xs.length ≤ i ∨ ys.length ≤ i)
/-- where a walk of a sequence begins -/
def obX (t : Bool) (a : Addr) : Obj := if t = true then { cls := .type "tuple_iterator", data := .fields #[.ref a, .int 0 0] } else { cls := .type "list_iterator", data := .fields #[.ref a, .int 0 0] }
/-- zip of two sequences -/
def iZpB (K : PySem.W.Frag) (ta : TA) : TI := fun σ H R => ta σ H fun vs H1 => ∃ t1 t2 a b xs ys, vs = [.ref a, .ref b] ∧ SqX t1 K H1 a xs ∧ SqX t2 K H1 b ys ∧ R (ItP t1 t2 K a b) H1
/-- the pairs -/
def zipD : List D → List D → List D
  | x :: xs, y :: ys => .tup [x, y] :: zipD xs ys
  | _, _ => []
def chkZ (d : D) (xs : List D) (e : D) (ys : List D) : Hc → Bool := fun h => chkQ d xs h && chkQ e ys h
def zpF (xs : List D) (h : Hc) : R ItD := match xs with
  | [d, e] => match seqD h d, seqD h e with
    | some us, some ws => .ok ⟨zipD us ws, chkZ d us e ws⟩ h
    | _, _ => .bad
  | _ => .bad
def iZip (as : SA) : SI := fun ds h => (as ds h).bd zpF
section
variable {K : PySem.W.Frag} {ω : Wo} {h : Hc} {d e : D}
end
section
variable {X : Cx} {W : WX} {e : Expr} {as : SA}
end
/-! ### a call with nothing handed over -/
section
variable {X : Cx} {W : WX} {m : Fn} {pos p : Pos} {x : Str} {ps : List Str} {k : Nat}
theorem dc0 (tk : Takes X W) (G : Good X.prog X.w X.K X.mg X.base x k ps m) (hr : Room k X.A) (hg : Gl X x) (hn : 0 = ps.length) (hdb : (x == ("__debug__" : Str)) = false := by decide) : DE X W (.Call (.Name x p) [] [] pos) (eCall m aNil) := by
  obtain ⟨f, fd, g, kp, b, _, F⟩ := G
  refine ⟨fun pins s σ H Q I q => ?_⟩
  refine wpAny_Call_Name_kw (ld_glob I hg g ?_ hdb)
  obtain ⟨ω, h, ds, e1, r, sl, pp⟩ := q
  subst e1
  have pp : Post X.K X.mg W σ ω (RelD X.K) Q (callL m [] h) := pp
  have sp := callL_sp (np := ps.length) (vs := []) hn r RelL.nil pp
  exact PySem.W.callWith_K0 I.kIn kp (run_fnS (E := fun σ => WE W σ) (us := []) F hr b (passAt tk σ) I .nil sp)
end
/-! ### range with a step -/
def stepD (lo c : Int) (n : Nat) : List D := (List.range n).map fun (i : Nat) => D.int (lo + (i : Int) * c)
def rg3F (xs : List D) (h : Hc) : R ItD := match xs with
  | [.int i, .int j, .int c] => if c ≠ 0 ∧ c.natAbs < 1073741824 ∧ Builtin.Range.small i j c = true ∧ 0 ≤ Builtin.Range.rangeSize i j c then .ok ⟨stepD i c (Builtin.Range.rangeSize i j c).toNat, fun _ => true⟩ h else .bad
  | _ => .bad
def iRg3 (as : SA) : SI := fun ds h => (as ds h).bd rg3F
theorem itOk_step {K : PySem.W.Frag} {ω : Wo} {lo c : Int} {n : Nat} : ItOk K ω ⟨stepD lo c n, fun _ => true⟩ (Itc lo c n) := fun i ω' h' e r' hk => by
  unfold stepD
  refine ⟨fun d hd => ?_, fun hn => ?_⟩
  · by_cases hi : i < n
    · have ed : d = .int (lo + (i : Int) * c) := by
        simp [List.getElem?_map, List.getElem?_range hi] at hd
        exact hd.symm
      refine ⟨hi, fun x H' ⟨q1, q2⟩ => ⟨ω', q1.symm, Ext.refl _, r', ?_⟩⟩
      rw [ed, q2]; exact int_rd
    · have : ((List.range n).map fun (i : Nat) => D.int (lo + (i : Int) * c))[i]? = none := List.getElem?_eq_none_iff.mpr (by simp; omega)
      rw [this] at hd; cases hd
  · have := List.getElem?_eq_none_iff.mp hn
    have q : n ≤ i := by simpa using this
    exact q
theorem di_rg3 {X : Cx} {W : WX} {e : Expr} {as : SA} {tg : Expr} (h : PI X tg e (iRng3 (tA X W as))) : DI X W tg e (iRg3 as) := di_of h fun σ H R ⟨ω, h, ds, e1, r, s, p⟩ => by
  subst e1
  refine ⟨ω, h, ds, rfl, r, s, Post.bd (show Post X.K X.mg W σ ω _ R ((as ds h).bd _) from p) fun xs h1 vs ω1 e1 r1 d1 p1 => ?_⟩
  unfold rg3F at p1
  split at p1
  · rename_i i j c
    obtain ⟨⟨c0, c1, c2, c3⟩, p1⟩ := p1.if_
    obtain ⟨v, ws, rfl, e2, e3⟩ := d1.inv
    obtain ⟨v', ws', rfl, e4, e5⟩ := e3.inv
    obtain ⟨v2, ws2, rfl, e6, e7⟩ := e5.inv
    rw [e7.inv0, rd_int e2, rd_int e4, rd_int e6]
    exact ⟨i, j, c, (Builtin.Range.rangeSize i j c).toNat, rfl, ⟨c0, c1, c2, (Int.toNat_of_nonneg c3).symm⟩, p1 _ ω1 (Ext.refl _) r1 itOk_step⟩
  · exact False.elim p1
/-- down by ones -/
theorem rg3_down {i j : Int} {h : Hc} (h1 : -4611686018427387904 ≤ i) (h2 : i < 4611686018427387904) (h3 : -4611686018427387904 ≤ j) (h4 : j < 4611686018427387904) : rg3F [.int i, .int j, .int (-1)] h = .ok ⟨stepD i (-1) (i - j).toNat, fun _ => true⟩ h := by
  obtain ⟨c0, c1, c2, c3⟩ := RgC.neg (i := i) (j := j) (by simpa using h1) (by simpa using h2) (by simpa using h3) (by simpa using h4)
  unfold rg3F
  simp only
  rw [if_pos ⟨c0, c1, c2, by rw [c3]; exact Int.natCast_nonneg _⟩, c3, Int.toNat_natCast]
/-! ### reverse -/
def revF (x : D) (xs : List D) (h : Hc) : R D := match x, xs with
  | .ref i, [] => match h[i]? with
    | some (.lst ys) => .ok .non (h.set i (.lst ys.reverse))
    | _ => .bad
  | _, _ => .bad
end Mp
/-! LayJ: dicts. -/
namespace Mp
open PySem PySem.Spec PyProof.Rows L2
/-! ### keys, and what stands at them -/
def keyD : D → Option Key
  | .int i => some (.inl i)
  | .str x => some (.inr x)
  | _ => none
def keyO : Key → D
  | .inl i => .int i
  | .inr x => .str x
def lkD : List Key → List D → Key → Option D
  | k :: ks, d :: ds, j => if k = j then some d else lkD ks ds j
  | _, _, _ => none
def hasK (ks : List Key) (j : Key) : Bool := ks.any fun k => decide (k = j)
theorem hasK_nil (j : Key) : hasK [] j = false := Eq.trans rfl rfl
theorem hasK_cons (k : Key) (ks : List Key) (j : Key) : hasK (k :: ks) j = (decide (k = j) || hasK ks j) := Eq.trans rfl rfl
/-- in its place, or at the end -/
def insD (ks : List Key) (ds : List D) (j : Key) (x : D) : List Key × List D :=
  if hasK ks j = true then (ks, List.zipWith (fun k d => if k = j then x else d) ks ds) else (ks ++ [j], ds ++ [x])
section
variable {K : PySem.W.Frag} {ω ω' : Wo} {h h' : Hc} {d : D} {v : V}
theorem keyD_rel {k : Key} (e : keyD d = some k) (x : RelD K ω d v) : v = kV k := by
  cases d <;> simp [keyD] at e <;> subst e
  · rw [rd_int x]; rfl
  · rw [rd_str x]; rfl
theorem lkD_rel : ∀ {ks : List Key} {ds : List D} {vs : List V} {j : Key}, RelL K ω ds vs → ks.length = vs.length → match lkD ks ds j with
    | some d => ∃ v, valV (ks.zip vs) j = some v ∧ RelD K ω d v
    | none => valV (ks.zip vs) j = none
  | [], ds, vs, j, r, e => by
    have : lkD [] ds j = none := by cases ds <;> rfl
    rw [this]; simp [valV]
  | k :: ks, [], vs, j, r, e => by rw [r.inv0] at e; simp at e
  | k :: ks, d :: ds, vs, j, r, e => by
    obtain ⟨v, ws, rfl, e2, e3⟩ := r.inv
    have ih := lkD_rel (j := j) e3 (by simpa using e)
    unfold lkD
    by_cases hk : k = j
    · simp only [if_pos hk]
      exact ⟨v, by rw [List.zip_cons_cons]; exact valV_pos hk, e2⟩
    · simp only [if_neg hk]
      have e4 : valV ((k :: ks).zip (v :: ws)) j = valV (ks.zip ws) j := by rw [List.zip_cons_cons]; exact valV_neg hk
      rw [e4]; exact ih
theorem any_zip : ∀ {ks : List Key} {vs : List V} {j : Key}, ks.length = vs.length → ((ks.zip vs).any fun kv => decide (kv.1 = j)) = hasK ks j
  | [], vs, j, _ => by simp [hasK_nil]
  | k :: ks, [], j, e => by simp at e
  | k :: ks, v :: vs, j, e => by
    have ih := any_zip (j := j) (ks := ks) (vs := vs) (by simpa using e)
    simp only [List.zip_cons_cons, List.any_cons, ih, hasK_cons]
theorem map_zip {j : Key} {u : V} : ∀ {ks : List Key} {vs : List V}, ks.length = vs.length → ((ks.zip vs).map fun kv => if kv.1 = j then (kv.1, u) else kv) = ks.zip (List.zipWith (fun k v => if k = j then u else v) ks vs)
  | [], vs, _ => by simp
  | k :: ks, [], e => by simp at e
  | k :: ks, v :: vs, e => by
    simp only [List.zip_cons_cons, List.map_cons, List.zipWith_cons_cons, map_zip (ks := ks) (vs := vs) (by simpa using e)]
    congr 1
    split <;> rfl
theorem rep_rel {j : Key} {x : D} {u : V} (rx : RelD K ω x u) : ∀ {ks : List Key} {ds : List D} {vs : List V}, RelL K ω ds vs → ks.length = vs.length → RelL K ω (List.zipWith (fun k d => if k = j then x else d) ks ds) (List.zipWith (fun k v => if k = j then u else v) ks vs)
  | [], ds, vs, r, e => by simpa using RelL.nil
  | k :: ks, [], vs, r, e => by rw [r.inv0] at e; simp at e
  | k :: ks, d :: ds, vs, r, e => by
    obtain ⟨v, ws, rfl, e2, e3⟩ := r.inv
    simp only [List.zipWith_cons_cons]
    refine RelL.cons ?_ (rep_rel rx e3 (by simpa using e))
    split
    · exact rx
    · exact e2
theorem putK_zip {ks : List Key} {ds : List D} {vs : List V} {j : Key} {x : D} {u : V} (r : RelL K ω ds vs) (e : ks.length = vs.length) (rx : RelD K ω x u) :
    ∃ ws, putK (ks.zip vs) j u = (insD ks ds j x).1.zip ws ∧ (insD ks ds j x).1.length = ws.length ∧ RelL K ω (insD ks ds j x).2 ws := by
  unfold putK insD
  rw [any_zip e]
  by_cases hj : hasK ks j = true
  · rw [if_pos hj, if_pos hj]
    exact ⟨_, map_zip e, by simp [e], rep_rel rx r e⟩
  · rw [if_neg hj, if_neg hj]
    exact ⟨vs ++ [u], by rw [List.zip_append (by simpa using e)]; rfl, by simp [e], r.append (RelL.cons rx RelL.nil)⟩
end
section
variable {X : Cx} {W : WX} {K : PySem.W.Frag} {ω ω' : Wo} {h h' : Hc} {a b e o i : Expr} {m ma mb me mo mi : SE} {pos pos' : Pos}
/-! ### {} -/
def eDct0 : SE := fun _ h => .ok (.ref h.length) (h ++ [.dct [] []])
theorem cell_newD {q : Addr} {ks : List Key} {xs : List D} {vs : List V} (r : Rel K ω h) (hq : ω.H q = none) (hl : ks.length = vs.length) (d : RelL K ω xs vs) :
    Rel K (ω.cell q (.dK (ks.zip vs))) (h ++ [.dct ks xs]) ∧ RelD K (ω.cell q (.dK (ks.zip vs))) (.ref h.length) (.ref q) := by
  refine ⟨r.cell hq ⟨vs, upd_same, hl, monoL r (Ext.cell hq) _ _ d⟩, ?_⟩
  unfold RelD
  rw [← r.n]
  exact ⟨Nat.lt_succ_self _, by rw [Wo.cell_at]⟩
theorem de_dct0 : DE X W (.Dict [] [] pos) eDct0 := de_of pe_dnewK fun σ H Q ⟨ω, h, ds, e1, r, s, p⟩ => by
  subst e1
  intro q hq
  have z := cell_newD (ks := []) (xs := []) (vs := []) r hq rfl RelL.nil
  exact p (.ref q) (ω.cell q (.dK [])) (Ext.cell hq) z.1 z.2
/-! ### d[k], k in d -/
def dgF (x y : D) (h : Hc) : R D := match dctD h x, keyD y with
  | some (ks, ds), some k => match lkD ks ds k with
    | some d => .ok d h
    | none => .bad
  | _, _ => .bad
theorem de_dget (hu : X.A.units + 1 < cLine) (ha : DE X W a ma) (hb : DE X W b mb) (hs : NoSl b) : DE X W (.Subscript a b pos) (eOp dgF ma mb) := de_of (pe_dget hu ha hb hs) fun σ H Q ⟨ω, h, ds, e1, r, s, p⟩ => by
  subst e1
  refine ⟨ω, h, ds, rfl, r, s, p.bd fun x h1 v ω1 e1 r1 d1 p1 => ⟨ω1, h1, ds, rfl, r1, monoS r e1 s, p1.bd fun y h2 u ω2 e2 r2 d2 p2 => ?_⟩⟩
  unfold dgF at p2
  split at p2
  · rename_i ks xs k q1 q2
    obtain ⟨p, vs, rfl, f2, f3, f4⟩ := dctD_rel r2 q1 (mono r1 e2 _ _ d1)
    have z := lkD_rel (j := k) f4 f3
    split at p2
    · rename_i d q3
      rw [q3] at z
      obtain ⟨w, z1, z2⟩ := z
      rw [keyD_rel q2 d2]
      have g := DGet.k (k := k) f2
      rw [z1] at g
      exact ⟨_, w, rfl, g, p2 w ω2 (Ext.refl _) r2 z2⟩
    · exact False.elim p2
  · exact False.elim p2
def dinF (neg : Bool) (y x : D) (h : Hc) : R D := match dctD h x, keyD y with
  | some (ks, _), some k => .ok (.bl (if neg then !hasK ks k else hasK ks k)) h
  | _, _ => .bad
theorem lkD_isSome : ∀ {ks : List Key} {vs : List V} {k : Key}, ks.length = vs.length → (valV (ks.zip vs) k).isSome = hasK ks k := fun {ks vs k} e => by
  rw [← valV_any, any_zip e]
theorem din_w (neg : Bool) : ∀ σ H Q, tE X W (eOp (dinF neg) ma mb) σ H Q → (if neg then tDNotIn (tE X W ma) (tE X W mb) σ H Q else tDIn (tE X W ma) (tE X W mb) σ H Q) := fun σ H Q ⟨ω, h, ds, e1, r, s, p⟩ => by
  subst e1
  cases neg with
  | false =>
    refine ⟨ω, h, ds, rfl, r, s, p.bd fun x h1 v ω1 e1 r1 d1 p1 => ⟨ω1, h1, ds, rfl, r1, monoS r e1 s, p1.bd fun y h2 u ω2 e2 r2 d2 p2 => ?_⟩⟩
    unfold dinF at p2
    split at p2
    · rename_i ks xs k q1 q2
      obtain ⟨p, vs, rfl, f2, f3, f4⟩ := dctD_rel r2 q1 d2
      rw [keyD_rel q2 d1]
      refine ⟨_, _, rfl, DGet.k (k := k) f2, p2 _ ω2 (Ext.refl _) r2 ?_⟩
      rw [lkD_isSome f3]
      exact bl_rd
    · exact False.elim p2
  | true =>
    refine ⟨ω, h, ds, rfl, r, s, p.bd fun x h1 v ω1 e1 r1 d1 p1 => ⟨ω1, h1, ds, rfl, r1, monoS r e1 s, p1.bd fun y h2 u ω2 e2 r2 d2 p2 => ?_⟩⟩
    unfold dinF at p2
    split at p2
    · rename_i ks xs k q1 q2
      obtain ⟨p, vs, rfl, f2, f3, f4⟩ := dctD_rel r2 q1 d2
      rw [keyD_rel q2 d1]
      refine ⟨_, _, rfl, DGet.k (k := k) f2, p2 _ ω2 (Ext.refl _) r2 ?_⟩
      rw [lkD_isSome f3]
      exact bl_rd
    · exact False.elim p2
theorem hu_1 {k : Nat} (hr : Room k X.A) : X.A.units + 1 < cLine := by have := hr.un; omega
theorem dt_din (hu : X.A.units + 1 < cLine) (ha : DE X W a ma) (hb : DE X W b mb) (hm : behindInMarks .In b = false := by rfl) : DT X W (.Compare a [.In] [b] pos) (bEx (eOp (dinF false) ma mb)) :=
  dt_of (pt_cmp (pc_din hu ha hb) hm) fun σ H Q h => din_w false σ H _ (tBw σ H Q h)
theorem dt_dnin (hu : X.A.units + 1 < cLine) (ha : DE X W a ma) (hb : DE X W b mb) (hm : behindInMarks .NotIn b = false := by rfl) : DT X W (.Compare a [.NotIn] [b] pos) (bEx (eOp (dinF true) ma mb)) :=
  dt_of (pt_cmp (pc_dnotin hu ha hb) hm) fun σ H Q h => din_w true σ H _ (tBw σ H Q h)
/-! ### d[k] = v -/
def putF (o i x : D) (h : Hc) : Option Hc := match o, keyD i with
  | .ref j, some k => match h[j]? with
    | some (.dct ks ds) => if ks.length < lim then some (h.set j (.dct (insD ks ds k x).1 (insD ks ds k x).2)) else none
    | _ => none
  | _, _ => none
theorem rd_celD {j : Nat} {ks : List Key} {xs : List D} {v : V} (r : Rel K ω h) (x : RelD K ω (.ref j) v) (q : h[j]? = some (.dct ks xs)) : ∃ vs, j < ω.n ∧ v = .ref (ω.β j) ∧ ω.H (ω.β j) = some (.dK (ks.zip vs)) ∧ ks.length = vs.length ∧ RelL K ω xs vs := by
  unfold RelD at x
  obtain ⟨vs, e1, e2, e3⟩ := r.cel j _ q
  exact ⟨vs, x.1, x.2, e1, e2, e3⟩
theorem put_dct {j : Nat} {ks ls : List Key} {xs ys : List D} {vs : List V} (r : Rel K ω h) (q : h[j]? = some (.dct ks xs)) (hl : ls.length = vs.length) (y : RelL K ω ys vs) :
    Ext ω (ω.up (ω.β j) (.dK (ls.zip vs))) ∧ Rel K (ω.up (ω.β j) (.dK (ls.zip vs))) (h.set j (.dct ls ys)) := by
  have hi : j < ω.n := by rw [r.n]; exact (List.getElem?_eq_some_iff.mp q).1
  obtain ⟨_, ho, _⟩ := r.cel j _ q
  have e := Ext.put (o := .dK (ls.zip vs)) hi ho
  exact ⟨e, r.put hi ho ⟨vs, upd_same, hl, monoL r e _ _ y⟩⟩
/-- the key is put, as data and as the heap -/
theorem putF_rel {ov iv xv : V} {oD iD xD : D} (r : Rel K ω h) (ro : RelD K ω oD ov) (ri : RelD K ω iD iv) (rx : RelD K ω xD xv) (e : putF oD iD xD h = some h') :
    ∃ p H4, ov = .ref p ∧ DPut ω.H p iv xv H4 ∧ ∃ ω', ω'.H = H4 ∧ Ext ω ω' ∧ Rel K ω' h' := by
  unfold putF at e
  split at e
  · rename_i j k q1
    split at e
    · rename_i ks xs q2
      split at e
      · rename_i hl
        cases e
        obtain ⟨vs, e0, e1, e2, e3, e4⟩ := rd_celD r ro q2
        obtain ⟨ws, f1, f2, f3⟩ := putK_zip (j := k) (x := xD) e4 e3 rx
        obtain ⟨g1, g2⟩ := put_dct r q2 f2 f3
        refine ⟨_, _, e1, ?_, _, rfl, g1, g2⟩
        rw [keyD_rel q1 ri, ← f1]
        refine DPut.k e2 ?_
        rw [List.length_zip, ← e3, Nat.min_self]
        exact lim_lt hl
      · cases e
    · cases e
  · cases e
theorem ds_dput (hu : X.A.units + 1 < cLine) (ho : DE X W o mo) (hi : DE X W i mi) (he : DE X W e me) (hs : swapsWith e (some (.Subscript o i pos')) pos.line X.env = pure false := by rfl) : DS X W (.Assign [.Subscript o i pos'] e pos) (sPut putF me mo mi) :=
  ds_of (ps_dput hu ho hi he hs) fun E σ H ⟨ω, h, ds, e1, r, s, p⟩ => by
    subst e1
    refine ⟨ω, h, ds, rfl, r, s, PostO.bd r s p fun x h1 v ω1 e1 r1 d1 s1 p1 => ⟨ω1, h1, ds, rfl, r1, s1, PostO.bd r1 s1 p1 fun o h2 u ω2 e2 r2 d2 s2 p2 => ⟨ω2, h2, ds, rfl, r2, s2, PostO.bd r2 s2 p2 fun i h3 w ω3 e3 r3 d3 s3 p3 => ?_⟩⟩⟩
    cases q : putF o i x h3 with
    | none => rw [q] at p3; exact False.elim p3
    | some h4 =>
      rw [q] at p3
      obtain ⟨p, H4, rfl, z1, ω4, rfl, z3, z4⟩ := putF_rel r3 (mono r2 e3 _ _ d2) d3 (mono r1 (e2.trans e3) _ _ d1) q
      exact ⟨_, _, rfl, z1, p3 σ ω4 z3 z4 (monoS r3 z3 s3)⟩
/-! ### d[k] op= v -/
def sAugD (f : D → D → Hc → R D) (mo mi me : SE) : SS := fun ds h => sBd (mo ds h) ds fun o h1 => sBd (mi ds h1) ds fun i h2 => sBd (dgF o i h2) ds fun x h3 => sBd (me ds h3) ds fun y h4 => sBd (f x y h4) ds fun z h5 => match putF o i z h5 with
  | some h6 => .nx ds h6
  | none => .bad
end
/-! ### dict comprehensions -/
section
variable {X : Cx} {W : WX} {tg iter kx vx : Expr} {ifs : List Expr} {mi : SI} {p : Pt} {own : List Nat} {c : SB} {mk mv : SE} {scope : Scope} {pos : Pos}
def dcR (chk : Hc → Bool) (p : Pt) (own : List Nat) (c : SB) (mk mv : SE) (ds : Sl) : List D → List Key → List D → Hc → R (List Key × List D)
  | [], ks, acc, h => if chk h = true then .ok (ks, acc) h else .bad
  | d :: r, ks, acc, h => if chk h = true then (match bindP h p d (wipeD ds own) with
      | some ds1 => (c ds1 h).nox.bd fun b h1 => if b = true then (mk ds1 h1).nox.bd fun y h2 => (mv ds1 h2).nox.bd fun z h3 => match keyD y with
          | some k => if ks.length < lim then dcR chk p own c mk mv ds r (insD ks acc k z).1 (insD ks acc k z).2 h3 else .bad
          | none => .bad
        else dcR chk p own c mk mv ds r ks acc h1
      | none => .bad) else .bad
def eDc (mi : SI) (p : Pt) (own : List Nat) (c : SB) (mk mv : SE) : SE := fun ds h => (mi ds h).bd fun it h1 => (dcR it.chk p own c mk mv ds it.items [] [] h1).bd fun xs h2 => .ok (.dct xs.1 xs.2) h2
/-- the dict at q, which is not read as data, is changed -/
theorem hidD {K : PySem.W.Frag} {ω : Wo} {h : Hc} (r : Rel K ω h) {q : Addr} {o u : HO} (ho : MutO o) (hA : ω.A q) (hb : ∀ i, i < ω.n → ω.β i ≠ q) (hq : ω.H q = some o) :
    Rel K (ω.up q u) h ∧ (∀ d v, RelD K ω d v → RelD K (ω.up q u) d v) ∧ ∀ ds vs, RelL K ω ds vs → RelL K (ω.up q u) ds vs := by
  have noT : ∀ l, o ≠ .tup l := fun l z => by rw [z] at ho; exact ho
  have noF : ∀ a l, o ≠ .frz a (.tup l) := fun a b z => by rw [z] at ho; exact ho
  have noG : ∀ a l, o ≠ .frz a (.lst l) := fun a b z => by rw [z] at ho; exact ho
  have stT : ∀ p vs', SqQ K ω.H p vs' → SqQ K (upd ω.H q u) p vs' := fun p vs' y => by
    exact y.map (fun x => by rw [upd_ne (fun e => by rw [e, hq] at x; exact noT _ (Option.some.inj x))]; exact x) fun o' x => by rw [upd_ne (fun e => by rw [e, hq] at x; exact noF _ _ (Option.some.inj x))]; exact x
  have stR : ∀ p o', ω.H p = some o' → ¬ ω.A p → (upd ω.H q u) p = some o' := fun p o' x n => by
    have ne : p ≠ q := fun e => n (e ▸ hA)
    rw [upd_ne ne]; exact x
  have stK : ∀ p vs', LkL K ω p vs' → LkL K (ω.up q u) p vs' := fun p vs' x => by
    rcases x with ⟨o', x⟩ | x
    · refine .inl ⟨o', ?_⟩
      show upd ω.H q u p = _
      rw [upd_ne (fun e => by rw [e, hq] at x; exact noG _ _ (Option.some.inj x))]; exact x
    · exact .inr x
  have key : (∀ d v, RelD K ω d v → RelD K (ω.up q u) d v) ∧ ∀ ds vs, RelL K ω ds vs → RelL K (ω.up q u) ds vs := by
    have aux := @D.rec (motive_1 := fun d => ∀ v, RelD K ω d v → RelD K (ω.up q u) d v) (motive_2 := fun ds => ∀ vs, RelL K ω ds vs → RelL K (ω.up q u) ds vs)
      (fun v x => by unfold RelD at x ⊢; exact x) (fun b v x => by unfold RelD at x ⊢; exact x) (fun i v x => by unfold RelD at x ⊢; exact x) (fun s v x => by unfold RelD at x ⊢; exact x)
      (fun ds ih v x => by unfold RelD at x ⊢; obtain ⟨p, vs', e1, e2, e3⟩ := x; exact ⟨p, vs', e1, stT p vs' e2, ih _ e3⟩)
      (fun ds ih v x => by unfold RelD at x ⊢; obtain ⟨p, vs', e1, ⟨e2, n⟩, e3⟩ := x; exact ⟨p, vs', e1, ⟨stR _ _ e2 n, n⟩, ih _ e3⟩)
      (fun ds ih v x => by unfold RelD at x ⊢; obtain ⟨p, vs', e1, e2, e3⟩ := x; exact ⟨p, vs', e1, stK _ _ e2, ih _ e3⟩)
      (fun ks ds ih v x => by unfold RelD at x ⊢; obtain ⟨p, vs', e1, ⟨e2, n⟩, e3, e4⟩ := x; exact ⟨p, vs', e1, ⟨stR _ _ e2 n, n⟩, e3, ih _ e4⟩)
      (fun i v x => by unfold RelD at x ⊢; exact x) (fun t v x => by unfold RelD at x ⊢; exact x)
      (fun vs x => by unfold RelL at x ⊢; exact x)
      (fun d ds ih1 ih2 vs x => by unfold RelL at x ⊢; obtain ⟨v, ws', e1, e2, e3⟩ := x; exact ⟨v, ws', e1, ih1 _ e2, ih2 _ e3⟩)
    refine ⟨aux, fun ds => ?_⟩
    induction ds with
    | nil => intro vs x; unfold RelL at x ⊢; exact x
    | cons d ds ih => intro vs x; obtain ⟨v, ws', rfl, e2, e3⟩ := x.inv; exact RelL.cons (aux d v e2) (ih _ e3)
  refine ⟨⟨r.n, r.inj, r.inA, fun p hp z => ?_, fun i c hi => ?_, tabs_keep r.tabs fun b w e nm => by
    show upd ω.H q u b = some w
    rw [upd_ne (fun z => nm (by rw [z, hq] at e; cases e; exact ho))]; exact e⟩, key.1, key.2⟩
  · have z' : upd ω.H q u p = none := z
    by_cases e : p = q
    · rw [e, upd_same] at z'; cases z'
    · rw [upd_ne e] at z'; exact r.sub p hp z'
  · have hl : i < ω.n := by rw [r.n]; exact (List.getElem?_eq_some_iff.mp hi).1
    have x := r.cel i c hi
    show RelC K (ω.up q u) (ω.β i) c
    cases c with
    | lst xs => obtain ⟨vs', e1, e2⟩ := x; exact ⟨vs', (upd_ne (hb i hl)).trans e1, key.2 _ _ e2⟩
    | dct ks xs => obtain ⟨vs', e1, e3, e2⟩ := x; exact ⟨vs', (upd_ne (hb i hl)).trans e1, e3, key.2 _ _ e2⟩
    | dtt ks xs => obtain ⟨vs', e1, e3, e2⟩ := x; exact ⟨vs', (upd_ne (hb i hl)).trans e1, e3, key.2 _ _ e2⟩
    | obj cls fs xs => obtain ⟨vs', ⟨cx, dx, e0, e1⟩, e3, e2⟩ := x; exact ⟨vs', ⟨cx, dx, e0, (upd_ne (hb i hl)).trans e1⟩, e3, key.2 _ _ e2⟩
    | rng lo hi => exact (upd_ne (hb i hl)).trans x
    | lkd ks xs => obtain ⟨vs', ⟨o, e1⟩, e3, e2⟩ := x; exact ⟨vs', ⟨o, (upd_ne (hb i hl)).trans e1⟩, e3, key.2 _ _ e2⟩
    | lkt ks xs => obtain ⟨vs', ⟨o, e1⟩, e3, e2⟩ := x; exact ⟨vs', ⟨o, (upd_ne (hb i hl)).trans e1⟩, e3, key.2 _ _ e2⟩
theorem dcW {fin : List Key × List D → Hc → R D} (ho : ∀ i ∈ p.slots, i ∈ own)
    (hfin : ∀ (σ : L2.St) (ω : Wo) (h : Hc) (q : Addr) (ks : List Key) (xs : List D) (vs : List V) (Q : VK), Rel X.K ω h → ω.H q = some (.dK (ks.zip vs)) → ks.length = vs.length → ω.A q → (∀ i, i < ω.n → ω.β i ≠ q) → RelL X.K ω xs vs →
      Post X.K X.mg W σ (ω.drop q) (RelD X.K) Q (fin (ks, xs) h) → Q (.ref q) ω.H) :
    ∀ σ H Q, tE X W (fun ds h => (mi ds h).bd fun it h1 => (dcR it.chk p own c mk mv ds it.items [] [] h1).bd fin) σ H Q → tDc (tI X W mi) (tP X.K p) (tT X W0 c) (tE X W0 mk) (tE X W0 mv) own σ H Q := fun σ H Q ⟨ω, h, ds, e1, r, s, q⟩ => by
  subst e1
  refine ⟨ω, h, ds, rfl, r, s, q.bd fun it h1 J ω1 ex1 r1 ok p1 => ?_⟩
  intro Da hD
  have s1 := monoS r ex1 s
  have e0 : Ext ω1 { ω1 with A := fun q => ω1.A q ∨ q = Da, H := upd ω1.H Da (.dK []) } := by
    refine ⟨Nat.le_refl _, fun _ _ => rfl, fun _ z => .inl z, fun q z => ?_, fun i a b => absurd b (Nat.not_lt.mpr a), (Ext.up (o := .dK []) hD).dom, (Ext.up (o := .dK []) hD).keep⟩
    rcases z with z | z
    · exact .inl z
    · exact .inr (by rw [z]; exact hD)
  have nD : ∀ j, j < ω1.n → ω1.β j ≠ Da := fun j hj z => by
    obtain ⟨u, e, _⟩ := r1.mut hj
    rw [z, hD] at e; cases e
  refine ⟨fun i k H' => ∃ ω2 h2 ks acc vs, ω2.H = H' ∧ Ext ω1 ω2 ∧ Rel X.K ω2 h2 ∧ ω2.A Da ∧ (∀ j, j < ω2.n → ω2.β j ≠ Da) ∧ ω2.H Da = some (.dK (ks.zip vs)) ∧ ks.length = vs.length ∧ RelL X.K ω2 acc vs ∧ k = (it.items.drop i).length ∧
      Post X.K X.mg W σ (ω2.drop Da) (RelD X.K) Q ((dcR it.chk p own c mk mv ds (it.items.drop i) ks acc h2).bd fin), ⟨_, { ω1 with A := fun q => ω1.A q ∨ q = Da, H := upd ω1.H Da (.dK []) }, h1, [], [], [], rfl, e0, ?_, .inr rfl, nD, upd_same, rfl, RelL.nil, rfl, ?_⟩, ?_⟩
  · refine r1.ext1 e0 rfl (fun q z w => ?_) (fun i hi => upd_ne (nD i hi)) (tabs_keep r1.tabs fun b u e _ => by
      show upd ω1.H Da (.dK []) b = some u
      rw [upd_ne (ne_of_none e hD)]; exact e)
    have w' : upd ω1.H Da (.dK []) q = none := w
    by_cases e : q = Da
    · rw [e, upd_same] at w'; cases w'
    · rw [upd_ne e] at w'
      rcases z with z | z
      · exact r1.sub q z w'
      · exact e z
  · refine Post.mono (r := (dcR it.chk p own c mk mv ds it.items [] [] h1).bd fin) p1 ⟨Nat.le_refl _, fun _ _ => rfl, fun a ha => ⟨.inl ha, fun z => r1.free hD (z ▸ ha)⟩, fun a ha => ?_, fun i a b => absurd b (Nat.not_lt.mpr a), fun a ha => ?_, fun a o ha _ _ => ?_⟩
    · rcases ha.1 with z | z
      · exact .inl z
      · exact absurd z ha.2
    · by_cases z : a = Da
      · rw [z]; exact hD
      · rw [Wo.drop_ne z] at ha
        have ha' : upd ω1.H Da (.dK []) a = none := ha
        rw [upd_ne z] at ha'; exact ha'
    · have z := ne_of_none ha hD
      rw [Wo.drop_ne z]
      show upd ω1.H Da (.dK []) a = some o
      rw [upd_ne z]; exact ha
  · rintro i k H' ⟨ω2, h2, ks, acc, vs, rfl, e2, r2, aD, bD, hDa, hkl, rl, hk, p2⟩
    cases q1 : it.items.drop i with
    | nil =>
      rw [q1] at p2
      unfold dcR at p2
      by_cases hck : it.chk h2 = true
      · rw [if_pos hck] at p2
        refine .inl ⟨(ok i ω2 h2 e2 r2 hck).2 (List.getElem?_eq_none (List.drop_eq_nil_iff.mp q1)), ?_⟩
        exact hfin σ ω2 h2 Da ks acc vs Q r2 hDa hkl aD bD rl p2
      · rw [if_neg hck] at p2; exact False.elim p2
    | cons d rest =>
      rw [q1] at p2
      unfold dcR at p2
      by_cases hck : it.chk h2 = true
      · rw [if_pos hck] at p2
        have hd : it.items[i]? = some d := by
          have := congrArg (fun l => l[0]?) q1
          simpa using this
        have hrest : it.items.drop (i + 1) = rest := by
          have := congrArg List.tail q1
          simpa using this
        obtain ⟨go, yl⟩ := (ok i ω2 h2 e2 r2 hck).1 d hd
        refine .inr ⟨go, fun H3 => ∃ ω3 h3 ks acc vs, ω3.H = H3 ∧ Ext ω1 ω3 ∧ Rel X.K ω3 h3 ∧ ω3.A Da ∧ (∀ j, j < ω3.n → ω3.β j ≠ Da) ∧ ω3.H Da = some (.dK (ks.zip vs)) ∧ ks.length = vs.length ∧ RelL X.K ω3 acc vs ∧ Post X.K X.mg W σ (ω3.drop Da) (RelD X.K) Q ((dcR it.chk p own c mk mv ds rest ks acc h3).bd fin),
          fun H3 ⟨ω3, h3, ks', acc', vs', a1, a2, a3, a4, a5, a6, a6', a7, a8⟩ => ⟨rest.length, by rw [hk, q1]; exact Nat.lt_succ_self _, ω3, h3, ks', acc', vs', a1, a2, a3, a4, a5, a6, a6', a7, by rw [hrest], by rw [hrest]; exact a8⟩, fun x H' hy => ?_⟩
        obtain ⟨ω3, rfl, e3, r3, d3⟩ := yl x H' hy
        cases q2 : bindP h2 p d (wipeD ds own) with
        | none => rw [q2] at p2; exact False.elim p2
        | some ds3 =>
          rw [q2] at p2
          have st : ∀ {ω4 : Wo}, Ext ω2 ω4 → ω4.A Da ∧ (∀ j, j < ω4.n → ω4.β j ≠ Da) ∧ ω4.H Da = some (.dK (ks.zip vs)) := fun {ω4} e4 => by
            refine ⟨e4.a _ aD, fun j hj z => ?_, e4.keep _ _ hDa (by intro _ z; cases z) (.inl fun j hj => bD j hj)⟩
            by_cases hj2 : j < ω2.n
            · rw [e4.b j hj2] at z; exact bD j hj2 z
            · have := e4.nw j (Nat.not_lt.mp hj2) hj
              rw [z, hDa] at this; cases this
          refine ⟨ω3, h2, wipeD ds own, d, ds3, rfl, r3, monoS r2 e3 (monoS r1 e2 s1 |>.wipe own), d3, q2, fun σ4 s4 hw => ⟨(hw own ho).trans (wipe_wipe own), ω3, h2, ds3, rfl, r3, s4, ?_⟩⟩
          have p3 := Post.mono p2 (e3.drop Da)
          simp only at p3
          rw [bd_bd] at p3
          refine Post.into p3 fun b h4 b' ω4 e4 r4 hb p4 => ?_
          have hb' : b = b' := hb
          subst hb'
          obtain ⟨aD4, bD4, hD4⟩ := st (e3.trans e4)
          cases b with
          | false => exact ⟨ω4, h4, ks, acc, vs, rfl, (e2.trans e3).trans e4, r4, aD4, bD4, hD4, hkl, monoL r2 (e3.trans e4) _ _ rl, p4⟩
          | true =>
            rw [if_pos rfl] at p4 ⊢
            rw [bd_bd] at p4
            refine ⟨ω4, h4, ds3, rfl, r4, monoS r3 e4 s4, Post.into p4 fun y h5 v ω5 e5 r5 hy p5 => ?_⟩
            rw [bd_bd] at p5
            refine ⟨ω5, h5, ds3, rfl, r5, monoS r3 (e4.trans e5) s4, Post.into p5 fun z h6 w ω6 e6 r6 hz p6 => ?_⟩
            obtain ⟨aD6, bD6, hD6⟩ := st (((e3.trans e4).trans e5).trans e6)
            have rl6 := monoL r2 (((e3.trans e4).trans e5).trans e6) _ _ rl
            split at p6
            · rename_i k0 qk
              by_cases hl : ks.length < lim
              · rw [if_pos hl] at p6
                obtain ⟨ws, f1, f2, f3⟩ := putK_zip (j := k0) (x := z) rl6 hkl hz
                obtain ⟨k1, k2, k3⟩ := hidD (o := .dK _) (u := .dK ((insD ks acc k0 z).1.zip ws)) r6 trivial aD6 bD6 hD6
                have zl : (ks.zip vs).length < sizeLine := by
                  rw [List.length_zip, ← hkl, Nat.min_self]; exact lim_lt hl
                refine ⟨ks.zip vs, k0, keyD_rel qk hy, hD6, zl, ω6.up Da (.dK ((insD ks acc k0 z).1.zip ws)), h6, (insD ks acc k0 z).1, (insD ks acc k0 z).2, ws, by rw [f1]; rfl, ?_, k1, aD6, bD6, upd_same, f2, k3 _ _ f3, by rw [Wo.drop_up]; exact p6⟩
                have e15 := (((e2.trans e3).trans e4).trans e5).trans e6
                refine ⟨e15.n, e15.b, e15.a, e15.aN, e15.nw, fun a ha => ?_, fun a o ha nt hb => ?_⟩
                · have ha' : upd ω6.H Da (.dK ((insD ks acc k0 z).1.zip ws)) a = none := ha
                  by_cases z : a = Da
                  · rw [z, upd_same] at ha'; cases ha'
                  · rw [upd_ne z] at ha'; exact e15.dom a ha'
                · have z0 := ne_of_none ha hD
                  show upd ω6.H Da (.dK ((insD ks acc k0 z).1.zip ws)) a = some o
                  rw [upd_ne z0]; exact e15.keep a o ha nt hb
              · rw [if_neg hl] at p6; exact False.elim p6
            · exact False.elim p6
      · rw [if_neg hck] at p2; exact False.elim p2
theorem dc_fz (σ : L2.St) (ω : Wo) (h : Hc) (q : Addr) (ks : List Key) (xs : List D) (vs : List V) (Q : VK) (r : Rel X.K ω h) (hq : ω.H q = some (.dK (ks.zip vs))) (hl : ks.length = vs.length) (aq : ω.A q) (bq : ∀ i, i < ω.n → ω.β i ≠ q) (rl : RelL X.K ω xs vs)
    (p : Post X.K X.mg W σ (ω.drop q) (RelD X.K) Q (.ok (.dct ks xs) h)) : Q (.ref q) ω.H := by
  obtain ⟨k1, k2, k3⟩ := shrink (B := fun a => ω.A a ∧ a ≠ q) r (fun _ z => z.1) fun i hi => ⟨r.inA i hi, bq i hi⟩
  refine p (.ref q) { ω with A := fun a => ω.A a ∧ a ≠ q } ⟨Nat.le_refl _, fun _ _ => rfl, fun _ z => z, fun _ z => .inl z, fun i a b => absurd b (Nat.not_lt.mpr a), fun a ha => ?_, fun a o ha _ _ => ?_⟩ k1 ?_
  · by_cases z : a = q
    · rw [z]; exact Wo.drop_eq
    · rw [Wo.drop_ne z]; exact ha
  · by_cases z : a = q
    · rw [z, Wo.drop_eq] at ha; cases ha
    · rw [Wo.drop_ne z] at ha; exact ha
  · unfold RelD
    exact ⟨q, vs, rfl, ⟨hq, fun z => z.2 rfl⟩, hl, k3 _ _ rl⟩
end
end Mp
/-! LayK: sorted. -/
namespace Mp
open PySem PySem.Spec PyProof.Rows L2
/-! ### one order, one sorted list -/
section
variable {α : Type}
def insO (le : α → α → Bool) (x : α) : List α → List α
  | [] => [x]
  | y :: r => if le x y = true then x :: y :: r else y :: insO le x r
def isort (le : α → α → Bool) : List α → List α
  | [] => []
  | x :: r => insO le x (isort le r)
structure Tot (le : α → α → Bool) : Prop where
  anti : ∀ a b, le a b = true → le b a = true → a = b
  tot : ∀ a b, le a b = true ∨ le b a = true
  trans : ∀ a b c, le a b = true → le b c = true → le a c = true
theorem insO_perm (le : α → α → Bool) (x : α) : ∀ l, (insO le x l).Perm (x :: l)
  | [] => List.Perm.refl _
  | y :: r => by
    unfold insO
    split
    · exact List.Perm.refl _
    · exact ((insO_perm le x r).cons y).trans (List.Perm.swap x y r)
theorem isort_perm (le : α → α → Bool) : ∀ l, (isort le l).Perm l
  | [] => List.Perm.refl _
  | x :: r => by
    unfold isort
    exact (insO_perm le x _).trans ((isort_perm le r).cons x)
theorem insO_pw {le : α → α → Bool} (O : Tot le) (x : α) : ∀ l : List α, l.Pairwise (fun a b => le a b = true) → (insO le x l).Pairwise fun a b => le a b = true
  | [], _ => by simp [insO]
  | y :: r, h => by
    unfold insO
    obtain ⟨h1, h2⟩ := List.pairwise_cons.mp h
    split
    · rename_i hx
      refine List.pairwise_cons.mpr ⟨fun z hz => ?_, h⟩
      rcases List.mem_cons.mp hz with rfl | hz
      · exact hx
      · exact O.trans _ _ _ hx (h1 z hz)
    · rename_i hx
      have hy : le y x = true := (O.tot x y).resolve_left hx
      refine List.pairwise_cons.mpr ⟨fun z hz => ?_, insO_pw O x r h2⟩
      rcases List.mem_cons.mp ((insO_perm le x r).mem_iff.mp hz) with rfl | hz
      · exact hy
      · exact h1 z hz
theorem isort_pw {le : α → α → Bool} (O : Tot le) : ∀ l : List α, (isort le l).Pairwise fun a b => le a b = true
  | [] => List.Pairwise.nil
  | x :: r => by
    unfold isort
    exact insO_pw O x _ (isort_pw O r)
theorem pw_uniq {le : α → α → Bool} (O : Tot le) : ∀ {l m : List α}, l.Pairwise (fun a b => le a b = true) → m.Pairwise (fun a b => le a b = true) → l.Perm m → l = m
  | [], m, _, _, h => (List.Perm.eq_nil h.symm).symm
  | x :: l, [], _, _, h => absurd h.length_eq (by simp)
  | x :: l, y :: m, hl, hm, h => by
    obtain ⟨a1, a2⟩ := List.pairwise_cons.mp hl
    obtain ⟨b1, b2⟩ := List.pairwise_cons.mp hm
    have e : x = y := by
      rcases List.mem_cons.mp (h.mem_iff.mp (List.mem_cons_self (a := x) (l := l))) with e | hx
      · exact e
      · rcases List.mem_cons.mp (h.mem_iff.mpr (List.mem_cons_self (a := y) (l := m))) with e | hy
        · exact e.symm
        · exact O.anti _ _ (a1 y hy) (b1 x hx)
    subst e
    rw [pw_uniq O a2 b2 (List.Perm.cons_inv h)]
theorem isort_uniq {le : α → α → Bool} (O : Tot le) {l m : List α} (h : m.Perm l) (hp : m.Pairwise fun a b => le a b = true) : m = isort le l :=
  pw_uniq O hp (isort_pw O l) (h.trans (isort_perm le l).symm)
theorem isort_len (le : α → α → Bool) (l : List α) : (isort le l).length = l.length := (isort_perm le l).length_eq
theorem isort_mem {le : α → α → Bool} {l : List α} {x : α} : x ∈ isort le l ↔ x ∈ l := (isort_perm le l).mem_iff
end
abbrev leI (a b : Int) : Bool := decide (a ≤ b)
def leS (a b : Str) : Bool := !decide (b.cps.toList < a.cps.toList)
theorem tot_I : Tot leI := ⟨fun a b h1 h2 => by simp [leI] at h1 h2; omega, fun a b => by simp [leI]; omega, fun a b c h1 h2 => by simp [leI] at h1 h2 ⊢; omega⟩
theorem str_ext {a b : Str} (h : a.cps.toList = b.cps.toList) : a = b := by
  cases a; cases b
  simp only [PySem.Str.mk.injEq]
  exact Array.toList_inj.mp h
theorem tot_S : Tot leS := by
  refine ⟨fun a b h1 h2 => ?_, fun a b => ?_, fun a b c h1 h2 => ?_⟩
  · simp only [leS, Bool.not_eq_true', decide_eq_false_iff_not] at h1 h2
    exact str_ext (List.le_antisymm h1 h2)
  · simp only [leS, Bool.not_eq_true', decide_eq_false_iff_not]
    exact List.le_total a.cps.toList b.cps.toList
  · simp only [leS, Bool.not_eq_true', decide_eq_false_iff_not] at h1 h2 ⊢
    exact List.le_trans h1 h2
abbrev sortS (l : List Str) : List Str := isort leS l
abbrev sortI (l : List Int) : List Int := isort leI l
theorem ltCps_lt : ∀ (a b : List Nat), PySem.Spec.ltCps a b = decide (a < b)
  | [], [] => by simp [PySem.Spec.ltCps]
  | [], _ :: _ => by simp [PySem.Spec.ltCps]
  | _ :: _, [] => by simp [PySem.Spec.ltCps]
  | a :: r, b :: t => by
    unfold PySem.Spec.ltCps
    rw [ltCps_lt r t]
    have : (a :: r < b :: t) ↔ (a < b ∨ a = b ∧ r < t) := by rw [List.cons_lt_cons_iff]
    simp only [this]
    by_cases h1 : a < b <;> by_cases h2 : a = b <;> by_cases h3 : r < t <;> simp [h1, h2, h3]
theorem sortedS_pw : ∀ {l : List Str}, sortedS l = true → l.Pairwise fun a b => leS a b = true
  | [], _ => List.Pairwise.nil
  | x :: r, h => by
    have go : ∀ (r : List Str) (p : Str), risingS p r = true → (p :: r).Pairwise fun a b => leS a b = true := by
      intro r
      induction r with
      | nil => intro p _; exact List.pairwise_singleton _ _
      | cons y r ih =>
        intro p h
        unfold risingS at h
        rw [Bool.and_eq_true, ltCps_lt] at h
        have i := ih y h.2
        refine List.pairwise_cons.mpr ⟨fun z hz => ?_, i⟩
        rcases List.mem_cons.mp hz with rfl | hz
        · exact h.1
        · exact tot_S.trans _ _ _ h.1 ((List.pairwise_cons.mp i).1 z hz)
    exact go r x h
def keysI : List Key → Option (List Int)
  | [] => some []
  | .inl i :: r => (keysI r).map (i :: ·)
  | _ :: _ => none
def keysS : List Key → Option (List Str)
  | [] => some []
  | .inr i :: r => (keysS r).map (i :: ·)
  | _ :: _ => none
theorem keysI_spec : ∀ {ks : List Key} {ns : List Int}, keysI ks = some ns → ks = ns.map Sum.inl
  | [], ns, e => by simp [keysI] at e; subst e; rfl
  | .inl i :: r, ns, e => by
    simp only [keysI, Option.map_eq_some_iff] at e
    obtain ⟨z, e1, rfl⟩ := e
    rw [List.map_cons, keysI_spec e1]
  | .inr i :: r, ns, e => by simp [keysI] at e
theorem keysS_spec : ∀ {ks : List Key} {ns : List Str}, keysS ks = some ns → ks = ns.map Sum.inr
  | [], ns, e => by simp [keysS] at e; subst e; rfl
  | .inr i :: r, ns, e => by
    simp only [keysS, Option.map_eq_some_iff] at e
    obtain ⟨z, e1, rfl⟩ := e
    rw [List.map_cons, keysS_spec e1]
  | .inl i :: r, ns, e => by simp [keysS] at e
/-! ### lists of pairs of ints -/
def leP (a b : Int × Int) : Bool := decide (a.1 < b.1 ∨ (a.1 = b.1 ∧ a.2 ≤ b.2))
theorem tot_P : Tot leP := ⟨fun a b h1 h2 => by
    obtain ⟨a1, a2⟩ := a; obtain ⟨b1, b2⟩ := b
    simp only [leP, decide_eq_true_eq] at h1 h2
    have e1 : a1 = b1 := by omega
    have e2 : a2 = b2 := by omega
    rw [e1, e2], fun a b => by
    simp only [leP, decide_eq_true_eq]; omega, fun a b c h1 h2 => by
    simp only [leP, decide_eq_true_eq] at h1 h2 ⊢; omega⟩
def pr2D (p : Int × Int) : D := .tup [.int p.1, .int p.2]
def prs2D : List D → Option (List (Int × Int))
  | [] => some []
  | .tup [.int a, .int b] :: r => (prs2D r).map ((a, b) :: ·)
  | _ => none
theorem prs2D_eq : ∀ {ds : List D} {ps : List (Int × Int)}, prs2D ds = some ps → ds = ps.map pr2D
  | [], ps, e => by simp [prs2D] at e; subst e; rfl
  | .tup [.int a, .int b] :: r, ps, e => by
    simp only [prs2D, Option.map_eq_some_iff] at e
    obtain ⟨z, e1, rfl⟩ := e
    rw [prs2D_eq e1]
    rfl
  | d :: r, ps, e => by
    unfold prs2D at e
    split at e
    · rename_i q; cases q
    · rename_i a b r' q
      cases q
      simp only [Option.map_eq_some_iff] at e
      obtain ⟨z, e1, rfl⟩ := e
      rw [prs2D_eq e1]
      rfl
    · cases e
/-- the items are pairs of ints, these -/
def PrR (K : PySem.W.Frag) (H : Hp) : List V → List (Int × Int) → Prop
  | [], [] => True
  | x :: xs, p :: ps => (∃ t, x = V.ref t ∧ SqT K H t [V.int p.1, V.int p.2]) ∧ PrR K H xs ps
  | _, _ => False
def pkV (h : Heap) (u : Value) : Int × Int := match u with
  | .ref t => match h.get? t with
    | some o => match o.data with
      | .seq its _ => match its.toList with
        | [.int x _, .int y _] => (x, y)
        | _ => (0, 0)
      | _ => (0, 0)
    | none => (0, 0)
  | _ => (0, 0)
theorem prR_vals {X : Cx} {pins : List (Addr × Obj)} {σ : List (Option V)} {H : Hp} {s : Shared} (I : Inv X pins σ H s) : ∀ {xs : List V} {us : List Value} {ps : List (Int × Int)}, Vals xs us → PrR X.K H xs ps →
    xs.zip ps = us.map (fun u => (backV u, pkV s.heap u)) ∧ ∀ u ∈ us, Srt.IsPair s.heap u (pkV s.heap u).1 (pkV s.heap u).2
  | _, _, [], .nil, _ => ⟨rfl, fun u hu => absurd hu (by simp)⟩
  | _, _, p :: ps, .nil, h => False.elim h
  | x :: xs, u :: us, [], .cons r t, h => False.elim h
  | x :: xs, u :: us, p :: ps, .cons r t, h => by
    obtain ⟨⟨a, e, q⟩, h2⟩ := h
    subst e
    cases r
    obtain ⟨i1, i2⟩ := prR_vals I t h2
    obtain ⟨its, r2, ⟨o, ho, hc, n, hd⟩, _⟩ := I.tuple q
    obtain ⟨u1, u2, e3, ri, rj⟩ := vals2 r2
    obtain ⟨t1, rfl⟩ := ri
    obtain ⟨t2, rfl⟩ := rj
    subst e3
    have ek : pkV s.heap (.ref a) = (p.1, p.2) := by
      simp only [pkV, ho, hd]
    refine ⟨?_, fun v hv => ?_⟩
    · rw [List.zip_cons_cons, List.map_cons, i1, ek]
      rfl
    · rcases List.mem_cons.mp hv with e | hv
      · subst e
        rw [ek]
        exact ⟨a, o, t1, t2, n, rfl, ho, hc, hd⟩
      · exact i2 v hv
def rSortedPI (K : PySem.W.Frag) : List V → Hp → VK → Prop := fun vs H Q => ∃ (a : Addr) (xs : List V) (ps : List (Int × Int)), vs = [V.ref a] ∧ SqL K H a xs ∧ PrR K H xs ps ∧
  ∀ (zs : List (V × (Int × Int))) (p : Addr), zs.Perm (xs.zip ps) → (zs.map (·.2)).Pairwise (fun a b => leP a b = true) → H p = none → Q (.ref p) (upd H p (.lst (zs.map (·.1))))
theorem prR_refs {K : PySem.W.Frag} {H : Hp} : ∀ {xs : List V} {ps : List (Int × Int)}, PrR K H xs ps → ∀ x ∈ xs, ∃ a, x = V.ref a
  | [], [], _ => fun x hx => absurd hx (by simp)
  | [], p :: ps, h => False.elim h
  | x :: xs, [], h => False.elim h
  | x :: xs, p :: ps, h => fun y hy => by
    obtain ⟨⟨t, e, _⟩, h2⟩ := h
    rcases List.mem_cons.mp hy with e2 | hy
    · exact ⟨t, e2.trans e⟩
    · exact prR_refs h2 y hy
theorem call_sortedPI {X : Cx} : CallR X (.builtin "sorted") (rSortedPI X.K) := by
  intro pins s σ H vs us Q I r h
  obtain ⟨a, xs, ps, rfl, hs, hx, q⟩ := h
  obtain ⟨its, rv, hl, hz⟩ := I.list hs
  obtain ⟨u, rfl, ru⟩ := vals1 r
  obtain rfl : u = Value.ref a := ru
  obtain ⟨e1, e2⟩ := refs_back rv (prR_refs hx)
  obtain ⟨e3, e4⟩ := prR_vals I rv hx
  refine SrtO.sorted_pairsO (k := pkV s.heap) hl.isList (by rw [← rv.length]; exact hz) e4 fun h' d out h1 h2 kp hd hn => ?_
  have h3 : ∀ u ∈ out, ∃ a, u = Value.ref a := fun u hu => e2 u (h2.perm.mem_iff.mp hu)
  obtain ⟨n, hn⟩ := hn
  have em : ((out.map fun u => (backV u, pkV s.heap u)).map (·.1)) = out.map backV := by rw [List.map_map]; rfl
  have en : ((out.map fun u => (backV u, pkV s.heap u)).map (·.2)) = out.map (pkV s.heap) := by rw [List.map_map]; rfl
  have qq := q (out.map fun u => (backV u, pkV s.heap u)) d (by rw [e3]; exact h2.perm.map _) (by
    rw [en, List.pairwise_map]
    refine List.Pairwise.imp (fun {x y} hxy => ?_) h1
    have z := SrtO.lexB_no.mp hxy
    simp only [leP, decide_eq_true_eq]
    omega) (I.hok.fresh hd)
  rw [em] at qq
  refine ⟨.ref d, upd H d (.lst (out.map backV)), I.laid (t' := s.toks) kp hd ⟨?_, out, n, vals_back h3, hn⟩, rfl, qq⟩
  rw [List.length_map, h2.perm.length_eq, ← rv.length]
  exact hz
/-- data lists of pairs -/
theorem prR_of {K : PySem.W.Frag} {ω : Wo} : ∀ {ps : List (Int × Int)} {us : List V}, RelL K ω (ps.map pr2D) us → PrR K ω.H us ps ∧ ∀ z ∈ us.zip ps, RelD K ω (pr2D z.2) z.1
  | [], us, r => by
    obtain rfl := r.inv0
    exact ⟨trivial, fun z hz => absurd hz (by simp)⟩
  | p :: ps, us, r => by
    rw [List.map_cons] at r
    obtain ⟨v, ws, rfl, e2, e3⟩ := r.inv
    obtain ⟨i1, i2⟩ := prR_of e3
    have e2' := e2
    unfold pr2D at e2
    obtain ⟨t, us', e4, e5, e6⟩ := rd_tup e2
    obtain ⟨v1, w1, rfl, f1, f2⟩ := e6.inv
    obtain ⟨v2, w2, rfl, f3, f4⟩ := f2.inv
    obtain rfl := f4.inv0
    unfold RelD at f1 f3
    subst f1 f3
    refine ⟨⟨⟨t, e4, e5⟩, i1⟩, fun z hz => ?_⟩
    rw [List.zip_cons_cons] at hz
    rcases List.mem_cons.mp hz with e | hz
    · subst e; exact e2'
    · exact i2 z hz
theorem relL_zip {K : PySem.W.Frag} {ω : Wo} : ∀ {zs : List (V × (Int × Int))}, (∀ z ∈ zs, RelD K ω (pr2D z.2) z.1) → RelL K ω ((zs.map (·.2)).map pr2D) (zs.map (·.1))
  | [], _ => RelL.nil
  | z :: zs, h => by
    rw [List.map_cons, List.map_cons, List.map_cons]
    exact RelL.cons (h z List.mem_cons_self) (relL_zip fun y hy => h y (List.mem_cons_of_mem _ hy))
/-- sorted(x): what comes out -/
def sortX (h : Hc) (d : D) : Option (List D) := match rdlD h d with
  | some ys => match strsD ys with
    | some ss => if ss.length < 64 then some ((sortS ss).map D.str) else none
    | none => match intsD ys with
      | some ns => some ((sortI ns).map D.int)
      | none => match prs2D ys with
        | some ps => some ((isort leP ps).map pr2D)
        | none => none
  | none => match dctD h d with
    | some (ks, _) => match keysS ks with
      | some ss => if ss.length < 64 then some ((sortS ss).map D.str) else none
      | none => match keysI ks with
        | some ns => if ns.length < 64 then some ((sortI ns).map D.int) else none
        | none => none
    | none => match d with
      | .tup zs => match intsD zs with
        | some ns => some ((sortI ns).map D.int)
        | none => none
      | _ => none
def sortF (xs : List D) (h : Hc) : R D := match xs with
  | [d] => match sortX h d with
    | some ys => .ok (.lst ys) h
    | none => .bad
  | _ => .bad
def sortC (xs : List D) (h : Hc) : R D := match xs with
  | [d] => match sortX h d with
    | some ys => .ok (.ref h.length) (h ++ [.lst ys])
    | none => .bad
  | _ => .bad
/-- sorted(t), a tuple of ints -/
theorem call_sortedTI {X : Cx} : CallR X (.builtin "sorted") (fun xs H Q => ∃ (a : Addr) (ns : List Int), xs = [V.ref a] ∧ SqT X.K H a (ns.map V.int) ∧
    ∀ (ns' : List Int) (p : Addr), ns'.Perm ns → ns'.Pairwise (· ≤ ·) → H p = none → Q (.ref p) (upd H p (.lst (ns'.map V.int)))) := by
  intro pins s σ H xs us Q I r q
  obtain ⟨a, ns, ex, hs, q⟩ := q
  subst ex
  obtain ⟨its, rv, ⟨o, ho, hc, n, hd⟩, hz⟩ := I.tuple hs
  rw [Vals.ref1 r]
  have hi := rv.ints
  have hzl : its.length ≤ sizeLine := by rw [← rv.length]; exact hz
  refine Calls.call_function_entry PyProof.Rows.kind_sorted PyProof.Rows.plain_sorted PyProof.Rows.entry_sorted (PyProof.Rows.args_sorted1 _) ?_
  unfold Builtin.«sorted»
  refine wpAny_bind (m := checkCount "sorted" 1 1 _) (wpAny_pure ?_)
  refine wpAny_bind (wpAny_collect_seq a (.inr rfl) ho hc hd (fun h' hk => ?_) (by simpa using hzl))
  have e0 : its.toArray.toList = its := by simp
  rw [e0]
  have I1 : Inv X pins σ H { s with heap := h' } := I.kept (t' := s.toks) hk
  refine wpAny_bind (wpAny_newList ?_ hzl)
  have hoL : (h'.push (PyProof.Rows.seqObj "list" its.toArray 0)).get? h'.objs.size = some (PyProof.Rows.seqObj "list" its.toArray 0) := Heap.get?_push_size _ rfl
  show wpAny _ _ _ _ _ { s with heap := h'.push (PyProof.Rows.seqObj "list" its.toArray 0) }
  refine wpAny_bind (wpAny_holding (wpAny_call_entry PyProof.Rows.slot_list_sort ⟨_, hoL, rfl⟩ PyProof.Rows.entry_list_sort
    (SrtO.list_sort_ord (s := { s with heap := h'.push (PyProof.Rows.seqObj "list" its.toArray 0) }) SrtO.swo_int hoL hzl (fun h2 => SrtO.ints_sortable hi h2) fun out g1 g2 => ⟨_, rfl, ?_⟩) (PyProof.Rows.args_list_sort _)))
  obtain ⟨k1, k2, k3⟩ := SrtO.ints_out hi g1 g2
  obtain ⟨e', he'⟩ := PyProof.Rows.sortedHeap_at (vs := its) (out := out.toArray) hoL
  have hlen : ((out.map SrtO.iv).map V.int).length ≤ sizeLine := by
    rw [List.length_map, k2.length_eq]
    rw [List.length_map] at hz
    exact hz
  refine wpAny_pure ⟨_, rfl, .ref h'.objs.size, upd H h'.objs.size (.lst ((out.map SrtO.iv).map V.int)), I1.laid (t' := s.toks) (fun b u e => ?_) (Nat.le_refl _)
    (show ObjOk X.prog X.w _ _ _ (.lst ((out.map SrtO.iv).map V.int)) from ⟨hlen, out, e', vals_of_ints k1, he'⟩), rfl, q _ _ k2 k3 (I1.hok.fresh (Nat.le_refl _))⟩
  have hb : b < h'.objs.size := Heap.lt_size e
  rw [PyProof.Rows.sortedHeap_old (Nat.ne_of_lt hb) (by rw [size_push']; exact Nat.lt_succ_of_lt hb)]
  exact Heap.get?_push_of_some _ e
def rSortA (X : Cx) : List V → Hp → VK → Prop := fun xs H Q => rSortedS X.K xs H Q ∨ rSortedI X.K xs H Q ∨ (∃ (a : Addr) (kvs : List (Key × V)) (ks : List Str), xs = [.ref a] ∧ Rd H a (.dK kvs) ∧ kvs.map (·.1) = ks.map Sum.inr ∧ ks.length < 64 ∧
    ∀ ys p, ys.Perm ks → sortedS ys = true → H p = none → Q (.ref p) (upd H p (.lst (ys.map V.str)))) ∨ (∃ (a : Addr) (kvs : List (Key × V)) (ks : List Int), xs = [.ref a] ∧ Rd H a (.dK kvs) ∧ kvs.map (·.1) = ks.map Sum.inl ∧ ks.length < 64 ∧
    ∀ (ns' : List Int) p, ns'.Perm ks → ns'.Pairwise (· ≤ ·) → H p = none → Q (.ref p) (upd H p (.lst (ns'.map V.int)))) ∨ (∃ (a : Addr) (ns : List Int), xs = [V.ref a] ∧ SqT X.K H a (ns.map V.int) ∧
    ∀ (ns' : List Int) (p : Addr), ns'.Perm ns → ns'.Pairwise (· ≤ ·) → H p = none → Q (.ref p) (upd H p (.lst (ns'.map V.int)))) ∨ rSortedPI X.K xs H Q
theorem call_sortA {X : Cx} (hc : X.calm = true) : CallR X (.builtin "sorted") (rSortA X) := cr_or cr_sortedS (cr_or cr_sortedI (cr_or (call_sortedD hc) (cr_or (call_sortedDI hc) (cr_or call_sortedTI call_sortedPI))))
/-- the rule gives the one sorted list -/
theorem sort_w {K : PySem.W.Frag} {ω : Wo} {h : Hc} {d : D} {v : V} {ys : List D} (X : Cx) (hK : X.K = K) {Q : VK} (r : Rel K ω h) (q : sortX h d = some ys) (x : RelD K ω d v)
    (p : ∀ (a : Addr) (ws : List V), ω.H a = none → RelL K ω ys ws → Q (.ref a) (upd ω.H a (.lst ws))) : rSortA X [v] ω.H Q := by
  subst hK
  unfold sortX at q
  split at q
  · rename_i zs q1
    obtain ⟨a, us, rfl, e2, e3⟩ := rdlD_rel r q1 x
    split at q
    · rename_i ss q2
      split at q
      · rename_i hl
        cases q
        have ez : zs = ss.map D.str := strsD_eq q2
        rw [ez] at e3
        have eu := e3.strs
        subst eu
        refine .inl ⟨a, ss, rfl, e2, hl, fun zs p' hp hs hn => ?_⟩
        rw [isort_uniq tot_S hp (sortedS_pw hs)]
        exact p p' _ hn (RelL.of_strs _)
      · cases q
    · split at q
      · rename_i ns q3
        cases q
        have ez : zs = ns.map D.int := intsD_eq q3
        rw [ez] at e3
        have eu := e3.ints
        subst eu
        refine .inr (.inl ⟨a, ns, rfl, e2, fun ns' p' hp hs hn => ?_⟩)
        rw [isort_uniq tot_I hp (hs.imp fun h => by simpa [leI] using h)]
        exact p p' _ hn (RelL.of_ints _)
      · split at q
        · rename_i ps q4
          cases q
          rw [prs2D_eq q4] at e3
          obtain ⟨f1, f2⟩ := prR_of e3
          refine .inr (.inr (.inr (.inr (.inr ⟨a, us, ps, rfl, e2, f1, fun zs p' hp hs hn => ?_⟩))))
          have el : us.length = ps.length := by have := e3.len; simpa using this.symm
          have ez : (zs.map (·.2)) = isort leP ps := isort_uniq tot_P (by
            have h2 := hp.map (·.2)
            rwa [List.map_snd_zip (by omega)] at h2) hs
          rw [← ez] at p
          exact p p' _ hn (relL_zip fun z hz => f2 z (hp.mem_iff.mp hz))
        · cases q
  · split at q
    · rename_i ks xs q2
      obtain ⟨a, us, rfl, e2, e3, e4⟩ := dctD_rel r q2 x
      have kv : (ks.zip us).map (·.1) = ks := by
        rw [List.map_fst_zip]
        rw [e3]; exact Nat.le_refl _
      split at q
      · rename_i ss q3
        split at q
        · rename_i hl
          cases q
          refine .inr (.inr (.inl ⟨a, _, ss, rfl, .inl e2, kv.trans (keysS_spec q3), hl, fun zs p' hp hs hn => ?_⟩))
          rw [isort_uniq tot_S hp (sortedS_pw hs)]
          exact p p' _ hn (RelL.of_strs _)
        · cases q
      · split at q
        · rename_i ns q4
          split at q
          · rename_i hl
            cases q
            refine .inr (.inr (.inr (.inl ⟨a, _, ns, rfl, .inl e2, kv.trans (keysI_spec q4), hl, fun ns' p' hp hs hn => ?_⟩)))
            rw [isort_uniq tot_I hp (hs.imp fun h => by simpa [leI] using h)]
            exact p p' _ hn (RelL.of_ints _)
          · cases q
        · cases q
    · split at q
      · rename_i zs
        split at q
        · rename_i ns q3
          cases q
          obtain ⟨a, us, rfl, e2, e3⟩ := rd_tup x
          rw [intsD_eq q3] at e3
          have eu := e3.ints
          subst eu
          refine .inr (.inr (.inr (.inr (.inl ⟨a, ns, rfl, e2, fun ns' p' hp hs hn => ?_⟩))))
          rw [isort_uniq tot_I hp (hs.imp fun h => by simpa [leI] using h)]
          exact p p' _ hn (RelL.of_ints _)
        · cases q
      · cases q
theorem cd_sort {X : Cx} : CallD X (rSortA X) sortF := fun W σ ω h xs vs Q r rx p => by
  unfold sortF at p
  split at p
  · rename_i d
    obtain ⟨v, ws, rfl, e2, e3⟩ := rx.inv
    rw [e3.inv0]
    split at p
    · rename_i ys q
      exact sort_w X rfl r q e2 fun a us hn rl => p (.ref a) (ω.up a (.lst us)) (Ext.up hn) (r.up hn) (fz_new r hn rl)
    · exact False.elim p
  · exact False.elim p
/-! ### the signs of a text -/
def sgnD (x : Str) : List D := x.cps.toList.map fun c => .str ⟨#[c]⟩
def iSgn (m : SE) : SI := fun ds h => (m ds h).bd fun d h1 => match d with
  | .str x => .ok ⟨sgnD x, fun _ => true⟩ h1
  | _ => .bad
theorem itOk_sgn {K : PySem.W.Frag} {ω : Wo} {x : Str} : ItOk K ω ⟨sgnD x, fun _ => true⟩ (Its x) := fun i ω' h' e r' hk => by
  unfold sgnD
  refine ⟨fun d hd => ?_, fun hn => ?_⟩
  · rw [List.getElem?_map, Option.map_eq_some_iff] at hd
    obtain ⟨c, e1, rfl⟩ := hd
    have hi : i < x.cps.size := by
      have := (List.getElem?_eq_some_iff.mp e1).1
      simpa using this
    refine ⟨hi, fun y H' ⟨q1, c', q2, q3⟩ => ⟨ω', q1.symm, Ext.refl _, r', ?_⟩⟩
    have : c = c' := by
      rw [Array.getElem?_toList] at e1
      rw [e1] at q2
      exact Option.some.inj q2
    rw [q3, this]; exact str_rd
  · rw [List.getElem?_map, Option.map_eq_none_iff, List.getElem?_eq_none_iff] at hn
    show x.cps.size ≤ i
    simpa using hn
theorem di_str {X : Cx} {W : WX} {tg e : Expr} {m : SE} (he : DE X W e m) : DI X W tg e (iSgn m) := di_of (pi_str he) fun σ H R ⟨ω, h, ds, e1, r, s, p⟩ => by
  subst e1
  refine ⟨ω, h, ds, rfl, r, s, Post.bd (show Post X.K X.mg W σ ω _ R ((m ds h).bd _) from p) fun d h1 v ω1 e1 r1 d1 p1 => ?_⟩
  split at p1
  · rename_i x
    exact ⟨x, rd_str d1, p1 _ ω1 (Ext.refl _) r1 itOk_sgn⟩
  · exact False.elim p1
end Mp
/-! LayX: exceptions of own classes over Exception, their making. -/
namespace Mp
open PySem PySem.Spec PyProof.Rows L2
def exT : List Value := [.type "Exception", .type "BaseException", .type "object"]
/-- own classes, then those of Exception -/
def refsE : List Value → Bool
  | .ref _ :: r => refsE r
  | l => l == exT
theorem refsE_ind {P : List Value → Prop} (h0 : P exT) (h1 : ∀ c r, P r → P (.ref c :: r)) : ∀ l, refsE l = true → P l
  | [], e => absurd e (by decide)
  | a :: r, e => by
    cases a with
    | ref c => exact h1 c r (refsE_ind h0 h1 r e)
    | _ => (have z := (beq_iff_eq (α := List Value)).mp e); (first | (rw [z]; exact h0) | (exact absurd z (by simp [exT])))
theorem refsE_pass (self : Value) : ∀ l, refsE l = true → refuseLoop self "__setattr__" l = pure () :=
  refsE_ind (F.store_Exception.passes self) fun c r h => by rw [refuseLoop_ref]; exact h
theorem refsE_has (X : String) : ∀ l : List Value, refsE l = true → l.contains (.type X) = exT.contains (.type X) :=
  refsE_ind rfl fun c r h => by rw [List.contains_cons, h]; rfl
theorem refsE_ne : ∀ l : List Value, refsE l = true → l.isEmpty = false := refsE_ind rfl fun _ _ _ => rfl
section
open Builtin Builtin.ObjectAttr
variable {prog : Program} {w : World} {A : Around} {R : Result → Shared → Prop} {hp : Heap} {g : Array GenState} {d : Drawn} {t : Nat} {os : OsState}
/-- the walk to the exception's own dict -/
theorem xset_walk {K : W.Frag} {name : Str} {tk : Tok} {v : Value} {x C : Addr} {ox : Obj} {od : Option Obj} {cd : ClassData}
    (X : K.In hp) (I : W.InstAt hp x ox C od) (hcd : W.clsIn K C = some cd) (hm : refsE cd.mro = true) (ha : W.findIn K (.ref C) name = some none)
    (hq : wpAny (model prog w) A.in1 (storeInOwnDict (.ref x) (.ref C) (.str name tk) name v false)
      (fun fin s' => match fin with | .done f => R (.ok f) s' | .again c' => c'.quiet = true ∧ codeAny (model prog w) A c' R s') (fun e s' => R (.error e) s') ⟨hp, g, d, t, os⟩) :
    codeAny (model prog w) A (.call (.builtin "object.__setattr__") ⟨[.ref x, .str name tk, v], []⟩) R ⟨hp, g, d, t, os⟩ := by
  have SF := F.store_object
  have hob : cd.mro.contains (.type "object") = true := (refsE_has "object" _ hm).trans (by decide +kernel)
  have hmro : W.mroIn K C (.type "object") = some true := by
    unfold W.mroIn
    rw [hcd, Option.bind_some, if_neg (by rw [refsE_ne _ hm]; decide), hob]
  have sub : W.Looks (model prog w) hp (isInstance (.ref x) (.type "object")) true := I.type.andThen (W.looks_mroIn X hmro)
  refine codeAny_call_builtin SF.slot.plain SF.entry (@W.check_slot (model prog w) _ _ ⟨hp, g, d, t, os⟩ "object.__setattr__" "object" "__setattr__" (.ref x) [.str name tk, v] [] _ SF.kind SF.split sub (SF.args (.ref x) (.str name tk) v) ?_)
  have hmr : W.Looks (model prog w) hp (mroOf (.ref C)) cd.mro := (W.looks_clsIn X hcd).andThen .now
  have L3 : W.Looks (model prog w) hp (storeTaker? none) none := .now
  rw [W.osa_eq, refuse_eq]
  refine wpAny_bind (wpAny_bind (I.type.at (wpAny_bind (hmr.at ?_))))
  rw [refsE_pass _ _ hm]
  exact wpAny_pure (wpAny_bind (I.type.at (wpAny_bind ((W.looks_findIn X ha).at (wpAny_bind (L3.at hq))))))
theorem xset_new {K : W.Frag} {name : Str} {tk : Tok} {v : Value} {x C : Addr} {fv : Array Value} {cd : ClassData}
    (X : K.In hp) (hx : hp.get? x = some { cls := .ref C, data := .fields fv }) (hcd : W.clsIn K C = some cd) (hm : refsE cd.mro = true) (hh : cd.hasDict = true) (ha : W.findIn K (.ref C) name = some none)
    (hq : ∀ h' tk' dx, (∀ b o, b ≠ x → hp.get? b = some o → h'.get? b = some o) → hp.objs.size ≤ dx → dx ≠ x → h'.get? x = some { cls := .ref C, dict := some dx, data := .fields fv } →
      h'.Ns1 dx (fun y => if y = name then some v else none) → R (.ok (.ret .none)) ⟨h', g, d, tk', os⟩) :
    codeAny (model prog w) A (.call (.builtin "object.__setattr__") ⟨[.ref x, .str name tk, v], []⟩) R ⟨hp, g, d, t, os⟩ := by
  have hxs : x ≠ hp.objs.size := Nat.ne_of_lt (Heap.lt_size hx)
  refine xset_walk X (⟨hx, rfl, rfl, trivial⟩ : W.InstAt hp x { cls := .ref C, data := .fields fv } C none) hcd hm ha ?_
  have hcls : W.Looks (model prog w) hp (classData C) cd := W.looks_clsIn X hcd
  obtain ⟨nm, bs, mro, ns, qn, hd, sn, sb, ab, col, del⟩ := cd
  dsimp only at hh
  subst hh
  unfold storeInOwnDict ownDictForStores
  repeat (first | with_reducible refine HandSPX.store_in_new ?_ ?_ | with_reducible refine wpAny_loadPart_at hx ?_ | with_reducible refine hcls.at ?_ | wp_step)
  · exact ⟨_, #[], _, (Heap.get?_update_ne _ _ _ _ hxs.symm).trans (Heap.get?_push_at rfl rfl), rfl, fun e he => absurd he (by simp), fun _ => rfl⟩
  · intro h' tk' hn' hs
    have hx₁ : (hp.push { cls := .type "dict", data := .dict #[] }).get? x = some { cls := .ref C, data := .fields fv } := Heap.get?_push_of_some _ hx
    refine hq h' tk' hp.objs.size (fun b o hb ho => ?_) (Nat.le_refl _) hxs.symm ?_ hn'
    · exact (hs.2 b (Nat.ne_of_lt (Heap.lt_size ho))).trans ((Heap.get?_update_ne _ _ _ _ hb).trans (Heap.get?_push_of_some _ ho))
    · exact (hs.2 x hxs).trans (Heap.get?_update_self _ hx₁ rfl)
theorem xset_old {K : W.Frag} {name : Str} {tk : Tok} {v : Value} {x C dx : Addr} {fv : Array Value} {cd : ClassData} {m0 : Str → Option Value} {nl : List Str}
    (X : K.In hp) (hx : hp.get? x = some { cls := .ref C, dict := some dx, data := .fields fv }) (hns : hp.Ns1 dx m0) (hw : Within m0 nl) (hz : nl.length ≤ 1000) (hcd : W.clsIn K C = some cd) (hm : refsE cd.mro = true) (hh : cd.hasDict = true)
    (ha : W.findIn K (.ref C) name = some none)
    (hq : ∀ h' tk', (∀ b o, b ≠ dx → hp.get? b = some o → h'.get? b = some o) → h'.Ns1 dx (fun y => if y = name then some v else m0 y) → R (.ok (.ret .none)) ⟨h', g, d, tk', os⟩) :
    codeAny (model prog w) A (.call (.builtin "object.__setattr__") ⟨[.ref x, .str name tk, v], []⟩) R ⟨hp, g, d, t, os⟩ := by
  obtain ⟨oD, esD, epD, hoD, hdD, _⟩ := hns.count hw
  refine xset_walk X (⟨hx, rfl, rfl, hoD⟩ : W.InstAt hp x { cls := .ref C, dict := some dx, data := .fields fv } C (some oD)) hcd hm ha ?_
  have hcls : W.Looks (model prog w) hp (classData C) cd := W.looks_clsIn X hcd
  obtain ⟨nm, bs, mro, ns, qn, hd, sn, sb, ab, col, del⟩ := cd
  dsimp only at hh
  subst hh
  unfold storeInOwnDict ownDictForStores
  repeat (first | with_reducible refine ESX.store_in_old hns hw hz ?_ | with_reducible refine wpAny_loadPart_at hx ?_ | with_reducible refine hcls.at ?_ | wp_step)
  intro h' tk' hn' hs
  exact hq h' tk' (fun b o hb ho => (hs.2 b hb).trans ho) hn'
end
/-- what the written part says of such a class -/
structure ExM (K : PySem.W.Frag) (C : Addr) : Prop where
  cls : ∃ nm q N bs bm sn sub ab col dd k0 k1 k2 k3 k5, K.lookup C = some (excClassObj nm q C N bs bm true sn sub ab col dd k0 k1 k2 k3 k5 "Exception.__new__") ∧ refsE bm = true
  sa : PySem.W.findIn K (.ref C) "__setattr__" = some (some (.builtin "object.__setattr__"))
  exC : PySem.W.subIn K (.ref C) (.type "BaseException") = some true
  tyC : PySem.W.typeIn K (.ref C) = some (.type "type")
  kC : PySem.W.keepIn K (.ref C) = true
section
variable {X : Cx} {pins : List (Addr × Obj)} {σ : L2.St} {H : Hp} {s : Shared} {a C dx : Addr} {f : Str} {y : V} {u : Value} {fs : List (Str × V)} {Q : Unit → Shared → Prop} {E : Value → Shared → Prop} {A : Around}
/-- self.f = y, the first one -/
theorem xst_new (T : ExM X.K C) (I : Inv X pins σ H s) (e : H a = some (exo a C none)) (hno : PySem.W.findIn X.K (.ref C) f = some none) (ry : RelV y u)
    (h : ∀ dx s', H dx = none → dx ≠ a → Inv X pins σ (upd (upd H dx (exd dx [(f, y)])) a (exo a C (some dx))) s' → Q () s') : wpAny (model X.prog X.w) A (setAttr (.ref a) f u) Q E s := by
  obtain ⟨nm, q, N, bs, bm, sn, sub, ab, col, dd, k0, k1, k2, k3, k5, hC, hbm⟩ := T.cls
  have hcl : PySem.W.clsIn X.K C = some { name := nm, bases := bs, mro := .ref C :: bm, ns := N, qualname := q, hasDict := true, slotNames := sn, subclasses := sub, abstract := ab, collection := col, hasDel := false } := by unfold PySem.W.clsIn; rw [hC] <;> rfl
  obtain ⟨t1, ho⟩ := exo_at I.hok e
  obtain ⟨hp, g, d, t, os⟩ := s
  refine PySem.W.set_plain I.kIn (ox := { cls := .ref C, dict := none, data := .fields #[.ref t1, .none, .none, .none, .bool false, .none] }) (od := none) ⟨ho, rfl, rfl, trivial⟩ T.sa ?_
  refine xset_new I.kIn ho hcl (show refsE (.ref C :: bm) = true from hbm) rfl hno (fun h' tk' dx k dn dne hx hn => ?_)
  have hnd : H dx = none := I.hok.fresh dn
  have nd : ∀ {b : Addr} {o : Obj}, hp.get? b = some o → b ≠ dx := fun {b o} q => Nat.ne_of_lt (Nat.lt_of_lt_of_le (Heap.lt_size q) dn)
  have na : ∀ {b : Addr}, H b = none → b ≠ a := fun {b} n z => by
    rw [z, e] at n
    cases n
  have Un1 : Un X.fs [] H (upd (upd H dx (exd dx [(f, y)])) a (exo a C (some dx))) hp h' := {
    keep := fun b o q n _ _ => k b o (na n) q
    slot := fun b o q n _ _ => ⟨o.slots, k b o (na n) q⟩
    free := fun b o q n _ => by rw [upd_ne (na n), upd_ne (nd q)]; exact n
    there := fun b o q _ => by
      by_cases hb : b = a
      · exact ⟨_, by rw [hb]; exact hx⟩
      · exact ⟨o, k b o hb q⟩
    tups := fun b xs q => by rw [upd_ne (at_ne e q exo_tup), upd_ne (ne_of_none q hnd)]; exact q
    frzs := fun b o v q => by rw [upd_ne (at_ne e q exo_frz), upd_ne (ne_of_none q hnd)]; exact q
    tbls := fun b ps q => ⟨#[], by rw [upd_ne (at_ne e q exo_tbl), upd_ne (ne_of_none q hnd), q]; simp⟩ }
  refine h dx _ hnd dne (I.un (t' := tk') Un1 fun b o q => ?_)
  by_cases hb : b = a
  · subst hb
    rw [upd_same] at q
    cases q
    exact exo_ok hx
  · rw [upd_ne hb] at q
    by_cases hd : b = dx
    · subst hd
      rw [upd_same] at q
      cases q
      exact exd_ok hn (relO_put (fs := []) ry fun g => True.intro)
    · rw [upd_ne hd] at q
      exact (I.hok b o q).stay (fun c v hc z => k c v (by
          rcases hc with hc | hc
          · rw [hc]
            exact hb
          · exact at_ne e hc exo_own) z)
        (fun c hc => by rw [upd_ne (at_ne e hc exo_own), upd_ne (ne_of_none hc hnd)]; exact hc) (fun c xs hc => by rw [upd_ne (at_ne e hc exo_tup), upd_ne (ne_of_none hc hnd)]; exact hc)
/-- self.f = y, a further one -/
theorem xst_old (T : ExM X.K C) (I : Inv X pins σ H s) (e : H a = some (exo a C (some dx))) (ed : H dx = some (exd dx fs)) (hl : fs.length ≤ 900) (hno : PySem.W.findIn X.K (.ref C) f = some none) (ry : RelV y u)
    (h : ∀ s', Inv X pins σ (upd H dx (exd dx ((f, y) :: fs))) s' → Q () s') : wpAny (model X.prog X.w) A (setAttr (.ref a) f u) Q E s := by
  obtain ⟨nm, q, N, bs, bm, sn, sub, ab, col, dd, k0, k1, k2, k3, k5, hC, hbm⟩ := T.cls
  have hcl : PySem.W.clsIn X.K C = some { name := nm, bases := bs, mro := .ref C :: bm, ns := N, qualname := q, hasDict := true, slotNames := sn, subclasses := sub, abstract := ab, collection := col, hasDel := false } := by unfold PySem.W.clsIn; rw [hC] <;> rfl
  obtain ⟨t1, ho⟩ := exo_at I.hok e
  obtain ⟨mA, hns, rel⟩ := exd_at I.hok ed
  have hw := within_of rel
  obtain ⟨hp, g, d, t, os⟩ := s
  obtain ⟨oD, _, _, hoD, _, _⟩ := hns.count hw
  refine PySem.W.set_plain I.kIn (ox := { cls := .ref C, dict := some dx, data := .fields #[.ref t1, .none, .none, .none, .bool false, .none] }) (od := some oD) ⟨ho, rfl, rfl, hoD⟩ T.sa ?_
  refine xset_old I.kIn ho hns hw (by rw [List.length_map]; omega) hcl (show refsE (.ref C :: bm) = true from hbm) rfl hno (fun h' tk' k hn => ?_)
  have hd : ∃ o, h'.get? dx = some o := by
    obtain ⟨o, _, _, e', _⟩ := hn
    exact ⟨o, e'⟩
  exact h _ (I.write (t' := tk') (x := dx) (e := dx) (o := exd dx ((f, y) :: fs)) (by rw [ed]; exact True.intro) (.inl rfl) k hd (exd_ok hn (relO_put ry rel)))
end
/-- self.f = e -/
def tXst (K : PySem.W.Frag) (f : Str) (to te : TE) : TS := fun D σ H => te σ H fun y H1 => to σ H1 fun x H2 => ∃ a C : Addr, x = .ref a ∧ ExM K C ∧ PySem.W.findIn K (.ref C) f = some none ∧
  ((H2 a = some (exo a C none) ∧ ∀ dx, H2 dx = none → dx ≠ a → D.nx σ (upd (upd H2 dx (exd dx [(f, y)])) a (exo a C (some dx)))) ∨
    ∃ (dx : Addr) (fs : List (Str × V)), H2 a = some (exo a C (some dx)) ∧ H2 dx = some (exd dx fs) ∧ fs.length ≤ 900 ∧ D.nx σ (upd H2 dx (exd dx ((f, y) :: fs))))
theorem ps_xst {X : Cx} {o e : Expr} {to te : TE} {f : Str} {p' pos : Pos} (ho : PE X o to) (he : PE X e te) (hs : swapsWith e (some (.Attribute o f p')) pos.line X.env = pure false := by rfl) : PS X (.Assign [.Attribute o f p'] e pos) (tXst X.K f to te) := by
  refine ⟨fun pins s σ H D I h => ?_⟩
  refine plainObj_wpAny_Assign_Attribute (thn (he.run pins s σ H _ I h) fun v s1 ⟨y, H1, I1, r1, q1⟩ => thn (ho.run pins s1 σ H1 _ I1 q1) fun u s2 ⟨x, H2, I2, r2, a, C, ex, T, hno, q⟩ => ?_) hs
  subst ex
  obtain rfl : u = Value.ref a := r2
  rcases q with ⟨ea, q⟩ | ⟨dx, fs, ea, ed, hl, q⟩
  · exact xst_new T I2 ea hno r1 fun dx s' n ne J => ⟨σ, _, J, q dx n ne⟩
  · exact xst_old T I2 ea ed hl hno r1 fun s' J => ⟨σ, _, J, q⟩
/-- C(e, ..), C's own __init__ keeping sp -/
theorem pmk_x {X : Cx} {e : Expr} {es : List Expr} {ta : TA} {p pos : Pos} {CX : CXT} {x : Str} {C fI : Addr} {k : Nat} {fd : FuncData} {ps : List Str} {sp : Sp} (T : ExM X.K C) (iC : PySem.W.findIn X.K (.ref C) "__init__" = some (some (.ref fI))) (tI : PySem.W.typeIn X.K (.ref fI) = some (.type "function"))
    (F1 : FnOk X.prog X.w X.K X.mg X.base CX k fI fd ps sp) (hr : Room (k + 1) X.A) (hb : Binds X.K fd ps []) (hx : Passes CX X (fun _ _ _ => False)) (hg : Gl X x) (hm : X.mg x = some (.ref C)) (ha : PA X (e :: es) ta)
    (hdb : (x == ("__debug__" : Str)) = false := by decide) (he : starEach (e :: es) X.env = (false, eval e X.env) :: starEach es X.env := by rfl) (hpl : (backTo pos (starEach es X.env)).any (·.1) = false := by rfl) :
    PMk X (.Call (.Name x p) (e :: es) [] pos) (tMkO C sp [] ta) := by
  intro pins s σ H Q I h
  obtain ⟨nm, q, N, bs, bm, sn, sub, ab, col, dd, k0, k1, k2, k3, k5, hC, hbm⟩ := T.cls
  refine wpAny_Call_Name_kw (ld_glob I hg hm ?_ hdb)
  refine PySem.W.callWith_K (h₀ := X.base) I.ok.mod.kin T.kC (thn (ha.run pos pins s σ H _ I h) fun us s1 ⟨vs, H1, I1, r1, hz, q1⟩ => ⟨I1.kIn, ?_⟩) he hpl
  show wpAny _ _ (call (.ref C) us) _ _ _
  obtain ⟨hp, g, dr, tk, os⟩ := s1
  have hsz : hp.objs.size ≤ hp.objs.size + 1 := Nat.le_succ _
  have hn : H1 (hp.objs.size + 1) = none := I1.hok.fresh hsz
  have hq := q1 (hp.objs.size + 1) hn
  have kk : ∀ b o, hp.get? b = some o → ((hp.push (PySem.W.kdv_tup us)).push (PySem.HandSPX.excO C hp.objs.size)).get? b = some o := fun b o e => Heap.get?_push_of_some _ (Heap.get?_push_of_some _ e)
  have hget : ((hp.push (PySem.W.kdv_tup us)).push (PySem.HandSPX.excO C hp.objs.size)).get? (hp.objs.size + 1) = some (PySem.HandSPX.excO C hp.objs.size) := by heap_get
  have I2 : Inv X pins σ (upd H1 (hp.objs.size + 1) (exo (hp.objs.size + 1) C none)) ⟨(hp.push (PySem.W.kdv_tup us)).push (PySem.HandSPX.excO C hp.objs.size), g, dr, tk, os⟩ :=
    I1.laid (t' := tk) (a := hp.objs.size + 1) (o := exo (hp.objs.size + 1) C none) (h' := (hp.push (PySem.W.kdv_tup us)).push (PySem.HandSPX.excO C hp.objs.size)) kk hsz (exo_ok hget)
  have r2 : Vals (V.ref (hp.objs.size + 1) :: (vs ++ [])) (Value.ref (hp.objs.size + 1) :: (us ++ [])) := .cons rfl (r1.append .nil)
  have hl : (Value.ref (hp.objs.size + 1) :: us ++ []).length = ps.length := by
    have e := r2.length
    rw [F1.len _ _ _ _ hq] at e
    exact e.symm
  have hus : us.length ≤ sizeLine := by
    rw [← Paired.length r1, sizeLine_eq]
    omega
  have hbb := hb _ (Value.ref (hp.objs.size + 1) :: us) I2.kIn hl
  rw [List.cons_append] at hbb
  refine wpAny_call (PySem.HandSPX.call_own F.excBase_Exception (fun Y => refsE_has Y bm hbm) (I1.kIn _ _ hC) (PySem.W.looks_findIn I1.kIn iC) (fun self => PySem.W.bind_fn I1.kIn self tI) hus
    (codeAny_mono (F1.run _ X.stack _ _ ⟨Value.ref (hp.objs.size + 1) :: us, []⟩ (Value.ref (hp.objs.size + 1) :: (us ++ [])) _ _ (fun _ _ _ => False) (hr.make C us []) (I2.env0.make C us []) hbb r2 hq) fun r s' hq' => ?_))
  cases r with
  | error er => exact hx pins σ _ _ er s' I2 hq'
  | ok fl =>
    cases fl with
    | ret u =>
      obtain ⟨v, H2, os2, bare2, un2, hok2, rv, ev, d, fs, ea, ed, hd1, q2⟩ := hq'
      subst ev
      obtain ⟨h2, g2, d2, t2, os'⟩ := s'
      exact ⟨rv, mk_end (raises_own T.exC T.tyC) I1 hsz kk un2 hok2 os2 bare2 ea ed hd1 q2⟩
    | next => exact False.elim hq'
    | brk => exact False.elim hq'
    | cont => exact False.elim hq'
/-! ### __init__ -/
/-- def __init__(self, y): self.f = y -/
def spX1 (f : Str) (K : PySem.W.Frag) : Sp := fun vs H Q _ => ∃ (a C : Addr) (y : V), vs = [.ref a, y] ∧ ExM K C ∧ PySem.W.findIn K (.ref C) f = some none ∧ H a = some (exo a C none) ∧
  ∀ dx, H dx = none → dx ≠ a → Q .non (upd (upd H dx (exd dx [(f, y)])) a (exo a C (some dx)))
/-- def __init__(self, y, z): self.f = y; self.g = z -/
def spX2 (f g : Str) (K : PySem.W.Frag) : Sp := fun vs H Q _ => ∃ (a C : Addr) (y z : V), vs = [.ref a, y, z] ∧ ExM K C ∧ PySem.W.findIn K (.ref C) f = some none ∧ PySem.W.findIn K (.ref C) g = some none ∧ H a = some (exo a C none) ∧
  ∀ dx, H dx = none → dx ≠ a → Q .non (upd (upd (upd H dx (exd dx [(f, y)])) a (exo a C (some dx))) dx (exd dx [(g, z), (f, y)]))
theorem x1_len {f : Str} {K : PySem.W.Frag} (vs : List V) (H : Hp) (Q : VK) (E : XK) (h : spX1 f K vs H Q E) : vs.length = 2 := by
  obtain ⟨a, C, y, rfl, _⟩ := h; rfl
theorem x1_rd {f : Str} {K : PySem.W.Frag} {vs : List V} {H : Hp} {Q : VK} {E : XK} {N : List Str} (hn : N.length = 2) (h : spX1 f K vs H Q E) :
    tXst K f (tVar 0) (tVar 1) { nx := fun _ H' => Q .non H', rt := Q } (L2.start N vs) H := by
  obtain ⟨a, C, y, rfl, T, no, e, q⟩ := h
  match N, hn with
  | [_, _], _ => exact ⟨y, rfl, .ref a, rfl, a, C, rfl, T, no, .inl ⟨e, fun dx n ne => q dx n ne⟩⟩
/-! ### raise -/
/-- a class of exceptions with its __init__ -/
def XCls (P : Program) (w : World) (K : PySem.W.Frag) (mg : Str → Option Value) (x : Str) (ps fs : List Str) (sp : PySem.W.Frag → Sp) : Prop :=
  ∃ (C fI : Addr) (fd : FuncData), mg x = some (.ref C) ∧ ExM K C ∧ PySem.W.findIn K (.ref C) "__init__" = some (some (.ref fI)) ∧ PySem.W.typeIn K (.ref fI) = some (.type "function") ∧ Binds K fd ps [] ∧
    (∀ base : Heap, FnOk P w K mg base CX0 1 fI fd ps (sp K)) ∧ ∀ f ∈ fs, PySem.W.findIn K (.ref C) f = some none
def sRaise (x : Str) (fs : List Str) (as : SA) : SS := fun ds h => sBd (as ds h) ds fun vs h1 => if vs.length = fs.length then .ex x fs vs.reverse ds h1 else .bad
section
variable {X : Cx} {W : WX} {e e2 : Expr} {as : SA} {x f g y z : Str} {p pos pos2 : Pos}
theorem del_x1 {H1 : Hp} {a dx : Addr} {o : HO} (ha : H1 a = none) (ne : dx ≠ a) (u1 u2 u4 : HO) :
    upd (del (upd (upd (upd H1 a u1) dx u2) a u4) a) dx o = upd H1 dx o := by
  funext b
  by_cases hb : b = dx
  · rw [hb, upd_same, upd_same]
  · rw [upd_ne hb, upd_ne hb]
    by_cases hb2 : b = a
    · rw [hb2, del_same, ha]
    · rw [del_ne hb2, upd_ne hb2, upd_ne hb, upd_ne hb2]
theorem ds_raise1 (hc : X.calm = true) (tk : Takes X W) (T : XCls X.prog X.w X.K X.mg x ["self", y] [f] (spX1 f)) (hr : Room 2 X.A) (hg : Gl X x) (ha : DA X W [e] as)
    (hdb : (x == ("__debug__" : Str)) = false := by decide) (he : starEach [e] X.env = [(false, eval e X.env)] := by rfl) :
    DS X W (.Raise (some (.Call (.Name x p) [e] [] pos)) none pos2) (sRaise x [f] as) := by
  obtain ⟨C, fI, fd, gC, E, iC, tI, b, F, no⟩ := T
  refine ds_of (ps_raise hc tk (pmk_x E iC tI (F X.base) hr b pass0 hg gC ha hdb he rfl)) fun D σ H ⟨ω, h, ds, e1, r, s, pp⟩ => ?_
  subst e1
  refine ⟨ω, h, ds, rfl, r, s, PostO.bd r s pp fun xs h1 vs ω1 ex r1 rl s1 p1 => ?_⟩
  obtain ⟨hl, p1⟩ := p1.if_
  match xs, hl with
  | [d], _ =>
    obtain ⟨v, ws, rfl, rv, rn⟩ := rl.inv
    rw [rn.inv0]
    refine ⟨by simp, fun a ha => ⟨a, C, v, rfl, E, no f (by simp), upd_same, fun dx n ne => ?_⟩⟩
    have nd : ω1.H dx = none := by rw [upd_ne ne] at n; exact n
    refine ⟨rfl, dx, [(f, v)], upd_same, ?_, nd, ?_⟩
    · rw [upd_ne ne, upd_same]
    · rw [del_x1 ha ne]
      refine p1 (.ref C) (some dx) σ (ω1.up dx (.xd [(f, v)])) (Ext.up nd) (r1.up nd) (monoS r1 (Ext.up nd) s1) ⟨C, dx, [v], rfl, rfl, gC, upd_same, rfl, monoL r1 (Ext.up nd) _ _ (RelL.cons rv RelL.nil)⟩
end
end Mp
/-! LayY: what a call told: a lambda handed to a def that calls it in a try. -/
namespace Mp
open PySem PySem.Spec PyProof.Rows L2
/-! ### several clauses, each with the name n in slot i -/
abbrev Clauses := List (Value × (Addr → Value → Option Addr → TS))
def wAsM (K : PySem.W.Frag) (i : Nat) (D : Ends) : Clauses → WX
  | [] => fun _ _ _ _ => False
  | (c, ts) :: r => fun cls d σ H => ∃ b, PySem.W.exmOne K cls c = some b ∧
      (b = true → i < σ.length → ∀ a, H a = none → ts a cls d { nx := fun σ' H' => D.nx (σ'.set i none) H', rt := D.rt, bk := fun σ' H' => D.bk (σ'.set i none) H', ct := fun σ' H' => D.ct (σ'.set i none) H' } (σ.set i (some (.ref a))) H) ∧
      (b = false → wAsM K i D r cls d σ H)
inductive HdsAs (X : Cx) (n : Str) : List ExceptHandler → Clauses → Prop
  | nil : HdsAs X n [] []
  | cons {x : Str} {c : Value} {ts : Addr → Value → Option Addr → TS} {b₀ : Stmt} {suite : List Stmt} {np pos' : Pos} {hds : List ExceptHandler} {l : Clauses} (hc : Names X x c)
      (hsu : ∀ (a : Addr) (oe : Obj) (cls : Value) (d : Option Addr) (pn : List (Addr × Obj)), Zc cls d oe → (∃ vs, oe.data = .fields vs) → PSs (X.suite a ((a, oe) :: pn)) (b₀ :: suite) (ts a cls d)) (r : HdsAs X n hds l) :
      HdsAs X n (.ExceptHandler (some (.Name x np)) (some n) (b₀ :: suite) pos' :: hds) ((c, ts) :: l)
section
variable {X : Cx} {n : Str} {i : Nat} {body : List Stmt} {h₀ : ExceptHandler} {hds : List ExceptHandler} {l : Clauses} {pos : Pos} {tb : WX → TS}
theorem ps_try_asM (hs : X.stack = X.env :: X.outer) (hf : X.env.frame = some X.env.locals) (hN : X.N.Nodup) (hi : X.N[i]? = some n) (hln : X.env.kindOf n = some .local)
    (hb : ∀ (W : WX) (pn : List (Addr × Obj)) (xe : Value → Shared → Prop), Takes (X.tr pn xe) W → PassesOwn (model X.prog X.w) X.A X.env xe → PSs (X.tr pn xe) body (tb W))
    (hh : HdsAs X n (h₀ :: hds) l) : PS X (.Try body (h₀ :: hds) [] [] pos) (fun D σ H => tb (wAsM X.K i D l) D σ H) := by
  refine ⟨fun pins s σ H D I h => ?_⟩
  have ok := I.ok
  have hfr : X.A.frames = some (X.env :: X.outer) := by rw [ok.frames, hs]
  have hloc : Loc X.env.scope n := .inl hln
  refine wpAny_Try_except ?_
  refine wpAny_mono ((hb (wAsM X.K i D l) (X.pn ++ pins) (fun e s₁ => wpAny (model X.prog X.w) X.A (noteFrame e X.env) (fun _ s₂ => wpAny (model X.prog X.w) X.A (setFlight e none) (fun _ s₃ =>
    wpAny (model X.prog X.w) X.A (handleBy e X.env (h₀ :: hds)) (SP X pins D) X.xe s₃) X.xe s₂) X.xe s₁) (fun u s' xx => ?_) PassesOwn.looking).run [] s σ H D (I.toTry _) h) (fun f s1 hsp => ?_) (fun e s1 he => he)
  · obtain ⟨a, B, sI, pins', σ', H', cls, d, rfl, J', nb, up, sky, na, os, ag, w⟩ := xx
    have J : Inv X pins σ' H' sI := J'.ofTry ok
    have sky' : Sky B (X.env :: X.outer) a (Zc cls d) X.env.locals s'.heap := by rw [← hs]; exact sky
    show wpAny (model X.prog X.w) X.A (noteFrame (.ref a) X.env) _ _ _
    refine Sky.land Zc.steady hfr hf sky' fun h3 fl3 up3 => ?_
    have J3 : Inv X pins σ' H' { s' with heap := h3 } := J.landed nb fl3.1 (up.trans up3) os ag
    obtain ⟨oe3, vs3, he3, hz3, hd3⟩ := fl3.there
    have notFr : ∀ {h : Heap} {o : Obj} {vs : Array Value}, h.FunFrames B (X.env :: X.outer) → h.get? a = some o → o.data = .fields vs → a ∉ frs (X.env :: X.outer) := fun {h o vs} ff e dd hm => by
      obtain ⟨_, o', e', hnf⟩ := ff.mem hm
      rw [e] at e'; cases e'
      exact hnf _ dd
    have nfr := notFr fl3.2.2.1 he3 hd3
    have nL : a ≠ X.env.locals := fun z => nfr (List.mem_filterMap.mpr ⟨X.env, List.mem_cons_self, by rw [hf, z]⟩)
    have nF : a ∉ X.fs := fun hm => by
      obtain ⟨e, he, q⟩ := List.mem_filterMap.mp hm
      exact nfr (List.mem_filterMap.mpr ⟨e, List.mem_cons_of_mem _ he, q⟩)
    have S3 := J3.suite he3 hd3 na nL nF
    have go : ∀ {hds' : List ExceptHandler} {l' : Clauses}, HdsAs X n hds' l' → wAsM X.K i D l' cls d σ' H' →
        wpAny (model X.prog X.w) X.A (handleBy (.ref a) X.env hds') (SP X pins D) X.xe { s' with heap := h3 } := by
      intro hds' l' hk
      induction hk with
      | nil => intro w; exact False.elim w
      | @cons x c ts b₀ suite np pos' hds2 l2 hc hsu r ih =>
        intro w
        obtain ⟨b, hb1, hyes, hno⟩ := w
        refine wpAny_handleBy_cons (codeAny_handlers_test ?_) (by intro q; cases q)
        have LT : PySem.W.Looks (model X.prog X.w) h3 (typeOf (.ref a)) cls := fun A Q E s k q => wpAny_typeOf_ref (k _ _ he3) (by rw [hz3.1]; exact q)
        have LM := PySem.W.exm_one (M := model X.prog X.w) (J3.kIn) LT hb1
        have test : ∀ {Q : Value → Shared → Prop} {E : Value → Shared → Prop}, Q c { s' with heap := h3 } → wpAny (model X.prog X.w) (X.A.mark (some (.ref a))) (eval (.Name x np) X.env) Q E { s' with heap := h3 } := fun {Q E} q => by
          obtain ⟨hg, hdbg, hm | ⟨hm, hv, hnn⟩⟩ := hc
          · exact ld_glob (X := X.suite a ((a, oe3) :: (X.pn ++ pins))) S3 hg hm q hdbg
          · exact ld_blt (X := X.suite a ((a, oe3) :: (X.pn ++ pins))) S3 hg hm hv q hnn hdbg
        refine test (LM.here ?_)
        cases b with
        | true =>
          refine codeAny_handlers_suite_as ?_
          refine HandSPX.lands_againZ fl3 fun h4 fl4 up4 => ?_
          have J4 : Inv X pins σ' H' { s' with heap := h4 } := J.landed nb fl4.1 ((up.trans up3).trans up4) os ag
          obtain ⟨oe4, vs4, he4, hz4, hd4⟩ := fl4.there
          have S4 := J4.suite he4 hd4 na nL nF
          refine store_ok (X := X.suite a ((a, oe4) :: (X.pn ++ pins))) (v := .ref a) S4 hN hi hloc rfl (fun s5 S5 => ?_) (.inr hln)
          refine wpAny_mono ((hsu a oe4 cls d (X.pn ++ pins) hz4 ⟨_, hd4⟩).run [] s5 _ H' _ S5 (hyes rfl (by rw [J.len]; exact (List.getElem?_eq_some_iff.mp hi).1) a na)) (fun f s6 hsp => ?_) (fun _ _ z => False.elim z)
          have end_ : ∀ {σ6 : L2.St} {H6 : Hp} {Q : Shared → Prop}, Inv (X.suite a ((a, oe4) :: (X.pn ++ pins))) [] σ6 H6 s6 → (∀ s7, Inv X pins (σ6.set i none) H6 s7 → Q s7) →
              wpAny (model X.prog X.w) X.A (do bindName X.env n .none; unbindBehindTheSuite X.env n pos') (fun _ s7 => Q s7) X.xe s6 := fun {σ6 H6 Q} S6 hq => gone_ok (S6.unsuite ok) hN hi hln hq
          cases f with
          | next =>
            obtain ⟨σ6, H6, S6, q6⟩ := hsp
            exact end_ S6 fun s7 J7 => ⟨_, _, J7, q6⟩
          | brk =>
            obtain ⟨σ6, H6, S6, q6⟩ := hsp
            exact end_ S6 fun s7 J7 => ⟨_, _, J7, q6⟩
          | cont =>
            obtain ⟨σ6, H6, S6, q6⟩ := hsp
            exact end_ S6 fun s7 J7 => ⟨_, _, J7, q6⟩
          | ret u =>
            obtain ⟨v6, σ6, H6, S6, r6, q6⟩ := hsp
            exact end_ S6 fun s7 J7 => ⟨_, _, _, J7, r6, q6⟩
        | false =>
          show wpAny _ X.A (handleBy (.ref a) X.env hds2) _ _ _
          exact ih (hno rfl)
    exact go hh w
  · cases f with
    | next =>
      obtain ⟨σ', H', J', q⟩ := hsp
      exact wpAny_execs_nil ⟨σ', H', J'.ofTry ok, q⟩
    | brk =>
      obtain ⟨σ', H', J', q⟩ := hsp
      exact ⟨σ', H', J'.ofTry ok, q⟩
    | cont =>
      obtain ⟨σ', H', J', q⟩ := hsp
      exact ⟨σ', H', J'.ofTry ok, q⟩
    | ret u =>
      obtain ⟨v, σ', H', J', r, q⟩ := hsp
      exact ⟨v, σ', H', J'.ofTry ok, r, q⟩
end
/-! ### told: try: return ("value", deed()) / except C as why: return ("C", why.f, ..) -/
/-- one clause: the class, what it is called, its fields in the order in which they are told -/
abbrev TTab := List (Addr × Str × List Str)
/-- what the clauses make of an exception -/
def wTold (K : PySem.W.Frag) (Q : VK) : TTab → Value → Option Addr → Hp → Prop
  | [], _, _, _ => False
  | (C, x, fs) :: r, cls, d, H => ∃ b, PySem.W.exmOne K cls (.ref C) = some b ∧
      (b = true → cls = .ref C ∧ ∃ (dd : Addr) (l : List (Str × V)) (vs : List V), d = some dd ∧ H dd = some (.xd l) ∧ (fs.map fun f => l.lookup f) = vs.map some ∧ vs.length ≤ 100 ∧ ∀ (t : Addr) (o : Obj), H t = none → o.dict = none → Q (.ref t) (upd H t (tuO o (.str x :: vs)))) ∧
      (b = false → wTold K Q r cls d H)
def TTold (K : PySem.W.Frag) (tab : TTab) : (XK → Hp → VK → Prop) → Hp → VK → Prop := fun tl H Q =>
  tl (fun cls d H' => wTold K Q tab cls d H') H (fun v H' => ([.str "value", v] : List V).length ≤ sizeLine ∧ ∀ (t : Addr) (o : Obj), H' t = none → o.dict = none → Q (.ref t) (upd H' t (tuO o [.str "value", v])))
/-- what the top says of a class that is caught -/
structure XRd (K : PySem.W.Frag) (mg : Str → Option Value) (x : Str) (C : Addr) (fs : List Str) : Prop where
  g : mg x = some (.ref C)
  t : XfC K C
  no : ∀ f ∈ fs, PySem.W.findIn K (.ref C) f = some none
/-- the clauses of such a def, n the name in them -/
inductive ToldHs (K : PySem.W.Frag) (mg : Str → Option Value) (sg : Scope) (n : Str) : List ExceptHandler → TTab → Prop
  | nil : ToldHs K mg sg n [] []
  | one {x f : Str} {C : Addr} {hds : List ExceptHandler} {l : TTab} {j k : Nat} {p1 p2 p3 p4 p5 p6 p7 : Pos} (h : XRd K mg x C [f]) (hg : sg.names.lookup x = some .globalImplicit) (hd : (x == ("__debug__" : Str)) = false) (r : ToldHs K mg sg n hds l) :
      ToldHs K mg sg n (.ExceptHandler (some (.Name x p1)) (some n) [.Return (some (.Tuple [.Constant (.str x) j p2, .Attribute (.Name n p3) f p4] k p5)) p6] p7 :: hds) ((C, x, [f]) :: l)
  | two {x f f2 : Str} {C : Addr} {hds : List ExceptHandler} {l : TTab} {j k : Nat} {p1 p2 p3 p4 p5 p6 p7 p8 p9 : Pos} (h : XRd K mg x C [f, f2]) (hg : sg.names.lookup x = some .globalImplicit) (hd : (x == ("__debug__" : Str)) = false) (r : ToldHs K mg sg n hds l) :
      ToldHs K mg sg n (.ExceptHandler (some (.Name x p1)) (some n) [.Return (some (.Tuple [.Constant (.str x) j p2, .Attribute (.Name n p3) f p4, .Attribute (.Name n p8) f2 p9] k p5)) p6] p7 :: hds) ((C, x, [f, f2]) :: l)
/-- the suites' readings -/
def tSuite1 (i : Nat) (C : Addr) (y f : Str) : Addr → Value → Option Addr → TS := fun a cls d => tRet (tTupF (tCons (tC (.str y)) (tCons (tXf a cls d C f (tVar i)) tNil)))
def tSuite2 (i : Nat) (C : Addr) (y f f2 : Str) : Addr → Value → Option Addr → TS := fun a cls d => tRet (tTupF (tCons (tC (.str y)) (tCons (tXf a cls d C f (tVar i)) (tCons (tXf a cls d C f2 (tVar i)) tNil))))
def clausesOf (i : Nat) : TTab → Clauses
  | [] => []
  | (C, y, [f]) :: r => (.ref C, tSuite1 i C y f) :: clausesOf i r
  | (C, y, [f, f2]) :: r => (.ref C, tSuite2 i C y f f2) :: clausesOf i r
  | _ :: r => clausesOf i r
theorem tabOk {K : PySem.W.Frag} {mg : Str → Option Value} {sg : Scope} {n : Str} {X : Cx} {i : Nat} (hK : X.K = K) (hmg : X.mg = mg) (hsg : X.env.scope = sg) (hgl : X.env.scope.kind = .function) (hi : X.N[i]? = some n) (hv : Vis sg n) (hdn : (n == ("__debug__" : Str)) = false) (hcn : (n == ("__classdict__" : Str)) = false) :
    ∀ {hds : List ExceptHandler} {tab : TTab}, ToldHs K mg sg n hds tab → HdsAs X n hds (clausesOf i tab) := by
  subst hK hmg hsg
  intro hds tab hh
  have pv' : ∀ (a : Addr) (oe : Obj) (pn : List (Addr × Obj)) (p : Pos), PE (X.suite a ((a, oe) :: pn)) (.Name n p) (tVar i) := fun a oe pn p => pe_var hi hv hdn hcn
  induction hh with
  | nil => exact .nil
  | @one x f C hds l j k p1 p2 p3 p4 p5 p6 p7 h hg hd r ih =>
    refine .cons ⟨hg, hd, .inl h.g⟩ (fun a oe cls d pn hz hf => ?_) ih
    exact pss_one (ps_ret (pe_tupF (pa_cons pe_str (pa_cons (pe_xf h.t (h.no f (by simp)) hz hf (pv' a oe pn _)) pa_nil))))
  | @two x f f2 C hds l j k p1 p2 p3 p4 p5 p6 p7 p8 p9 h hg hd r ih =>
    refine .cons ⟨hg, hd, .inl h.g⟩ (fun a oe cls d pn hz hf => ?_) ih
    exact pss_one (ps_ret (pe_tupF (pa_cons pe_str (pa_cons (pe_xf h.t (h.no f (by simp)) hz hf (pv' a oe pn _)) (pa_cons (pe_xf h.t (h.no f2 (by simp)) hz hf (pv' a oe pn _)) pa_nil)))))
/-- one or two fields -/
def tabWf : TTab → Prop
  | [] => True
  | (_, _, fs) :: r => (fs.length = 1 ∨ fs.length = 2) ∧ tabWf r
theorem map1 {α β : Type} {f : α → β} {x : β} : ∀ {l : List α}, [x] = l.map f → ∃ a, l = [a] ∧ x = f a
  | [], h => by simp at h
  | [a], h => ⟨a, rfl, by simpa using h⟩
  | _ :: _ :: _, h => by simp at h
theorem map2 {α β : Type} {f : α → β} {x y : β} : ∀ {l : List α}, [x, y] = l.map f → ∃ a b, l = [a, b] ∧ x = f a ∧ y = f b
  | [], h => by simp at h
  | [a], h => by simp at h
  | [a, b], h => ⟨a, b, rfl, by simpa using h⟩
  | _ :: _ :: _ :: _, h => by simp at h
theorem told_w {K : PySem.W.Frag} {Q : VK} {D : Ends} {i : Nat} {cls : Value} {d : Option Addr} {σ : L2.St} {H : Hp} (hQ : D.rt = Q) : ∀ (tab : TTab), tabWf tab → wTold K Q tab cls d H → wAsM K i D (clausesOf i tab) cls d σ H
  | [], _, h => h
  | (C, y, fs) :: r, hw, h => by
    obtain ⟨b, e1, e2, e3⟩ := h
    have get : i < σ.length → ∀ a : Addr, (σ.set i (some (V.ref a)))[i]? = some (some (V.ref a)) := fun hi a => by rw [List.getElem?_set_self hi]
    match fs, hw with
    | [f], hw =>
      refine ⟨b, e1, fun hb hi a ha => ?_, fun hb => told_w hQ r hw.2 (e3 hb)⟩
      obtain ⟨ec, dd, l, vs, ed, eh, em, hl, q⟩ := e2 hb
      obtain ⟨v, rfl, ev⟩ := map1 em
      refine ⟨.ref a, get hi a, rfl, ec, dd, l, v, ed, eh, ev, ?_, fun t o ht hd => ?_⟩
      · rw [sizeLine_eq]; show 2 ≤ 16777216; decide
      · show D.rt _ _
        rw [hQ]; exact q t o ht hd
    | [f, f2], hw =>
      refine ⟨b, e1, fun hb hi a ha => ?_, fun hb => told_w hQ r hw.2 (e3 hb)⟩
      obtain ⟨ec, dd, l, vs, ed, eh, em, hl, q⟩ := e2 hb
      obtain ⟨v, v2, rfl, ev, ev2⟩ := map2 em
      refine ⟨.ref a, get hi a, rfl, ec, dd, l, v, ed, eh, ev, .ref a, get hi a, rfl, ec, dd, l, v2, ed, eh, ev2, ?_, fun t o ht hd => ?_⟩
      · rw [sizeLine_eq]; show 3 ≤ 16777216; decide
      · show D.rt _ _
        rw [hQ]; exact q t o ht hd
    | [], hw => exact absurd hw.1 (by simp)
    | _ :: _ :: _ :: _, hw => exact absurd hw.1 (by simp)
theorem told_gives {X : Cx} {x a n q : Str} {sg : Scope} {g : Addr} {cdg : Value} {j k : Nat} {p1 p2 p3 p4 p5 p6 : Pos} {h₀ : ExceptHandler} {hds : List ExceptHandler} {tab : TTab}
    (ha : ToldHs X.K X.mg sg n (h₀ :: hds) tab) (hw : tabWf tab) (hk : sg.kind = .function) (hv : Vis sg n) (hln : sg.names.lookup n = some .local) (hne : a ≠ n) (hdn : (n == ("__debug__" : Str)) = false) (hcn : (n == ("__classdict__" : Str)) = false) :
    LamX.GivesTo X [a, n] x sg g cdg [.Try [.Return (some (.Tuple [.Constant (.str "value") j p1, .Call (.Name a p2) [] [] p3] k p4)) p5] (h₀ :: hds) [] [] p6] a q (TTold X.K tab) := by
  intro f c' s H Q tl act hc h
  refine ⟨_, pss_one (ps_try_asM (X := (cxOf C8.CX0 X.prog X.w X.K X.mg X.base [a, n] x sg g cdg X.A X.stack s H C8.E0).nox) (i := 1) (l := clausesOf 1 tab)
      (tb := fun W D σ H => ∃ Ech : XK, (∀ cls d σ' H', Ech cls d H' → W cls d σ' H') ∧ σ[0]? = some (some (.ref f)) ∧ H c' = some (LamX.CodeO c' q) ∧ tl Ech H (fun v H' => ([.str "value", v] : List V).length ≤ sizeLine ∧ ∀ (t : Addr) (o : Obj), H' t = none → o.dict = none → D.rt (.ref t) (upd H' t (tuO o [.str "value", v]))))
      rfl rfl (show ([a, n] : List Str).Nodup by simp [hne]) rfl hln (fun W pn xe tk _ => ?_) (tabOk rfl rfl rfl hk rfl hv hdn hcn ha)), ?_⟩
  · refine ⟨fun pins s' σ H' D I h' => ?_⟩
    obtain ⟨Ech, hW, h1, h2, h3⟩ := h'
    have hp := act W pn xe Ech p2 p3 tk hW
    have hq := pss_one (ps_ret (pos := p5) (pe_tupF (pos := p4) (x1 := k) (pa_cons (pe_str (x := "value") (j := j) (pos := p1)) (pa_cons hp pa_nil))))
    exact hq.run pins s' σ H' D I ⟨h1, h2, h3⟩
  · refine ⟨fun cls d H' => wTold X.K Q tab cls d H', fun cls d σ' H' w => told_w (σ := σ') rfl tab hw w, rfl, hc, h⟩
/-! ### as data -/
def toldTab : List (Str × List Str) := [("BadValue", ["at"]), ("BadText", ["at"]), ("Unknown", ["name"]), ("NoChance", ["word"]), ("Crowded", ["first", "last"]), ("NoDay", ["name"]), ("Missing", ["at"]), ("TakenName", ["name"]), ("Short", ["rows"])]
def toldOk (x : Str) (fs : List Str) (n : Nat) : Bool := (toldTab.any fun p => decide (p.1 = x) && decide (p.2 = fs.reverse)) && (decide fs.Nodup && decide (n = fs.length))
def eTold (m : SE) : SE := fun ds h => match m ds h with
  | .ok v h' => .ok (.tup [.str "value", v]) h'
  | .ex x fs vs h' => if toldOk x fs vs.length = true then .ok (.tup (.str x :: vs.reverse)) h' else .bad
  | .bad => .bad
def exmAll (K : PySem.W.Frag) : TTab → Bool
  | [] => true
  | (C, _, _) :: r => decide (PySem.W.exmOne K (.ref C) (.ref C) = some true) && (r.all (fun p => decide (PySem.W.exmOne K (.ref p.1) (.ref C) = some false)) && exmAll K r)
theorem told_hit {K : PySem.W.Frag} {Q : VK} {C dd : Addr} {x : Str} {fs : List Str} {l : List (Str × V)} {vs : List V} {H : Hp} (hd : H dd = some (.xd l)) (hm : (fs.map fun f => l.lookup f) = vs.map some) (hl : vs.length ≤ 100) (q : ∀ (t : Addr) (o : Obj), H t = none → o.dict = none → Q (.ref t) (upd H t (tuO o (.str x :: vs)))) :
    ∀ tab : TTab, exmAll K tab = true → (C, x, fs) ∈ tab → wTold K Q tab (.ref C) (some dd) H
  | [], _, h => by simp at h
  | (C0, x0, fs0) :: r, he, h => by
    unfold exmAll at he
    simp only [Bool.and_eq_true, decide_eq_true_eq, List.all_eq_true] at he
    rcases List.mem_cons.mp h with h | h
    · cases h
      exact ⟨true, he.1, fun _ => ⟨rfl, dd, l, vs, rfl, hd, hm, hl, q⟩, (fun z => by cases z)⟩
    · exact ⟨false, he.2.1 _ h, (fun z => by cases z), fun _ => told_hit hd hm hl q r he.2.2 h⟩
theorem lookup_zip : ∀ {fs : List Str} {vs : List V}, fs.Nodup → fs.length = vs.length → (fs.map fun f => (fs.zip vs).lookup f) = vs.map some
  | [], [], _, _ => rfl
  | [], _ :: _, _, h => by simp at h
  | _ :: _, [], _, h => by simp at h
  | f :: fs, v :: vs, hn, hl => by
    obtain ⟨h1, h2⟩ := List.nodup_cons.mp hn
    have ih := lookup_zip (fs := fs) (vs := vs) h2 (by simpa using hl)
    simp only [List.map_cons, List.zip_cons_cons, List.lookup_cons_self, List.cons.injEq, true_and]
    rw [← ih]
    refine List.map_congr_left fun g hg => ?_
    rw [lookup_put]
    exact if_neg fun (e : g = f) => h1 (by rw [← e]; exact hg)
/-- the def of the text that calls what it got -/
structure TellTxt (K : PySem.W.Frag) (mg : Str → Option Value) (st : Stmt) : Prop where
  D : DefAt K mg "_law_told" "_law_told" st ["deed"]
  S : FnScope ["deed", "why"] ["deed"] (defScope st)
  k : (defScope st).kind = .function
  vd : Vis (defScope st) "deed"
  vw : (defScope st).names.lookup ("why" : Str) = some .local
  ex : ∃ (tab : TTab) (j k : Nat) (p1 p2 p3 p4 p5 p6 : Pos) (h₀ : ExceptHandler) (hds : List ExceptHandler),
    defBody st = [.Try [.Return (some (.Tuple [.Constant (.str "value") j p1, .Call (.Name "deed" p2) [] [] p3] k p4)) p5] (h₀ :: hds) [] [] p6] ∧ ToldHs K mg (defScope st) "why" (h₀ :: hds) tab ∧
    tab.map (·.2) = toldTab ∧ exmAll K tab = true
theorem toldHs_g {K : PySem.W.Frag} {mg : Str → Option Value} {sg : Scope} {n : Str} {hds : List ExceptHandler} {tab : TTab} (h : ToldHs K mg sg n hds tab) : tabWf tab := by
  induction h with
  | nil => trivial
  | one h hg hd r ih => exact ⟨.inl rfl, ih⟩
  | two h hg hd r ih => exact ⟨.inr rfl, ih⟩
theorem toldHs_m {K : PySem.W.Frag} {mg : Str → Option Value} {sg : Scope} {n : Str} {hds : List ExceptHandler} {tab : TTab} (h : ToldHs K mg sg n hds tab) : ∀ q ∈ tab, mg q.2.1 = some (.ref q.1) := by
  induction h with
  | nil => intro q hq; simp at hq
  | one h hg hd r ih =>
    intro q hq
    rcases List.mem_cons.mp hq with rfl | hq
    · exact h.g
    · exact ih q hq
  | two h hg hd r ih =>
    intro q hq
    rcases List.mem_cons.mp hq with rfl | hq
    · exact h.g
    · exact ih q hq
/-! ### a lambda is made: nothing that was tracked is lost -/
section
variable {X : Cx} {pins : List (Addr × Obj)} {σ : L2.St} {H : Hp} {s : Shared}
theorem lam_make3 {T : List (Addr × Str)} {c P : Addr} {params : Arguments} {body : Expr} {scope : Scope} {pos : Pos} {E : Value → Shared → Prop} {Q : Value → Shared → Prop} (I : Inv X pins σ H s) (TB : LamX.TabB X.base X.mg c P) (hcode : X.env.code = .ref c)
    (hm : (P, X.env.qual ++ "<lambda>") ∈ T) (hu : ∀ p ∈ T, p.1 = P → p.2 = X.env.qual ++ "<lambda>") (hT : LamX.Tabs T H) (hdef : defaultsOf params X.env = ([], [])) (hfree : ∀ y ∈ scope.names, y.2 = .free → ∃ c, X.env.cells.lookup y.1 = some c)
    (h : ∀ (f c' : Addr) (pm ctv : Value) (H1 : Hp) (s' : Shared), Inv X pins σ H1 s' → LamX.ExtN H H1 → (∀ b, H1 b = none → H b = none) → LamX.Tabs T H1 →
      s'.heap.get? f = some (PySem.W.kla_obj "<lambda>" (X.env.qual ++ "<lambda>") params body scope (cloFrom X.env.cells scope.names []) pm c' ctv) → H1 f = none → f ∉ frs X.stack → H1 c' = some (LamX.CodeO c' (X.env.qual ++ "<lambda>")) → Q (.ref f) s') :
    wpAny (model X.prog X.w) X.A (eval (.Lambda params body scope pos) X.env) Q E s := by
  obtain ⟨ps, hP, ht, ha⟩ := hT _ hm
  refine PySem.W.kla_eval hdef ?_
  have bP : s.heap.BuiltinsAt X.mg P := TB.bm.keeps I.bk
  have hP' : s.heap.get? P = some { cls := .none, data := .fields ps } := I.hok P _ hP
  have nofr : ∀ f, s.heap.objs.size ≤ f → f ∉ frs X.stack := fun f hf z => by
    rcases List.mem_cons.mp (I.stkSub _ z) with e | e
    · have h1 := I.lt
      rw [← e] at h1
      exact Nat.lt_irrefl _ (Nat.lt_of_lt_of_le h1 hf)
    · exact I.nofs hf e
  cases hc : codeAmong pos ps.toList with
  | none =>
    refine PySem.W.kla_makeFunction (mg := X.mg) (c := c) (P := P) (ps := ps) (closure_ok hfree) I.ok.glob (I.mod.glob.keeps I.bk) hcode (TB.code.keeps I.bk) hP' ht hc TB.gP bP fun c' ctv h' tk hx hge hlt hrec htb => ?_
    obtain ⟨c2, oc, vs, t, e2, hoc, hd, hv⟩ := hrec
    cases e2
    have hsz : s.heap.objs.size ≤ h'.objs.size := Nat.le_trans hge (Nat.le_of_lt hlt)
    have nC : H c' = none := I.hok.fresh hge
    have I1 := LamX.inv_table (t' := tk) (more := #[rawInt pos.line, rawInt pos.col, .ref c']) (h' := h'.push (PySem.W.kla_obj "<lambda>" (X.env.qual ++ "<lambda>") params body scope (cloFrom X.env.cells scope.names []) ((X.mg "__name__").getD .none) c' ctv)) I hP
      (fun b o hb e => Heap.get?_push_of_some _ (hx b o hb e)) (Heap.get?_push_of_some _ htb) hge ⟨oc, vs, t, Heap.get?_push_of_some _ hoc, hd, hv⟩
    have hE : LamX.ExtN H (upd (upd H P (.tbl (ps ++ #[rawInt pos.line, rawInt pos.col, .ref c']))) c' (LamX.CodeO c' (X.env.qual ++ "<lambda>"))) := fun b o e n => by
      rw [upd_ne (ne_of_none e nC), upd_ne (fun z => n ps (Option.some.inj (e.symm.trans (by rw [z]; exact hP))))]
      exact e
    have hDom : ∀ b, upd (upd H P (.tbl (ps ++ #[rawInt pos.line, rawInt pos.col, .ref c']))) c' (LamX.CodeO c' (X.env.qual ++ "<lambda>")) b = none → H b = none := fun b z => by
      by_cases h1 : b = c'
      · rw [h1, upd_same] at z; cases z
      · rw [upd_ne h1] at z
        by_cases h2 : b = P
        · rw [h2, upd_same] at z; cases z
        · rw [upd_ne h2] at z; exact z
    have eL : (ps ++ #[rawInt pos.line, rawInt pos.col, .ref c']).toList = ps.toList ++ [rawInt pos.line, rawInt pos.col, .ref c'] := by simp
    refine h h'.objs.size c' ((X.mg "__name__").getD .none) ctv _ _ I1 hE hDom (fun p hp => ?_) (Heap.get?_push_size _ rfl) ?_ (nofr _ hsz) upd_same
    · by_cases hb : p.1 = P
      · rw [hu p hp hb, hb]
        refine ⟨_, by rw [upd_ne (ne_of_none hP nC), upd_same], by rw [eL]; exact PySem.TriplesOk_snoc _ _ _ _ ht, fun p' cv hcv => ?_⟩
        rw [eL] at hcv
        rcases LamX.among_app _ ht hcv with z | z
        · obtain ⟨c0, e1, e2⟩ := ha p' cv z
          exact ⟨c0, e1, hE _ _ e2 LamX.codeO_ne⟩
        · exact ⟨c', z, upd_same⟩
      · obtain ⟨ps', a1, a2, a3⟩ := hT p hp
        refine ⟨ps', by rw [upd_ne (ne_of_none a1 nC), upd_ne hb]; exact a1, a2, fun p' cv hcv => ?_⟩
        obtain ⟨c0, e1, e2⟩ := a3 p' cv hcv
        exact ⟨c0, e1, hE _ _ e2 LamX.codeO_ne⟩
    · have n1 : h'.objs.size ≠ c' := Nat.ne_of_gt hlt
      have n2 : h'.objs.size ≠ P := Nat.ne_of_gt (Nat.lt_of_lt_of_le (Heap.lt_size hP') hsz)
      rw [upd_ne n1, upd_ne n2]
      exact I.hok.fresh hsz
  | some cv =>
    obtain ⟨c', e, hco⟩ := ha pos cv hc
    subst e
    refine PySem.W.kla_makeFunctionHit (mg := X.mg) (c := c) (P := P) (ps := ps) (closure_ok hfree) I.ok.glob (I.mod.glob.keeps I.bk) hcode (TB.code.keeps I.bk) hP' ht hc bP fun ctv h' tk hx hsz => ?_
    have I1 : Inv X pins σ H { s with heap := h'.push (PySem.W.kla_obj "<lambda>" (X.env.qual ++ "<lambda>") params body scope (cloFrom X.env.cells scope.names []) ((X.mg "__name__").getD .none) c' ctv), toks := tk } := I.kept fun b o e => Heap.get?_push_of_some _ (hx b o e)
    exact h h'.objs.size c' ((X.mg "__name__").getD .none) ctv H _ I1 (LamX.ExtN.refl H) (fun _ z => z) hT (Heap.get?_push_size _ rfl) (I.hok.fresh hsz) (nofr _ hsz) hco
def tLam3 (T : List (Addr × Str)) (TT : (XK → Hp → VK → Prop) → Hp → VK → Prop) (t : XK → TE) : TE := fun σ H Q => LamX.Tabs T H ∧ ∀ H1, LamX.ExtN H H1 → (∀ b, H1 b = none → H b = none) → LamX.Tabs T H1 → TT (fun E H' Q' => t E σ H' Q') H1 Q
theorem pe_lamcall3 {T : List (Addr × Str)} {TT : (XK → Hp → VK → Prop) → Hp → VK → Prop} {x a : Str} {g c P : Addr} {k : Nat} {pg : Arguments} {bg : List Stmt} {sg : Scope} {dV kV doc pm cdv ct oc : Value} {an od : Option Addr} {osl : Array (Option Value)} {Ng : List Str}
    {params : Arguments} {body : Expr} {scope : Scope} {t : XK → TE} {p lpos pos : Pos} (hg : Gl X x) (hm : X.mg x = some (.ref g)) (hk : PySem.W.keepIn X.K (.ref g) = true)
    (lk : X.K.lookup g = some ⟨oc, od, .func (PySem.W.fnOf x x pg bg sg dV kV doc pm an cdv ct), osl⟩) (hcg : PySem.W.codeIn X.K cdv x = true) (hb : L2.Binds X.K (PySem.W.fnOf x x pg bg sg dV kV doc pm an cdv ct) [a] []) (Sg : FnScope Ng [a] sg) (hNg : Ng[0]? = some a) (hva : Vis sg a)
    (hG : LamX.GivesTo X Ng x sg g cdv bg a (X.env.qual ++ "<lambda>") TT)
    (TB : LamX.TabB X.base X.mg c P) (hcode : X.env.code = .ref c) (hmT : (P, X.env.qual ++ "<lambda>") ∈ T) (hu : ∀ p ∈ T, p.1 = P → p.2 = X.env.qual ++ "<lambda>") (hr : Room (k + 2) X.A) (L : LamX.LamS X.env.scope scope) (hdef : defaultsOf params X.env = ([], []))
    (hbind : ∀ (q : Str) (cl : List (Str × Addr)) (pm cv ctv : Value), bindArgs (PySem.W.kla_fn "<lambda>" q params body scope cl pm cv ctv) ⟨[], []⟩ = pure [])
    (hbody : ∀ (A : Around) (outer : List Env) (s : Shared) (H : Hp) (E : XK) (f c' : Addr), Room k (A.deeper (LamX.lamEnv X scope s.heap.objs.size f c')) → PE (LamX.lamCx X A outer s H E scope f c') body (t E))
    (hdb : (x == ("__debug__" : Str)) = false := by decide) (hd : (a == ("__debug__" : Str)) = false := by decide) (hcd : (a == ("__classdict__" : Str)) = false := by decide) :
    PE X (.Call (.Name x p) [.Lambda params body scope lpos] [] pos) (tLam3 T TT t) := by
  refine ⟨fun pins s σ H Q I h => ?_⟩
  obtain ⟨hT, h⟩ := h
  refine wpAny_Call_Name_kw (ld_glob I hg hm ?_ hdb)
  refine PySem.W.callWith_K (h₀ := X.base) I.ok.mod.kin hk ?_ (by rfl) (by rfl)
  show wpAny _ _ (spliced ((false, eval (.Lambda params body scope lpos) X.env) :: backTo pos (starEach [] X.env))) _ _ s
  refine Calls.spliced_cons (lam_make3 I TB hcode hmT hu hT hdef (L.has I.ok) fun f c' pm' ctv H1 s' I1 eN eD T1 hf hfn hfr hco => ?_)
  refine Calls.spliced_nil ⟨I1.kIn, ?_⟩
  have rc : codeAny (model X.prog X.w) X.A (.call (.ref g) ⟨[.ref f], []⟩) (CR C8.CX0 X.stack X.prog X.w H1 s' Q C8.E0) s' := by
    refine LamX.run_ofS (N := Ng) (ps := [a]) (us := [.ref f]) (vs := [.ref f]) lk hcg Sg hr I1.env0 (hb s' [.ref f] I1.kIn rfl) (.cons rfl .nil) rfl fun hr' => ?_
    obtain ⟨t', ht', hq'⟩ := hG f c' s' H1 Q (fun E H' Q' => t E σ H' Q') (fun W pn xe E p1 p2 tk hW => LamX.pe_act (i := 0) I1 L hf hfn hfr (hbind _ _ _ _ _) tk hW hr' (fun A outer s H hr2 => hbody A outer s H E f c' hr2) hNg hva hd hcd) hco (h H1 eN eD T1)
    exact ⟨t', ht'.nox, hq'⟩
  refine wpAny_call (codeAny_mono rc fun r s2 hq => ?_)
  cases r with
  | error e => exact (show False from hq).elim
  | ok fl =>
    cases fl with
    | ret u => exact I1.after hq
    | next => exact False.elim hq
    | brk => exact False.elim hq
    | cont => exact False.elim hq
end
section
variable {X : Cx} {W : WX} {k : Nat} {st : Stmt} {c P : Addr} {params : Arguments} {body : Expr} {scope : Scope} {m : SE} {p lpos pos : Pos}
/-- the same world over another heap -/
def _root_.Mp.Wo.at (ω : Wo) (H : Hp) : Wo := { ω with H := H }
/-- the reading of a told exception -/
theorem told_read {K : PySem.W.Frag} {mg : Str → Option Value} {tab : TTab} {ω : Wo} {h : Hc} {x : Str} {fs : List Str} {vs : List D} {cls : Value} {dx : Option Addr} {Q : VK} {σ : L2.St} (ht : tab.map (·.2) = toldTab) (he : exmAll K tab = true) (hg : ∀ q ∈ tab, mg q.2.1 = some (.ref q.1))
    (ok : toldOk x fs vs.length = true) (r : Rel K ω h) (rx : RelX K mg ω x fs vs cls dx) (q : Post K mg W0 σ ω (RelD K) Q (.ok (.tup (.str x :: vs.reverse)) h)) : wTold K Q tab cls dx ω.H := by
  obtain ⟨C, dd, us, rfl, rfl, gC, hd, hl, rl⟩ := rx
  unfold toldOk at ok
  simp only [Bool.and_eq_true, List.any_eq_true, decide_eq_true_eq] at ok
  obtain ⟨⟨p0, hp, e1, e2⟩, nd, ln⟩ := ok
  rw [← ht] at hp
  obtain ⟨q0, hq, e3⟩ := List.mem_map.mp hp
  have gq := hg q0 hq
  have ex : q0.2.1 = x := by rw [e3, e1]
  rw [ex, gC] at gq
  have eC : C = q0.1 := by injection gq with z; injection z
  have mem : (C, x, fs.reverse) ∈ tab := by
    have : q0 = (C, x, fs.reverse) := by
      rw [eC, ← ex, ← e2, ← e3]
    rw [← this]; exact hq
  have lz := lookup_zip nd hl
  refine told_hit (vs := us.reverse) hd ?_ ?_ (fun t o hn hno => ?_) tab he mem
  · rw [List.map_reverse, lz, List.map_reverse]
  · rw [List.length_reverse, ← hl]
    have : fs.length ≤ 2 := by
      have : fs.reverse ∈ toldTab.map (·.2) := by
        rw [← ht]
        exact List.mem_map.mpr ⟨_, List.mem_map.mpr ⟨_, mem, rfl⟩, rfl⟩
      have a : ∀ l ∈ toldTab.map (·.2), l.length ≤ 2 := by decide +kernel
      have := a _ this
      rwa [List.length_reverse] at this
    omega
  · exact q (.ref t) (ω.up t (tuO o (.str x :: us.reverse))) (Ext.up hn) (r.up hn) (tup_new r hn hno (RelL.cons str_rd rl.reverse))
theorem de_told (T : TellTxt X.K X.mg st) (TB : LawTab X.K X.mg X.base c P) (hcode : X.env.code = .ref c) (hq : X.env.qual ++ "<lambda>" = ("law.<locals>.<lambda>" : Str)) (hr : Room (k + 2) X.A) (L : LamX.LamS X.env.scope scope) (hg : Gl X "_law_told")
    (hdef : defaultsOf params X.env = ([], []))
    (hbind : ∀ (q : Str) (cl : List (Str × Addr)) (pm cv ctv : Value), bindArgs (PySem.W.kla_fn "<lambda>" q params body scope cl pm cv ctv) ⟨[], []⟩ = pure [])
    (hbody : ∀ (A : Around) (outer : List Env) (s : Shared) (H : Hp) (E : XK) (f c' : Addr), Room k (A.deeper (LamX.lamEnv X scope s.heap.objs.size f c')) → DE (LamX.lamCx X A outer s H E scope f c') (WF E) body m) :
    DE X W (.Call (.Name "_law_told" p) [.Lambda params body scope lpos] [] pos) (eTold m) := by
  obtain ⟨⟨g, fd, gm, F, bd⟩, S, sk, vd, vw, tab, j, kk, p1, p2, p3, p4, p5, p6, h₀, hds, eb, hh, ht, he⟩ := T
  obtain ⟨oc, od, kV, doc, pm, an, cdv, ct, osl, rfl, lk, hcd⟩ := F.ex
  have hG : LamX.GivesTo X ["deed", "why"] "_law_told" (defScope st) g cdv (defBody st) "deed" (X.env.qual ++ "<lambda>") (TTold X.K tab) := by
    rw [eb]
    exact told_gives hh (toldHs_g hh) sk (.inl vw) vw (by decide) (by decide) (by decide)
  have hgm := toldHs_m hh
  have eT : (P, X.env.qual ++ "<lambda>") ∈ tabT X.K := by rw [hq]; exact tab_law TB.ht
  refine de_of (pe_lamcall3 (T := tabT X.K) (t := fun E => tE X (WF E) m) hg gm F.kp lk hcd bd S rfl vd hG TB.tb hcode eT (fun q hq' e => by rw [tab_uniq q hq' _ eT e]) hr L hdef hbind (fun A outer s H E f c' hr' => hbody A outer s H E f c' hr') (by decide) (by decide) (by decide)) fun σ H Q ⟨ω, h, ds, e1, r, s, pp⟩ => ?_
  subst e1
  refine ⟨r.tabs, fun H1 hE hD hT => ?_⟩
  have ex : Ext ω (ω.at H1) := ⟨Nat.le_refl _, fun _ _ => rfl, fun _ z => z, fun _ z => .inl z, fun i a b => absurd b (Nat.not_lt.mpr a), fun q z => hD q z, fun q o hq nt _ => hE q o hq nt⟩
  have hc : ∀ i, i < ω.n → (ω.at H1).H (ω.β i) = ω.H (ω.β i) := fun i hi => by
    obtain ⟨o, e, m⟩ := r.mut hi
    show H1 _ = _
    rw [e]
    exact hE _ _ e fun ps z => by rw [z] at m; exact m
  have r1 : Rel X.K (ω.at H1) h := r.ext0 ex rfl (fun _ z => z) hc hT
  refine ⟨ω.at H1, h, ds, rfl, r1, monoS r ex s, ?_⟩
  have pp1 := Post.mono pp ex
  unfold eTold at pp1
  cases q : m ds h with
  | ok v h' =>
    rw [q] at pp1
    intro u ω' e' r' rv
    refine ⟨by rw [sizeLine_eq]; show 2 ≤ 16777216; decide, fun t o hn hno => ?_⟩
    exact pp1 (.ref t) (ω'.up t (tuO o [.str "value", u])) (e'.trans (Ext.up hn)) (r'.up hn) (tup_new r' hn hno (RelL.cons str_rd (RelL.cons rv RelL.nil)))
  | ex x fs vs h' =>
    rw [q] at pp1
    simp only at pp1
    obtain ⟨ok, pp1⟩ := pp1.if_
    intro cls dx ω' e' r' rx
    exact told_read (σ := σ) ht he hgm ok r' rx (Post.mono pp1 e')
  | bad => rw [q] at pp1; exact False.elim pp1
end
/-! ### the law's def, its code object known -/
def DefAtC (K : PySem.W.Frag) (mg : Str → Option Value) (x qual : Str) (st : Stmt) (ps : List Str) (c : Addr) : Prop := ∃ (f : Addr) (fd : FuncData), mg x = some (.ref f) ∧ Fun K x qual st f fd ∧ Binds K fd ps [] ∧ fd.code = .ref c
section
variable {P : Program} {w : World} {K : PySem.W.Frag} {mg : Str → Option Value} {base : Heap}
theorem fn_okC {x qual : Str} {st : Stmt} {f c : Addr} {fd : FuncData} {N ps : List Str} {k : Nat} {m : SS} (F : Fun K x qual st f fd) (hc : fd.code = .ref c) (S : FnScope N ps (defScope st))
    (hb : ∀ (A : Around) (outer : List Env) (s : Shared) (H : Hp) (E : XK), Room k (A.deeper (envOfC qual (defScope st) s.heap.objs.size f (.ref c))) →
      DSs (cxOf (L2.CX P w) P w K mg base N qual (defScope st) f (.ref c) A outer s H E) (WF E) (defBody st) m) :
    FnOk P w K mg base (L2.CX P w) (k + 1) f fd ps (spD K mg ps.length (runB N.length m)) := by
  obtain ⟨oc, od, kV, doc, pm, an, cdv, ct, osl, rfl, lk, hcd⟩ := F.ex
  have hc' : cdv = .ref c := hc
  subst hc'
  refine fn_of lk hcd S (fun vs H Q E h => h.1) fun A outer s H vs Q E hr h => ?_
  refine ⟨_, hb A outer s H E hr, ?_⟩
  obtain ⟨hl, ω, h, ds, e1, r, rl, p⟩ := h
  subst e1
  have e2 : N.length - ds.length = N.length - vs.length := by rw [rl.len]
  refine ⟨ω, h, ds.map some ++ List.replicate (N.length - ds.length) none, rfl, r, by rw [e2]; exact rl.slots, ?_⟩
  unfold runB at p
  cases q : m (ds.map some ++ List.replicate (N.length - ds.length) none) h with
  | nx ds' h' => rw [q] at p; exact fun σ' ω' e r' s' => p _ ω' e r' (by unfold RelD; rfl)
  | rt d h' => rw [q] at p; exact fun v ω' e r' s' => p _ ω' e r' s'
  | bk ds' h' => rw [q] at p; exact False.elim p
  | ct ds' h' => rw [q] at p; exact False.elim p
  | ex x fs vs' ds' h' => rw [q] at p; exact fun c d σ' ω' e r' s' rx => p c d ω' e r' rx
  | bad => rw [q] at p; exact False.elim p
theorem DefAtC.good {x qual : Str} {st : Stmt} {ps N : List Str} {k : Nat} {m : SS} {c : Addr} (D : DefAtC K mg x qual st ps c) (S : FnScope N ps (defScope st))
    (hb : ∀ (f : Addr) (A : Around) (outer : List Env) (s : Shared) (H : Hp) (E : XK), Room k (DefX P w K mg base N qual st f (.ref c) A outer s H E).A → DSs (DefX P w K mg base N qual st f (.ref c) A outer s H E) (WF E) (defBody st) m) :
    Good P w K mg base x (k + 1) ps (runB N.length m) := by
  obtain ⟨f, fd, g, F, b, hc⟩ := D
  exact ⟨f, fd, g, F.kp, b, fun_lk F, fn_okC F hc S fun A outer s H E hr => hb f A outer s H E hr⟩
end
end Mp
/-! LayZ: further words. -/
namespace Mp
open PySem PySem.Spec PyProof.Rows L2
section
variable {X : Cx} {W : WX} {o i e o2 i2 : Expr} {mo mi me mo2 mi2 : SE} {as : SA} {pos posA p1 p2 : Pos} {k : Nat} {es : List Expr}
/-! ### xs[i], ys[j] = a, b -/
def sSw (as : SA) (mo mi mo2 mi2 : SE) : SS := fun ds h => sBd (as ds h) ds fun xs h1 => match xs with
  | [x, y] => sBd (mo ds h1) ds fun o h2 => sBd (mi ds h2) ds fun i h3 => match setF o i x h3 with
    | some h4 => sBd (mo2 ds h4) ds fun o2 h5 => sBd (mi2 ds h5) ds fun i2 h6 => match setF o2 i2 y h6 with
      | some h7 => .nx ds h7
      | none => .bad
    | none => .bad
  | _ => .bad
/-! ### xs[i] op= e, d[k] op= e -/
def sAugS (fget fop : D → D → Hc → R D) (fset : D → D → D → Hc → Option Hc) (mo mi me : SE) : SS := fun ds h => sBd (mo ds h) ds fun o h1 => sBd (mi ds h1) ds fun i h2 => sBd (fget o i h2) ds fun x h3 => sBd (me ds h3) ds fun y h4 => sBd (fop x y h4) ds fun z h5 => match fset o i z h5 with
  | some h6 => .nx ds h6
  | none => .bad
def ixlF (x y : D) (h : Hc) : R D := match rdlD h x, y with
  | some xs, .int i => match atI xs i with
    | some d => .ok d h
    | none => .bad
  | _, _ => .bad
end
/-! ### xs + ys, that is then changed -/
def addC (x y : D) (h : Hc) : R D := match lstD h x, lstD h y with
  | some xs, some ys => if xs.length + ys.length ≤ lim then .ok (.ref h.length) (h ++ [.lst (xs ++ ys)]) else .bad
  | _, _ => .bad
theorem opd_addC {X : Cx} : OpD X (rAddA X.K) addC := fun W σ ω h x y v u Q r rx ry p => by
  unfold addC at p
  split at p
  · rename_i xs ys q1 q2
    obtain ⟨hl, p⟩ := p.if_
    obtain ⟨a, vs, e1, e2, e3⟩ := lstD_rel r q1 rx
    obtain ⟨b, ws, e4, e5, e6⟩ := lstD_rel r q2 ry
    exact .inr (.inr (.inl ⟨a, b, vs, ws, e1, e4, e2, e5, by rw [← e3.len, ← e6.len]; exact lim_le hl, fun q hq => p (.ref q) (ω.cell q _) (Ext.cell hq) (cell_new r hq (e3.append e6)).1 (cell_new r hq (e3.append e6)).2⟩))
  · exact False.elim p
/-! ### what is never reached -/
section
variable {X : Cx} {W : WX} {e tg : Expr} {es : List Expr}
def eBad : SE := fun _ _ => .bad
def bBad : SB := fun _ _ => .bad
def iBad : SI := fun _ _ => .bad
def aBad : SA := fun _ _ => .bad
end
end Mp
/-! LayW: a, b, c = ..; {k: v}; xs.index(x); d.get(..). -/
namespace Mp
open PySem PySem.Spec PyProof.Rows L2
section
variable {X : Cx} {W : WX} {e o k v : Expr} {mo me mx : SE} {as : SA} {pos apos cpos : Pos}
/-! ### a, b, c = x, y, z -/
def sPar3 (i j l : Nat) (as : SA) : SS := fun ds h => sBd (as ds h) ds fun xs h1 => match xs with
  | [x, y, z] => .nx (((ds.set i (some x)).set j (some y)).set l (some z)) h1
  | _ => .bad
/-! ### {k: v} of plain words -/
structure Pl (X : Cx) (e : Expr) (g : Sl → Option D) : Prop where
  ex : ∃ t : TE, PE X e t ∧ ∀ (σ : L2.St) (ω : Wo) (ds : Sl) (d : D), RelS X.K ω ds σ → g ds = some d → ∃ v, RelD X.K ω d v ∧ ∀ (H : Hp) (Q : VK), Q v H → t σ H Q
def gVar (i : Nat) : Sl → Option D := fun ds => match ds[i]? with
  | some (some d) => some d
  | _ => none
def gC (d : D) : Sl → Option D := fun _ => some d
def eDct1 (gk gv : Sl → Option D) : SE := fun ds h => match gk ds, gv ds with
  | some x, some y => match keyD x with
    | some kk => .ok (.ref h.length) (h ++ [.dct [kk] [y]])
    | none => .bad
  | _, _ => .bad
/-! ### xs.index(i), of ints -/
def allI : List D → Bool
  | [] => true
  | .int _ :: r => allI r
  | _ => false
def idxI : List D → Int → Option Nat
  | .int a :: r, i => if a = i then some 0 else (idxI r i).map (· + 1)
  | _, _ => none
def idxF (x : D) (as : List D) (h : Hc) : R D := match lstD h x, as with
  | some xs, [.int i] => if allI xs = true then (match idxI xs i with
      | some j => .ok (.int (j : Nat)) h
      | none => .bad) else .bad
  | _, _ => .bad
end
end Mp
/-! LayS: how the mirrors are reckoned. -/
namespace Mp
open PySem PySem.Spec PyProof.Rows L2
@[simp] theorem lim_eq : lim = 1000000 := Eq.trans rfl rfl
section
variable (i j : Nat) (ds : Sl) (h : Hc) (d x y : D) (f : D → D → Hc → R D) (m ma mb : SE) (t u : SB) (as : SA) (a b : SS)
@[simp] theorem eVar_s : eVar i ds h = match ds[i]? with
  | some (some d) => .ok d h
  | _ => .bad := Eq.trans rfl rfl
@[simp] theorem eC_s : eC d ds h = .ok d h := Eq.trans rfl rfl
@[simp] theorem eOp_s : eOp f ma mb ds h = (ma ds h).bd fun x h1 => (mb ds h1).bd fun y h2 => f x y h2 := Eq.trans rfl rfl
@[simp] theorem eUn_s (g : D → Hc → R D) : eUn g ma ds h = (ma ds h).bd fun x h1 => g x h1 := Eq.trans rfl rfl
@[simp] theorem isBl_bl (b : Bool) : isBl (.bl b) = some b := Eq.trans rfl rfl
@[simp] theorem eAnd_s : eAnd ma mb ds h = (ma ds h).bd fun x h1 => match isBl x with
  | some true => mb ds h1
  | some false => .ok (.bl false) h1
  | none => .bad := Eq.trans rfl rfl
@[simp] theorem eNot_s : eNot ma ds h = (ma ds h).bd fun x h1 => match isBl x with
  | some b => .ok (.bl (!b)) h1
  | none => .bad := Eq.trans rfl rfl
@[simp] theorem eIf_s : eIf t ma mb ds h = (t ds h).bd fun b h1 => if b = true then ma ds h1 else mb ds h1 := Eq.trans rfl rfl
@[simp] theorem bEx_s : bEx m ds h = (m ds h).bd fun x h1 => match isBl x with
  | some b => .ok b h1
  | none => .bad := Eq.trans rfl rfl
@[simp] theorem bTru_s : bTru m ds h = (m ds h).bd fun x h1 => match truD h1 x with
  | some b => .ok b h1
  | none => .bad := Eq.trans rfl rfl
@[simp] theorem bAnd_s : bAnd t u ds h = (t ds h).bd fun b h1 => if b = true then u ds h1 else .ok false h1 := Eq.trans rfl rfl
@[simp] theorem bOr_s : bOr t u ds h = (t ds h).bd fun b h1 => if b = true then .ok true h1 else u ds h1 := Eq.trans rfl rfl
@[simp] theorem bNot_s : bNot t ds h = (t ds h).bd fun b h1 => .ok (!b) h1 := Eq.trans rfl rfl
@[simp] theorem aNil_s : aNil ds h = .ok [] h := Eq.trans rfl rfl
@[simp] theorem aCons_s : aCons m as ds h = (m ds h).bd fun x h1 => (as ds h1).bd fun xs h2 => .ok (x :: xs) h2 := Eq.trans rfl rfl
@[simp] theorem eTup_s : eTup as ds h = (as ds h).bd fun xs h1 => if xs.length ≤ 1000000 then .ok (.tup xs) h1 else .bad := Eq.trans rfl rfl
@[simp] theorem eLst_s : eLst as ds h = (as ds h).bd fun xs h1 => if xs.length ≤ 1000000 then .ok (.lst xs) h1 else .bad := Eq.trans rfl rfl
@[simp] theorem eCell_s : eCell as ds h = (as ds h).bd fun xs h1 => if xs.length ≤ 1000000 then .ok (.ref h1.length) (h1 ++ [.lst xs]) else .bad := Eq.trans rfl rfl
@[simp] theorem eCB_s (g : List D → Hc → R D) : eCB g as ds h = (as ds h).bd fun xs h1 => g xs h1 := Eq.trans rfl rfl
@[simp] theorem eCall_s (g : Fn) : eCall g as ds h = (as ds h).bd fun xs h1 => callL g xs h1 := Eq.trans rfl rfl
@[simp] theorem eBM_s (T : String) (g : D → List D → Hc → R D) : eBM T g m as ds h = (m ds h).bd fun x h1 => if kindOk h1 T x = true then (as ds h1).bd fun xs h2 => g x xs h2 else .bad := Eq.trans rfl rfl
@[simp] theorem eBM0_s (T : String) (g : D → List D → Hc → R D) : eBM0 T g m ds h = (m ds h).bd fun x h1 => if kindOk h1 T x = true then g x [] h1 else .bad := Eq.trans rfl rfl
@[simp] theorem eIs2_s (p q : String) : eIs2 m p q ds h = (m ds h).bd fun x h1 => match tyD h1 x with
  | some t => if tyAsked.contains p = true ∧ tyAsked.contains q = true then .ok (.bl (isB t p || isB t q)) h1 else .bad
  | none => .bad := Eq.trans rfl rfl
@[simp] theorem eSl_s (g : D → Option Int → Option Int → Hc → R D) (lo hi : Option SE) : eSl g m lo hi ds h = (m ds h).bd fun x h1 => (optI lo ds h1).bd fun l h2 => (optI hi ds h2).bd fun u h3 => g x l u h3 := Eq.trans rfl rfl
@[simp] theorem optI_none : optI none ds h = .ok none h := Eq.trans rfl rfl
@[simp] theorem optI_some : optI (some m) ds h = (m ds h).bd fun d h1 => match d with
    | .int i => .ok (some i) h1
    | _ => .bad := Eq.trans rfl rfl
/-! ### statements -/
def O.sq (o : O) (b : SS) : O := match o with
  | .nx ds h => b ds h
  | o => o
@[simp] theorem sq_nx : (O.nx ds h).sq b = b ds h := Eq.trans rfl rfl
@[simp] theorem sq_rt : (O.rt d h).sq b = .rt d h := Eq.trans rfl rfl
@[simp] theorem sq_bk : (O.bk ds h).sq b = .bk ds h := Eq.trans rfl rfl
@[simp] theorem sq_ex (z : Str) (fs : List Str) (vs : List D) : (O.ex z fs vs ds h).sq b = .ex z fs vs ds h := Eq.trans rfl rfl
@[simp] theorem sSeq_s : sSeq a b ds h = (a ds h).sq b := by
  unfold sSeq O.sq; cases a ds h <;> rfl
@[simp] theorem sNext_s : sNext ds h = .nx ds h := Eq.trans rfl rfl
@[simp] theorem sRet_s : sRet m ds h = sBd (m ds h) ds fun d h1 => .rt d h1 := Eq.trans rfl rfl
@[simp] theorem sDrop_s : sDrop m ds h = sBd (m ds h) ds fun _ h1 => .nx ds h1 := Eq.trans rfl rfl
@[simp] theorem sIf_s : sIf t a b ds h = sBd (t ds h) ds fun c h1 => if c = true then a ds h1 else b ds h1 := Eq.trans rfl rfl
@[simp] theorem sSet_s : sSet i m ds h = sBd (m ds h) ds fun d h1 => .nx (ds.set i (some d)) h1 := Eq.trans rfl rfl
@[simp] theorem sAug_s (g : D → D → Hc → R D) : sAug i g m ds h = match ds[i]? with
  | some (some x) => sBd ((m ds h).bd fun y h1 => g x y h1) ds fun z h2 => .nx (ds.set i (some z)) h2
  | _ => .bad := Eq.trans rfl rfl
@[simp] theorem sPut_s (g : D → D → D → Hc → Option Hc) (me mo mi : SE) : sPut g me mo mi ds h = sBd (me ds h) ds fun x h1 => sBd (mo ds h1) ds fun o h2 => sBd (mi ds h2) ds fun i h3 => match g o i x h3 with
  | some h4 => .nx ds h4
  | none => .bad := Eq.trans rfl rfl
@[simp] theorem sPar_s : sPar i j as ds h = sBd (as ds h) ds fun xs h1 => match xs with
  | [x, y] => .nx ((ds.set i (some x)).set j (some y)) h1
  | _ => .bad := Eq.trans rfl rfl
@[simp] theorem sAsg_s (p : Pt) : sAsg p m ds h = sBd (m ds h) ds fun d h1 => match bindP h1 p d ds with
  | some ds' => .nx ds' h1
  | none => .bad := Eq.trans rfl rfl
@[simp] theorem sFor_s (mi : SI) (p : Pt) : sFor mi p b ds h = sBd (mi ds h) ds fun it h1 => fl it.chk p b it.items ds h1 := Eq.trans rfl rfl
@[simp] theorem iSeq_s : iSeq m ds h = (m ds h).bd fun d h1 => match seqD h1 d with
  | some xs => .ok ⟨xs, chkQ d xs⟩ h1
  | none => .bad := Eq.trans rfl rfl
@[simp] theorem chkQ_tup (xs : List D) : chkQ (.tup xs) xs = fun _ => true := funext fun _ => chkQ_of (Eq.trans rfl rfl)
@[simp] theorem chkQ_lst (xs : List D) : chkQ (.lst xs) xs = fun _ => true := funext fun _ => chkQ_of (Eq.trans rfl rfl)
def rg1F (xs : List D) (h : Hc) : R ItD := match xs with
  | [.int j] => if -(2 ^ 62) ≤ j ∧ j < 2 ^ 62 then .ok ⟨upFrom 0 j.toNat, fun _ => true⟩ h else .bad
  | _ => .bad
def rg2F (xs : List D) (h : Hc) : R ItD := match xs with
  | [.int i, .int j] => if -(2 ^ 62) ≤ i ∧ i < 2 ^ 62 ∧ -(2 ^ 62) ≤ j ∧ j < 2 ^ 62 then .ok ⟨upFrom i (j - i).toNat, fun _ => true⟩ h else .bad
  | _ => .bad
@[simp] theorem iRg1_s : iRg1 as ds h = (as ds h).bd rg1F := Eq.trans rfl rfl
/-- a number that a walk of a range can take -/
def rgOk (j : Int) : Bool := decide (-4611686018427387904 ≤ j) && decide (j < 4611686018427387904)
theorem rgOk_of {j : Int} (h1 : -4611686018427387904 ≤ j) (h2 : j < 4611686018427387904) : rgOk j = true := by unfold rgOk; simp [h1, h2]
theorem rgOk_spec {j : Int} : rgOk j = true ↔ -(2 ^ 62) ≤ j ∧ j < 2 ^ 62 := by
  unfold rgOk
  simp only [Bool.and_eq_true, decide_eq_true_eq]
  have : (2 : Int) ^ 62 = 4611686018427387904 := by decide +kernel
  rw [this]
@[simp] theorem rg1F_int (j : Int) : rg1F [.int j] h = if rgOk j = true then .ok ⟨upFrom 0 j.toNat, fun _ => true⟩ h else .bad := by
  unfold rg1F
  by_cases q : rgOk j = true
  · have := rgOk_spec.mp q
    simp only [q, this, and_self, if_true]
  · have : ¬ (-(2 ^ 62) ≤ j ∧ j < 2 ^ 62) := fun z => q (rgOk_spec.mpr z)
    simp only [q, this, if_false, Bool.false_eq_true]
theorem rgOk_nat {n : Nat} (hn : n < 4000000000000000000) : rgOk (n : Int) = true := rgOk_of (by omega) (by omega)
@[simp] theorem seqD_tup (xs : List D) : seqD h (.tup xs) = some xs := Eq.trans rfl rfl
@[simp] theorem seqD_lst (xs : List D) : seqD h (.lst xs) = some xs := Eq.trans rfl rfl
@[simp] theorem seqD_ref : seqD h (.ref i) = match h[i]? with
    | some (.lst xs) => some xs
    | _ => none := Eq.trans rfl rfl
@[simp] theorem rdlD_lst (xs : List D) : rdlD h (.lst xs) = some xs := Eq.trans rfl rfl
@[simp] theorem rdlD_scr (xs : List D) : rdlD h (.scr xs) = some xs := Eq.trans rfl rfl
@[simp] theorem rdlD_ref : rdlD h (.ref i) = match h[i]? with
    | some (.lst xs) => some xs
    | _ => none := Eq.trans rfl rfl
@[simp] theorem bindP_n : bindP h (.n i) d ds = some (ds.set i (some d)) := by unfold bindP; rfl
@[simp] theorem bindP_t (ps : List Pt) : bindP h (.t ps) d ds = match seqD h d with
    | some xs => bindPs h ps xs ds
    | none => none := by
  conv => lhs; unfold bindP
  all_goals rfl
@[simp] theorem bindPs_nil : bindPs h [] [] ds = some ds := by unfold bindPs; rfl
@[simp] theorem bindPs_cons (p : Pt) (ps : List Pt) (xs : List D) : bindPs h (p :: ps) (x :: xs) ds = match bindP h p x ds with
    | some ds1 => bindPs h ps xs ds1
    | none => none := by
  conv => lhs; unfold bindPs
  all_goals rfl
/-! ### turns of a loop, its body as it is -/
section
variable {chk : Hc → Bool} {p : Pt} {b : SS} {d : D} {r : List D} {ds ds1 ds' : Sl} {h h' : Hc} {i : Nat}
theorem fl_end (hc : chk h = true) : fl chk p b [] ds h = .nx ds h := by
  unfold fl
  rw [if_pos hc]
theorem fl_nx (hc : chk h = true) (e1 : bindP h p d ds = some ds1) (e2 : b ds1 h = .nx ds' h') : fl chk p b (d :: r) ds h = fl chk p b r ds' h' := by
  conv => lhs; unfold fl
  rw [if_pos hc, e1]
  simp only [e2]
theorem fl_bk (hc : chk h = true) (e1 : bindP h p d ds = some ds1) (e2 : b ds1 h = .bk ds' h') : fl chk p b (d :: r) ds h = .nx ds' h' := by
  conv => lhs; unfold fl
  rw [if_pos hc, e1]
  simp only [e2]
theorem fl_rt {v : D} (hc : chk h = true) (e1 : bindP h p d ds = some ds1) (e2 : b ds1 h = .rt v h') : fl chk p b (d :: r) ds h = .rt v h' := by
  conv => lhs; unfold fl
  rw [if_pos hc, e1]
  simp only [e2]
/-- one turn over a name -/
theorem fl_n (e2 : b (ds.set i (some d)) h = .nx ds' h') : fl (fun _ => true) (.n i) b (d :: r) ds h = fl (fun _ => true) (.n i) b r ds' h' := fl_nx rfl (bindP_n ..) e2
end
/-! ### runs -/
def O.fin : O → R D
  | .nx _ h' => .ok .non h'
  | .rt d h' => .ok d h'
  | .ex x fs vs _ h' => .ex x fs vs h'
  | _ => .bad
@[simp] theorem fin_nx : (O.nx ds h).fin = .ok .non h := Eq.trans rfl rfl
@[simp] theorem fin_rt : (O.rt d h).fin = .ok d h := Eq.trans rfl rfl
@[simp] theorem fin_ex (z : Str) (fs : List Str) (vs : List D) : (O.ex z fs vs ds h).fin = .ex z fs vs h := Eq.trans rfl rfl
theorem runB_s (n : Nat) (xs : List D) : runB n a xs h = (a (xs.map some ++ List.replicate (n - xs.length) none) h).fin := by
  unfold runB O.fin; cases a _ h <;> rfl
end
/-! ### values -/
section
variable (h : Hc) (i j : Int) (s t : Str) (b c : Bool)
@[simp] theorem eq_int (neg : Bool) : eqG neg (.int i) (.int j) h = .ok (.bl (if neg then !decide (i = j) else decide (i = j))) h := Eq.trans rfl rfl
@[simp] theorem eq_str (neg : Bool) : eqG neg (.str s) (.str t) h = .ok (.bl (if neg then !decide (s = t) else decide (s = t))) h := Eq.trans rfl rfl
@[simp] theorem eq_bl (neg : Bool) : eqG neg (.bl b) (.bl c) h = .ok (.bl (if neg then !decide (b = c) else decide (b = c))) h := Eq.trans rfl rfl
@[simp] theorem isN_int : isN (.int i) = false := Eq.trans rfl rfl
@[simp] theorem isN_str : isN (.str s) = false := Eq.trans rfl rfl
@[simp] theorem isN_bl : isN (.bl b) = false := Eq.trans rfl rfl
@[simp] theorem isN_non : isN .non = true := Eq.trans rfl rfl
@[simp] theorem isN_tup (xs : List D) : isN (.tup xs) = false := Eq.trans rfl rfl
@[simp] theorem flat_int : flat (.int i) = true := by unfold flat; rfl
@[simp] theorem flat_str : flat (.str s) = true := by unfold flat; rfl
@[simp] theorem flat_bl : flat (.bl b) = true := by unfold flat; rfl
@[simp] theorem flat_non : flat .non = true := by unfold flat; rfl
@[simp] theorem flat_ref (n : Nat) : flat (.ref n) = false := by unfold flat; rfl
@[simp] theorem flat_tup (xs : List D) : flat (.tup xs) = flatL xs := by conv => lhs; unfold flat
@[simp] theorem flat_lst (xs : List D) : flat (.lst xs) = flatL xs := by conv => lhs; unfold flat
@[simp] theorem flat_scr (xs : List D) : flat (.scr xs) = flatL xs := by conv => lhs; unfold flat
@[simp] theorem flatL_nil : flatL [] = true := by unfold flatL; rfl
@[simp] theorem flatL_cons (x : D) (xs : List D) : flatL (x :: xs) = (flat x && flatL xs) := by conv => lhs; unfold flatL
@[simp] theorem flatL_append (xs ys : List D) : flatL (xs ++ ys) = (flatL xs && flatL ys) := by
  induction xs with
  | nil => simp
  | cons x xs ih => simp [ih, Bool.and_assoc]
@[simp] theorem flatL_ints (ns : List Int) : flatL (ns.map D.int) = true := by induction ns <;> simp_all
@[simp] theorem flatL_strs (ns : List Str) : flatL (ns.map D.str) = true := by induction ns <;> simp_all
theorem flatL_map {α : Type} (g : α → D) (hg : ∀ a, flat (g a) = true) (xs : List α) : flatL (xs.map g) = true := by induction xs <;> simp_all
@[simp] theorem flatC_lst (xs : List D) : flatC (.lst xs) = flatL xs := Eq.trans rfl rfl
@[simp] theorem tyD_int : tyD h (.int i) = some "int" := Eq.trans rfl rfl
@[simp] theorem tyD_str : tyD h (.str s) = some "str" := Eq.trans rfl rfl
@[simp] theorem tyD_bl : tyD h (.bl b) = some "bool" := Eq.trans rfl rfl
@[simp] theorem tyD_non : tyD h .non = some "NoneType" := Eq.trans rfl rfl
@[simp] theorem tyD_tup (xs : List D) : tyD h (.tup xs) = some "tuple" := Eq.trans rfl rfl
@[simp] theorem tyD_lst (xs : List D) : tyD h (.lst xs) = some "list" := Eq.trans rfl rfl
@[simp] theorem isF_s (d : D) (c : String) : isF [d, .ty c] h = match tyD h d with
    | some t => if tyAsked.contains c = true then .ok (.bl (isB t c)) h else .bad
    | none => .bad := Eq.trans rfl rfl
@[simp] theorem lenF_lst (xs : List D) : lenF [.lst xs] h = .ok (.int xs.length) h := Eq.trans rfl rfl
@[simp] theorem lenF_tup (xs : List D) : lenF [.tup xs] h = .ok (.int xs.length) h := Eq.trans rfl rfl
@[simp] theorem lenF_str : lenF [.str s] h = if s.length ≤ lim then .ok (.int s.length) h else .bad := Eq.trans rfl rfl
theorem lenF_ref {n : Nat} {xs : List D} (e : h[n]? = some (.lst xs)) : lenF [.ref n] h = .ok (.int xs.length) h := by simp [lenF, e]
@[simp] theorem ixF_tup (xs : List D) : ixF (.tup xs) (.int i) h = match atI xs i with
    | some d => .ok d h
    | none => .bad := Eq.trans rfl rfl
@[simp] theorem ixF_lst (xs : List D) : ixF (.lst xs) (.int i) h = match atI xs i with
    | some d => .ok d h
    | none => .bad := Eq.trans rfl rfl
theorem ixF_ref {n : Nat} {xs : List D} (e : h[n]? = some (.lst xs)) : ixF (.ref n) (.int i) h = match atI xs i with
    | some d => .ok d h
    | none => .bad := by
  simp [ixF, e]
  all_goals rfl
theorem atI_of {α : Type} {xs : List α} {i : Int} (h0 : 0 ≤ i) (h1 : i < xs.length) : atI xs i = xs[i.toNat]? := by
  unfold atI ixN
  rw [if_pos h0, if_pos h1]; rfl
theorem atI_nat' {α : Type} {xs : List α} {n : Nat} (h1 : n < xs.length) : atI xs (n : Int) = xs[n]? := by
  rw [atI_of (by omega) (by omega)]; simp
@[simp] theorem atI_0 {α : Type} (x : α) (xs : List α) : atI (x :: xs) 0 = some x := by rw [atI_of (by omega) (by simp only [List.length_cons]; omega)]; rfl
@[simp] theorem atI_1 {α : Type} (x y : α) (xs : List α) : atI (x :: y :: xs) 1 = some y := by rw [atI_of (by omega) (by simp only [List.length_cons]; omega)]; rfl
@[simp] theorem atI_2 {α : Type} (x y z : α) (xs : List α) : atI (x :: y :: z :: xs) 2 = some z := by rw [atI_of (by omega) (by simp only [List.length_cons]; omega)]; rfl
theorem cutD_take {α : Type} (xs : List α) (n : Nat) : cutD xs none (some (n : Int)) = xs.take n := by
  unfold cutD
  rw [HT.sIx_none, HT.sIx_nat]
  simp only [List.drop_zero, Nat.sub_zero]
  rw [Nat.min_comm, List.take_eq_take_iff]
  omega
theorem cutD_drop {α : Type} (xs : List α) (n : Nat) : cutD xs (some (n : Int)) none = xs.drop n := by
  unfold cutD
  rw [HT.sIx_none, HT.sIx_nat]
  rw [List.take_of_length_le (by simp only [List.length_drop]; omega)]
  by_cases h : n ≤ xs.length
  · rw [Nat.min_eq_left h]
  · rw [Nat.min_eq_right (by omega), List.drop_eq_nil_of_le (by omega), List.drop_eq_nil_of_le (by omega)]
theorem atI_last {α : Type} {xs : List α} (hx : xs ≠ []) : atI xs (-1) = some (xs.getLast hx) := by
  have hp : 0 < xs.length := List.length_pos_iff.mpr hx
  have e : ixN xs.length (-1) = some (xs.length - 1) := by
    unfold ixN
    rw [if_neg (by decide), if_pos (by omega)]
    congr 1; omega
  unfold atI
  rw [e, List.getLast_eq_getElem]
  simp
theorem mulOk_l (h1 : -18446744073709551616 < i) (h2 : i < 18446744073709551616) : mulOk i j = true := by unfold mulOk; simp; exact .inl (.inl ⟨h1, h2⟩)
theorem mulOk_r (h1 : -18446744073709551616 < j) (h2 : j < 18446744073709551616) : mulOk i j = true := by unfold mulOk; simp; exact .inl (.inr ⟨h1, h2⟩)
theorem divOk_of (h0 : j ≠ 0) (h1 : -(2 ^ 64) < j) (h2 : j < 2 ^ 64) : divOk j = true := by
  unfold divOk
  simp only [Bool.and_eq_true, decide_eq_true_eq]
  refine ⟨h0, ?_⟩
  have : j.natAbs < 2 ^ 64 := by omega
  have := (Nat.log2_lt (n := j.natAbs) (k := 64) (by omega)).mpr this
  omega
end
/-! ### kinds -/
@[simp] theorem rgOk_4 : rgOk 4 = true := by decide +kernel
@[simp] theorem rgOk_40 : rgOk 40 = true := by decide +kernel
@[simp] theorem rgOk_60 : rgOk 60 = true := by decide +kernel
@[simp] theorem rgOk_20000 : rgOk 20000 = true := by decide +kernel
@[simp] theorem asked_bool : "bool" ∈ tyAsked := by decide +kernel
@[simp] theorem isB_bool_bool : isB "bool" "bool" = true := by decide +kernel
@[simp] theorem isB_int_bool : isB "int" "bool" = false := by decide +kernel
@[simp] theorem isB_str_bool : isB "str" "bool" = false := by decide +kernel
@[simp] theorem asked_int : "int" ∈ tyAsked := by decide +kernel
@[simp] theorem isB_int_int : isB "int" "int" = true := by decide +kernel
@[simp] theorem isB_str_int : isB "str" "int" = false := by decide +kernel
@[simp] theorem asked_str : "str" ∈ tyAsked := by decide +kernel
@[simp] theorem isB_str_str : isB "str" "str" = true := by decide +kernel
@[simp] theorem asked_tuple : "tuple" ∈ tyAsked := by decide +kernel
@[simp] theorem isB_NoneType_tuple : isB "NoneType" "tuple" = false := by decide +kernel
@[simp] theorem isB_bool_tuple : isB "bool" "tuple" = false := by decide +kernel
@[simp] theorem isB_int_tuple : isB "int" "tuple" = false := by decide +kernel
@[simp] theorem isB_str_tuple : isB "str" "tuple" = false := by decide +kernel
@[simp] theorem isB_tuple_tuple : isB "tuple" "tuple" = true := by decide +kernel
@[simp] theorem isB_list_tuple : isB "list" "tuple" = false := by decide +kernel
@[simp] theorem asked_list : "list" ∈ tyAsked := by decide +kernel
@[simp] theorem isB_tuple_list : isB "tuple" "list" = false := by decide +kernel
@[simp] theorem isB_list_list : isB "list" "list" = true := by decide +kernel
/-! ### truth and comprehensions -/
section
variable (h : Hc) (b : Bool) (i : Int) (xs : List D) (ds : Sl)
@[simp] theorem truD_bl : truD h (.bl b) = some b := Eq.trans rfl rfl
theorem truD_ref {n : Nat} (e : h[n]? = some (.lst xs)) : truD h (.ref n) = some (!xs.isEmpty) := by unfold truD; simp [e]
@[simp] theorem wipeD_nil : wipeD ds [] = ds := by unfold wipeD; rfl
@[simp] theorem wipeD_cons (v : Nat) (vs : List Nat) : wipeD ds (v :: vs) = (wipeD ds vs).set v none := by conv => lhs; unfold wipeD
@[simp] theorem lcR_nil (chk : Hc → Bool) (p : Pt) (own : List Nat) (c : SB) (m : SE) (acc : List D) : lcR chk p own c m ds [] acc h = if chk h = true then .ok acc h else .bad := by conv => lhs; unfold lcR
@[simp] theorem lcR_cons (chk : Hc → Bool) (p : Pt) (own : List Nat) (c : SB) (m : SE) (acc : List D) (d : D) (r : List D) : lcR chk p own c m ds (d :: r) acc h = if chk h = true then (match bindP h p d (wipeD ds own) with
      | some ds1 => (c ds1 h).nox.bd fun b h1 => if b = true then (m ds1 h1).nox.bd fun y h2 => if acc.length < lim then lcR chk p own c m ds r (acc ++ [y]) h2 else .bad else lcR chk p own c m ds r acc h1
      | none => .bad) else .bad := by
  conv => lhs; unfold lcR
  all_goals rfl
@[simp] theorem eLc_s (mi : SI) (p : Pt) (own : List Nat) (c : SB) (m : SE) : eLc mi p own c m ds h = (mi ds h).bd fun it h1 => (lcR it.chk p own c m ds it.items [] h1).bd fun xs h2 => .ok (.lst xs) h2 := Eq.trans rfl rfl
@[simp] theorem eLcC_s (mi : SI) (p : Pt) (own : List Nat) (c : SB) (m : SE) : eLcC mi p own c m ds h = (mi ds h).bd fun it h1 => (lcR it.chk p own c m ds it.items [] h1).bd fun xs h2 => .ok (.ref h2.length) (h2 ++ [.lst xs]) := Eq.trans rfl rfl
end
/-- each with its own -/
def All2 {α β : Type} (P : α → β → Prop) : List α → List β → Prop
  | [], [] => True
  | a :: as, b :: bs => P a b ∧ All2 P as bs
  | _, _ => False
theorem All2.map {α β γ : Type} {P : β → γ → Prop} {f : α → β} {g : α → γ} : ∀ {xs : List α}, (∀ x ∈ xs, P (f x) (g x)) → All2 P (xs.map f) (xs.map g)
  | [], _ => trivial
  | x :: xs, h => ⟨h x (by simp), All2.map fun y hy => h y (by simp [hy])⟩
/-- a comprehension whose element does no harm -/
theorem lcR_two {chk : Hc → Bool} {p : Pt} {own : List Nat} {m : SE} {ds : Sl} {h : Hc} (hc : chk h = true) : ∀ (items outs acc : List D), acc.length + items.length ≤ 1000000 → All2 (fun d y => ∃ ds1, bindP h p d (wipeD ds own) = some ds1 ∧ m ds1 h = .ok y h) items outs →
    lcR chk p own (fun _ h => .ok true h) m ds items acc h = .ok (acc ++ outs) h
  | [], [], acc, _, _ => by simp [hc]
  | [], _ :: _, acc, _, a => a.elim
  | _ :: _, [], acc, _, a => a.elim
  | d :: r, y :: ys, acc, hl, ⟨⟨ds1, e1, e2⟩, a⟩ => by
    have ih := lcR_two hc r ys (acc ++ [y]) (by simp at hl ⊢; omega) a
    have : acc.length < 1000000 := by simp at hl; omega
    simp [hc, e1, e2, this, ih]
/-- a comprehension over values whose element does no harm -/
theorem lcR_map {chk : Hc → Bool} {p : Pt} {own : List Nat} {m : SE} {ds : Sl} {h : Hc} (f : D → D) (hc : chk h = true) : ∀ (items acc : List D), acc.length + items.length ≤ 1000000 → (∀ d ∈ items, ∃ ds1, bindP h p d (wipeD ds own) = some ds1 ∧ m ds1 h = .ok (f d) h) →
    lcR chk p own (fun _ h => .ok true h) m ds items acc h = .ok (acc ++ items.map f) h
  | [], acc, _, _ => by simp [hc]
  | d :: r, acc, hl, hi => by
    obtain ⟨ds1, e1, e2⟩ := hi d (by simp)
    have ih := lcR_map f hc r (acc ++ [f d]) (by simp at hl ⊢; omega) fun d hd => hi d (by simp [hd])
    have : acc.length < 1000000 := by simp at hl; omega
    simp [hc, e1, e2, this, ih]
/-! ### what LayH brings -/
section
variable (h : Hc) (i j : Int) (xs : List D) (ds : Sl)
@[simp] theorem iEnu_s (as : SA) : iEnu as ds h = (as ds h).bd enF := Eq.trans rfl rfl
@[simp] theorem enF_tup : enF [.tup xs] h = .ok ⟨enumD 0 xs, chkQ (.tup xs) xs⟩ h := Eq.trans rfl rfl
@[simp] theorem enF_lst : enF [.lst xs] h = .ok ⟨enumD 0 xs, chkQ (.lst xs) xs⟩ h := Eq.trans rfl rfl
@[simp] theorem enumD_nil (n : Nat) : enumD n [] = [] := by unfold enumD; rfl
@[simp] theorem enumD_cons (n : Nat) (x : D) (r : List D) : enumD n (x :: r) = .tup [.int n, x] :: enumD (n + 1) r := by conv => lhs; unfold enumD
@[simp] theorem allF_lst (bs : List Bool) : allF [.lst (bs.map D.bl)] h = .ok (.bl (bs.all id)) h := by simp [allF, lF]
end
/-! ### calls -/
theorem refsOf_flat : ∀ {as : List D}, flatL as = true → refsOf as = []
  | [], _ => rfl
  | d :: ds, hf => by
    simp at hf
    have := refsOf_flat hf.2
    cases d <;> first | exact this | simp at hf
theorem renL_flat {rs : List Nat} : ∀ {as : List D}, flatL as = true → renL rs as = some as
  | [], _ => rfl
  | d :: ds, hf => by
    simp at hf
    have h2 := renL_flat (rs := rs) hf.2
    have h1 : renD rs d = some d := by
      cases d <;> first | (unfold renD; simp [hf.1]; done) | (simp at hf; done)
    unfold renL
    rw [h1, h2]
theorem frzD_flat {rs : List Nat} {h : Hc} {n : Nat} {d : D} (hf : flat d = true) : frzD rs h n d = some d := by
  cases n <;> simp [frzD, hf]
/-- no cell is passed -/
theorem call_pure {m : Fn} {as : List D} {d0 d : D} {h' : Hc} (ha : flatL as = true) (hm : m as [] = .ok d0 h') (hd : frzD [] h' 8 d0 = some d) (h : Hc) : callL m as h = .ok d h := by
  unfold callL
  rw [refsOf_flat ha, renL_flat ha]
  simp [cellsAt, hm, hd, wb]
theorem call_flat {m : Fn} {as : List D} {d : D} {h' : Hc} (ha : flatL as = true) (hm : m as [] = .ok d h') (hd : flat d = true) (h : Hc) : callL m as h = .ok d h := call_pure ha hm (frzD_flat hd) h
/-- a list that was made within is handed back -/
theorem frz_cell {rs : List Nat} {h : Hc} {n i : Nat} {xs : List D} (hi : rs.length ≤ i) (e : h[i]? = some (.lst xs)) (hf : flatL xs = true) : frzD rs h (n + 2) (.ref i) = some (.lst xs) := by
  have go : ∀ ys : List D, flatL ys = true → frzD.frzL (frzD rs h (n + 1)) ys = some ys := by
    intro ys
    induction ys with
    | nil => intro _; rfl
    | cons y ys ih =>
      intro hy
      simp at hy
      unfold frzD.frzL
      rw [frzD_flat hy.1, ih hy.2]
  unfold frzD
  simp only [flat_ref, Bool.false_eq_true, if_false]
  rw [if_neg (Nat.not_lt.mpr hi), e]
  simp only
  rw [go xs hf]; rfl
/-- the law's defs that draw: the second argument is the cell of the place -/
theorem call_spot {m : Fn} {R rest : List D} {i : Nat} {h h' : Hc} {k k' : Int} {d0 d : D} (hR : flatL R = true) (hr : flatL rest = true) (hi : h[i]? = some (.lst [.int k])) (hm : m (.lst R :: .ref 0 :: rest) [.lst [.int k]] = .ok d0 h') (h0 : h'[0]? = some (.lst [.int k']))
    (hd : ∀ j, frzD [j] h' 8 d0 = some d) : callL m (.lst R :: .ref i :: rest) h = .ok d (h.set i (.lst [.int k'])) := by
  have e1 : refsOf (.lst R :: .ref i :: rest) = [i] := by
    show refsOf (.ref i :: rest) = [i]
    unfold refsOf
    rw [refsOf_flat hr]; simp
  have e2 : renL [i] (.lst R :: .ref i :: rest) = some (.lst R :: .ref 0 :: rest) := by
    unfold renL
    have a1 : renD [i] (.lst R) = some (.lst R) := by unfold renD; simp [hR]
    have a2 : renL [i] (.ref i :: rest) = some (.ref 0 :: rest) := by
      unfold renL
      rw [renL_flat hr]
      have : renD [i] (.ref i) = some (.ref 0) := by unfold renD; simp [List.findIdx?_cons]
      rw [this]
    rw [a1, a2]
  obtain ⟨t, ht⟩ : ∃ t, h' = .lst [.int k'] :: t := by
    cases h' with
    | nil => simp at h0
    | cons c t => simp at h0; exact ⟨t, by rw [h0]⟩
  unfold callL
  rw [e1, e2]
  simp only [cellsAt, hi]
  simp only [List.all_cons, List.all_nil, flatC_lst, flatL_cons, flat_int, flatL_nil, Bool.and_true, Bool.and_self, if_true, hm, hd i]
  subst ht
  simp [wb]
/-- one cell is passed -/
theorem call_ref1 {m : Fn} {as as' : List D} {i : Nat} {c c' : C} {h h' : Hc} {d0 d : D} (hrefs : refsOf as = [i]) (hren : renL [i] as = some as') (hi : h[i]? = some c) (hc : flatC c = true) (hm : m as' [c] = .ok d0 h') (h0 : h'[0]? = some c')
    (hc2 : flatC c' = true) (hd : frzD [i] h' 8 d0 = some d) : callL m as h = .ok d (h.set i c') := by
  obtain ⟨t, ht⟩ : ∃ t, h' = c' :: t := by
    cases h' with
    | nil => simp at h0
    | cons x t => simp at h0; exact ⟨t, by rw [h0]⟩
  unfold callL
  rw [hrefs, hren]
  simp only [cellsAt, hi]
  simp only [List.all_cons, List.all_nil, hc, Bool.and_true, if_true, hm, hd]
  subst ht
  simp [wb, hc2]
/-! ### what LayX, LayY bring -/
section
variable (h h' : Hc) (ds ds' : Sl) (d v : D) (x : Str) (fs : List Str) (vs : List D) (m : SE) (as : SA) (a b : SS)
@[simp] theorem sRaise_s : sRaise x fs as ds h = sBd (as ds h) ds fun vs h1 => if vs.length = fs.length then .ex x fs vs.reverse ds h1 else .bad := Eq.trans rfl rfl
theorem eTold_ok (e : m ds h = .ok v h') : eTold m ds h = .ok (.tup [.str "value", v]) h' := by unfold eTold; rw [e]
theorem eTold_ex (e : m ds h = .ex x fs vs h') (o : toldOk x fs vs.length = true) : eTold m ds h = .ok (.tup (.str x :: vs.reverse)) h' := by unfold eTold; rw [e]; simp [o]
end
end Mp
/-! LayV: name = {k: v for ..} on one line. -/
namespace Mp
open PySem PySem.Spec PyProof.Rows L2
section
variable {X : Cx} {W : WX}
/-- in each block of a comprehension -/
abbrev InBlk (X : Cx) (scope : Scope) (P : Cx → Prop) : Prop := ∀ (s : Shared) (H : Hp) (C : Addr) (cl : List (Str × Addr)) (fp : List Addr), P (X.blk s H scope (compEnvC scope cl C X.env) fp)
theorem ps_setDc {i : Nat} {y : Str} {py pos spos : Pos} {kx vx tg iter : Expr} {ifs : List Expr} {scope : Scope} {own : List (Str × Nat)} {wi : TI} {g : TG} {tt : TT} {tk tv : TE}
    (hc : X.calm = true) (nd : X.N.Nodup) (at_ : X.N[i]? = some y) (lo : X.env.scope.names.lookup y = some .local)
    (sw : swapsWith (.DictComp kx vx [⟨tg, iter, ifs, 0⟩] scope pos) (some (.Name y py)) spos.line X.env = pure true)
    (di : PI X tg iter wi) (bk : BlkOk X.N X.env.scope scope own)
    (hg : InBlk X scope fun B => PG B tg g) (ht : InBlk X scope fun B => PTs B ifs tt) (hk : InBlk X scope fun B => PE B kx tk) (hv : InBlk X scope fun B => PE B vx tv)
    (hs : ∀ x, foldedSetIterable iter X.env x = pure x := by intro _; rfl) :
    PS X (.Assign [.Name y py] (.DictComp kx vx [⟨tg, iter, ifs, 0⟩] scope pos) spos) (tAsg (tDc wi g tt tk tv (own.map (·.2))) (gName i)) := ⟨fun pins s σ H E I w => by
  rw [exec_Assign_Name_used _ _ _ _ sw]
  refine wpAny_bind (wpAny_standAt (wpAny_bind ?_))
  have w' : tDc wi g tt tk tv (own.map (·.2)) σ H (fun x H1 => gName i x σ H1 E.nx) := w
  show wpAny _ X.A (do let _ ← comprehension (.DictComp kx vx [⟨tg, iter, ifs, 0⟩] scope pos) scope X.env (firstIterPos [⟨tg, iter, ifs, 0⟩] pos) newDict false (eval iter X.env) (some (assign (.Name y py) X.env))) _ _ s
  have core := dc_core (Qf := fun _ s' => SP X pins E .next s') (pos' := firstIterPos [⟨tg, iter, ifs, 0⟩] pos) (pos := pos) (use := some (assign (.Name y py) X.env)) hc nd I di bk hg ht hk hv hs w' fun L C s' m H' J q ns fp => by
    show wpAny _ _ (assign (.Name y py) X.env (.ref L)) _ _ _
    refine wpAny_assign_Name (store_ok2 (v := V.ref L) J nd at_ (.inl lo) rfl (fun s2 J2 ⟨a, sb, ha⟩ => ?_) (.inr lo))
    obtain ⟨p0, p1, p2, p3, p4, p5⟩ := fp
    have ne : C ≠ a := ha.elim (fun z => by rw [z]; exact p1) fun z e => p4 y a z e.symm
    refine ⟨m, ns.sameBut sb ne, fun h3 sb3 => ⟨_, H', ?_, q⟩⟩
    exact J2.turned (t' := s2.toks) (fun b o hb e => (sb3.2 b hb).trans e) p0 p1 p3 p4 p5
  exact wpAny_bind (thn core fun _ s' z => wpAny_pure (wpAny_pure z))⟩
theorem swD_true {kx vx : Expr} {gs : List Comprehension} {scope : Scope} {pos py : Pos} {y : Str} {l : Nat} {env : Env} (hk : env.scope.kind = .function) (hy : env.scope.names.lookup y = some .local) (hl : (py.line == pos.line) = true)
    (ha : (scope.names.any fun (n, k) => n == y && (k == .local || k == .cell)) = false) : swapsWith (.DictComp kx vx gs scope pos) (some (.Name y py)) l env = pure true := by
  have k1 : env.kindOf y = some .local := hy
  have k2 : env.blockKind = .function := by unfold Env.blockKind; rw [hk]; rfl
  unfold swapsWith
  simp only [k2, k1, ha, Expr.pos, hl]
  rfl
theorem ds_setDc {i : Nat} {st : Stmt} {mi : SI} {p : Pt} {own : List Nat} {c : SB} {mk mv : SE} (ho : ∀ i ∈ p.slots, i ∈ own) (w : PS X st (tAsg (tDc (tI X W mi) (tP X.K p) (tT X W0 c) (tE X W0 mk) (tE X W0 mv) own) (gName i))) : DS X W st (sSet i (eDc mi p own c mk mv)) := ds_of w fun E σ H ⟨ω, h, ds, e1, r, s, q⟩ => by
  subst e1
  refine dcW (W := W) (fin := fun xs h => .ok (.dct xs.1 xs.2) h) ho dc_fz σ ω.H _ ⟨ω, h, ds, rfl, r, s, ?_⟩
  exact PostO.bd r s q fun d h1 v ω' e r1 rd s1 p1 => p1 _ ω' (Ext.refl _) r1 (s1.set i rd)
end
/-! a def under a second name of its module -/
def DefAs (K : PySem.W.Frag) (mg : Str → Option Value) (y x qual : Str) (st : Stmt) (ps : List Str) : Prop := ∃ (f : Addr) (fd : FuncData), mg y = some (.ref f) ∧ Fun K x qual st f fd ∧ Binds K fd ps []
section
variable {P : Program} {w : World} {K : PySem.W.Frag} {mg : Str → Option Value} {base : Heap} {y x qual : Str} {st : Stmt} {ps N : List Str} {k j : Nat} {m : SS}
end
end Mp
namespace Mp
open PySem PySem.Spec PyProof.Rows L2
/-! list(d) of a dict: its keys -/
def kD : Key → D
  | .inl i => .int i
  | .inr x => .str x
def listDF (xs : List D) (h : Hc) : R D := match xs with
  | [d] => match dctD h d with
    | some (ks, _) => .ok (.lst (ks.map kD)) h
    | none => .bad
  | _ => .bad
end Mp
/-! LayU: three sequences walked side by side, each a list or a tuple. -/
namespace Mp
open PySem PySem.Spec PyProof.Rows L2
/-- three sequences, their items in new triples -/
def ItT3 (t1 t2 t3 : Bool) (K : PySem.W.Frag) (a b c : Addr) : It where
  go i H := ∃ (xs ys zs : List V) (x y z : V), SqX t1 K H a xs ∧ SqX t2 K H b ys ∧ SqX t3 K H c zs ∧ xs[i]? = some x ∧ ys[i]? = some y ∧ zs[i]? = some z
  yld i H v H' := ∃ T x y z o, v = .ref T ∧ H T = none ∧ o.dict = none ∧ H' = upd H T (tuO o [x, y, z]) ∧ (∀ xs, SqX t1 K H a xs → xs[i]? = some x) ∧ (∀ ys, SqX t2 K H b ys → ys[i]? = some y) ∧ ∀ zs, SqX t3 K H c zs → zs[i]? = some z
  stop i H := ∃ xs ys zs : List V, SqX t1 K H a xs ∧ SqX t2 K H b ys ∧ SqX t3 K H c zs ∧ (xs.length ≤ i ∨ ys.length ≤ i ∨ zs.length ≤ i)
section
variable {prog : Program} {w : World} {A : Around}
end
/-- zip of three sequences -/
def iZpB3 (K : PySem.W.Frag) (ta : TA) : TI := fun σ H R => ta σ H fun vs H1 => ∃ t1 t2 t3 a b c xs ys zs, vs = [.ref a, .ref b, .ref c] ∧ SqX t1 K H1 a xs ∧ SqX t2 K H1 b ys ∧ SqX t3 K H1 c zs ∧ R (ItT3 t1 t2 t3 K a b c) H1
/-- the triples -/
def zipD3 : List D → List D → List D → List D
  | x :: xs, y :: ys, z :: zs => .tup [x, y, z] :: zipD3 xs ys zs
  | _, _, _ => []
def chkZ3 (d : D) (xs : List D) (e : D) (ys : List D) (f : D) (zs : List D) : Hc → Bool := fun h => chkQ d xs h && chkQ e ys h && chkQ f zs h
def zp3F (xs : List D) (h : Hc) : R ItD := match xs with
  | [d, e, f] => match seqD h d, seqD h e, seqD h f with
    | some us, some ws, some ts => .ok ⟨zipD3 us ws ts, chkZ3 d us e ws f ts⟩ h
    | _, _, _ => .bad
  | _ => .bad
def iZip3 (as : SA) : SI := fun ds h => (as ds h).bd zp3F
section
variable {K : PySem.W.Frag} {ω : Wo} {h : Hc} {d e f : D}
end
section
variable {X : Cx} {W : WX} {e : Expr} {as : SA}
end
end Mp
/-! LayT: x in a list, the items data of any depth. -/
namespace Mp
open PySem PySem.Spec PyProof.Rows L2
def inZ (neg : Bool) (x y : D) (h : Hc) : R D := if scalD x = true then inG neg x y h else match toPyR h x, toPyR h y with
  | some d, some (.list ds) => if SeqAt.shaped d = true ∧ SeqAt.shaped (.list ds) = true then .ok (.bl (if neg then !(ds.any fun z => PyData.eqv z d) else ds.any fun z => PyData.eqv z d)) h else .bad
  | _, _ => .bad
def rInZ (K : PySem.W.Frag) (neg : Bool) : R2 := fun x y H Q => rInA K neg x y H Q ∨ ∃ d ds, Dp K H x d ∧ Dp K H y (.list ds) ∧ SeqAt.shaped d = true ∧ SeqAt.shaped (.list ds) = true ∧ Q (.bl (if neg then !(ds.any fun z => PyData.eqv z d) else ds.any fun z => PyData.eqv z d)) H
section
variable {X : Cx}
end
end Mp
/-! LayR: max(xs, default=d), xs a list of ints. -/
namespace Mp
open PySem PySem.Spec PyProof.Rows L2
def rMaxD (K : PySem.W.Frag) : List V → List V → Hp → VK → Prop := fun vs zs H Q => ∃ (a : Addr) (ns : List Int) (z : V), vs = [V.ref a] ∧ zs = [z] ∧ SqL K H a (ns.map V.int) ∧ (ns = [] → Q z H) ∧ ∀ n r, ns = n :: r → Q (V.int (r.foldl max n)) H
section
variable {X : Cx}
def mxdF (x d : D) (h : Hc) : R D := match rdlD h x with
  | some ys => match intsD ys with
    | some [] => .ok d h
    | some (n :: r) => .ok (.int (r.foldl max n)) h
    | none => .bad
  | none => .bad
variable {W : WX} {e ed : Expr} {ma md : SE} {p pos kp : Pos}
end
end Mp
/-! LayM: sorted(xs, key=f), f a lambda over what the def around it holds. -/
namespace Mp
open PySem PySem.Spec PyProof.Rows L2
/-- what a key makes of an item, the heap as it was or longer -/
structure KeyCall (X : Cx) (σ : L2.St) (ω0 : Wo) (h : Hc) (f : Value) (pf : List (Addr × Obj)) (g : D → Option D) : Prop where
  run : ∀ (pins : List (Addr × Obj)) (s : Shared) (ω : Wo) (x : D) (v : V) (u : Value) (k : D), Ext ω0 ω → Rel X.K ω h → L2.Inv X pins σ ω.H s → (∀ p ∈ pf, p ∈ pins) → RelD X.K ω x v → RelV v u → g x = some k →
    wpAny (model X.prog X.w) X.A.in1.in1 (PySem.call f [u]) (EP X pins σ fun kv H' => ∃ ω', ω'.H = H' ∧ Ext ω ω' ∧ Rel X.K ω' h ∧ RelD X.K ω' k kv) (fun _ _ => False) s
/-- data of the layer as data of the library, no cells -/
inductive KeysOk (g : D → Option D) : List D → List D → List PyData → Prop
  | nil : KeysOk g [] [] []
  | cons {x k : D} {d : PyData} {xs ks : List D} {ds : List PyData} (e1 : g x = some k) (e2 : toPy k = some d) (r : KeysOk g xs ks ds) : KeysOk g (x :: xs) (k :: ks) (d :: ds)
/-- out, sorted by the keys -/
def byKeys (xs : List D) (ds : List PyData) : List D := ((xs.zip ds).mergeSort (PySem.W.dataLe false Prod.snd)).map (·.1)
end Mp
/-! LayN: sorted(xs, key=lambda y: body), the lambda over names of the def around it. -/
namespace Mp
open PySem PySem.Spec PyProof.Rows L2
/-- nothing is raised -/
abbrev E00 : XK := fun _ _ _ => False
/-- a def's own code object and its table -/
structure LamTab (K : PySem.W.Frag) (mg : Str → Option Value) (base : Heap) (x : Str) (c P : Addr) : Prop where
  tb : LamX.TabB base mg c P
  hm : (P, lamQual x) ∈ tabT K
def capD (ds : Sl) (j : Nat) : Option D := match ds[j]? with
  | some (some d) => if flat d = true then some d else none
  | _ => none
/-- the lambda's slots -/
def lamSl (n : Nat) (js : List Nat) (ds : Sl) (y : D) : Sl := some y :: (js.map (capD ds) ++ List.replicate (n - 1 - js.length) none)
def lamRun (n : Nat) (js : List Nat) (m : SE) (ds : Sl) (y : D) : Option D := if flat y = true then match m (lamSl n js ds y) [] with
  | .ok k [] => if flat k = true then some k else none
  | _ => none
  else none
abbrev lamNF (q : Str) (params : Arguments) (scope : Scope) (cl : List (Str × Addr)) (c' : Addr) : NdefX.NF := ⟨"<lambda>", q, params, [], scope, cl, c'⟩
abbrev klX (P : Program) (w : World) (K : PySem.W.Frag) (mg : Str → Option Value) (base : Heap) (N : List Str) (F : NdefX.NF) (f : Addr) (A : Around) (outer : List Env) (s : Shared) (H : Hp) : Cx := NdefX.ncx (L2.CX P w) P w K mg base N F f A outer s H E00
/-- what the lambda takes from the def around it is held there -/
structure FreeS (sc scope : Scope) : Prop where
  free : ∀ y ∈ scope.names, y.2 = NameKind.free → sc.names.lookup y.1 = some .cell ∨ sc.names.lookup y.1 = some .free
def freeSB (sc scope : Scope) : Bool := scope.names.all fun y => !decide (y.2 = NameKind.free) || decide (sc.names.lookup y.1 = some .cell) || decide (sc.names.lookup y.1 = some .free)
section
variable {X : Cx} {σ : L2.St} {ω0 : Wo} {h : Hc} {ds : Sl} {f c' : Addr} {pm ctv : Value} {k : Nat} {N fr : List Str} {js : List Nat} {p : Str} {params : Arguments} {body : Expr} {scope : Scope} {m : SE}
end
def keysL (g : D → Option D) : List D → Option (List D × List PyData)
  | [] => some ([], [])
  | x :: r => match g x with
    | some k => match toPy k, keysL g r with
      | some d, some (ks, ds) => some (k :: ks, d :: ds)
      | _, _ => none
    | none => none
def tupNE : PyData → Bool
  | .tuple (_ :: _) => true
  | _ => false
def plainK : PyData → Bool
  | .none => false
  | .tuple _ => false
  | _ => true
/-- these can be sorted -/
def sortB (ds : List PyData) : Bool := ds.all (fun d => ds.all fun e => PySem.W.alike d e) && (ds.all tupNE || ds.all plainK) && ds.all fun d => decide (d.depth ≤ 50)
def eSortL (ma : SE) (n : Nat) (js : List Nat) (m : SE) : SE := fun ds h => (ma ds h).bd fun x h1 => match rdlD h1 x with
  | some xs => match keysL (lamRun n js m ds) xs with
    | some (_, pds) => if sortB pds = true then .ok (.lst (byKeys xs pds)) h1 else .bad
    | none => .bad
  | none => .bad
section
variable {X : Cx} {W : WX} {k : Nat} {N fr : List Str} {js : List Nat} {x0 p : Str} {c P : Addr} {params : Arguments} {body e : Expr} {scope : Scope} {ma m : SE} {p1 lpos kp pos : Pos}
end
theorem tabIn_none {K : PySem.W.Frag} {x : Str} (h : PySem.W.nsIn K mainGlobals x = some none) : PySem.W.tabIn K x = none := by
  unfold PySem.W.tabIn
  rw [h]
theorem lam_two {A : Str → Prop} (h1 : A "_masks") (h2 : A "purchases") : ∀ x ∈ lamNames, A x := fun x hx => by
  rcases List.mem_cons.mp hx with z | z
  · rw [z]; exact h1
  · rw [List.mem_singleton.mp z]; exact h2
end Mp
/-! LayP: sorted(xs), the items data of one kind. -/
namespace Mp
open PySem PySem.Spec PyProof.Rows L2
def rSortZ (K : PySem.W.Frag) : List V → Hp → VK → Prop := fun vs H Q => ∃ (a : Addr) (xs : List V) (ds : List PyData), vs = [.ref a] ∧ SqL K H a xs ∧ DpAll K H xs ds ∧ PySem.W.AllAlike ds ∧ PySem.W.Sortable ds ∧ (∀ d ∈ ds, d.depth ≤ 50) ∧
  ∀ p, H p = none → Q (.ref p) (upd H p (.lst (((xs.zip ds).mergeSort (PySem.W.dataLe false Prod.snd)).map (·.1))))
def sortZF (xs : List D) (h : Hc) : R D := match xs with
  | [d] => match rdlD h d with
    | some ys => match toPyL ys with
      | some pds => if sortB pds = true then .ok (.lst (byKeys ys pds)) h else .bad
      | none => .bad
    | none => .bad
  | _ => .bad
end Mp
/-! LayQ: starred members of a display. -/
namespace Mp
open PySem PySem.Spec PyProof.Rows L2
def aStar (m : SE) (as : SA) : SA := fun ds h => (m ds h).bd fun x h1 => match seqD h1 x with
  | some xs => (as ds h1).bd fun ys h2 => .ok (xs ++ ys) h2
  | none => .bad
section
variable {X : Cx} {W : WX} {e : Expr} {es : List Expr} {m : SE} {as : SA} {p : Pos}
end
end Mp
/-! LayO: < of any data of one kind. -/
namespace Mp
open PySem PySem.Spec PyProof.Rows L2
def rLtZ (K : PySem.W.Frag) : R2 := fun x y H Q => ∃ da db, Dp K H x da ∧ Dp K H y db ∧ PySem.W.alike da db = true ∧ da ≠ .none ∧ min da.depth db.depth ≤ 50 ∧ Q (.bl (PySem.W.dataLt da db)) H
def notNone : PyData → Bool
  | .none => false
  | _ => true
def ltZF (x y : D) (h : Hc) : R D := match toPyR h x, toPyR h y with
  | some a, some b => if (PySem.W.alike a b && notNone a && decide (min a.depth b.depth ≤ 50)) = true then .ok (.bl (PySem.W.dataLt a b)) h else .bad
  | _, _ => .bad
end Mp
/-! LayIn: x in (a tuple of any data). -/
namespace Mp
open PySem PySem.Spec PyProof.Rows L2
def inY (neg : Bool) (x y : D) (h : Hc) : R D := if scalD x = true then inG neg x y h else match toPyR h x, toPyR h y with
  | some d, some (.tuple ds) => if SeqAt.shaped d = true ∧ SeqAt.shaped (.tuple ds) = true then .ok (.bl (if neg then !(ds.any fun z => PyData.eqv z d) else ds.any fun z => PyData.eqv z d)) h else .bad
  | _, _ => .bad
def rInT (K : PySem.W.Frag) (neg : Bool) : R2 := fun x y H Q => ∃ d ds, Dp K H x d ∧ Dp K H y (.tuple ds) ∧ SeqAt.shaped d = true ∧ SeqAt.shaped (.tuple ds) = true ∧ Q (.bl (if neg then !(ds.any fun z => PyData.eqv z d) else ds.any fun z => PyData.eqv z d)) H
section
variable {X : Cx}
end
end Mp
/-! LayTd: dicts whose keys are tuples of ints; calls over the caller's cells. -/
namespace Mp
open PySem PySem.Spec PyProof.Rows L2
abbrev Kt := List Key
def intKs : List D → Option Kt
  | [] => some []
  | .int i :: r => (intKs r).map (Sum.inl i :: ·)
  | _ => none
def keyT : D → Option Kt
  | .tup (d :: ds) => intKs (d :: ds)
  | _ => none
def lkT : List Kt → List D → Kt → Option D
  | k :: ks, d :: ds, j => if k = j then some d else lkT ks ds j
  | _, _, _ => none
def hasT (ks : List Kt) (j : Kt) : Bool := ks.any fun k => decide (k = j)
def insT (ks : List Kt) (ds : List D) (j : Kt) (x : D) : List Kt × List D :=
  if hasT ks j = true then (ks, List.zipWith (fun k d => if k = j then x else d) ks ds) else (ks ++ [j], ds ++ [x])
section
variable {K : PySem.W.Frag} {ω ω' : Wo} {h h' : Hc} {d : D} {v : V}
end
section
variable {X : Cx} {W : WX} {K : PySem.W.Frag} {ω ω' : Wo} {h h' : Hc} {a b e o i : Expr} {m ma mb me mo mi : SE} {pos pos' : Pos} {d : D} {v : V}
def eDtt0 : SE := fun _ h => .ok (.ref h.length) (h ++ [.dtt [] []])
def dttD (h : Hc) : D → Option (List Kt × List D)
  | .ref i => match h[i]? with
    | some (.dtt ks ds) => some (ks, ds)
    | _ => none
  | _ => none
def dgtT (x y : D) (h : Hc) : R D := match dttD h x, keyT y with
  | some (ks, ds), some k => match lkT ks ds k with
    | some d => .ok d h
    | none => .bad
  | _, _ => .bad
def dinT (neg : Bool) (y x : D) (h : Hc) : R D := match dttD h x, keyT y with
  | some (ks, _), some k => .ok (.bl (if neg then !hasT ks k else hasT ks k)) h
  | _, _ => .bad
def putT (o i x : D) (h : Hc) : Option Hc := match o, keyT i with
  | .ref j, some k => match h[j]? with
    | some (.dtt ks ds) => if ks.length < lim then some (h.set j (.dtt (insT ks ds k x).1 (insT ks ds k x).2)) else none
    | _ => none
  | _, _ => none
/-! ### calls over the caller's cells -/
variable {es : List Expr} {as : SA} {m : Fn} {p : Pos} {x : Str} {ps : List Str} {k : Nat}
theorem dcG {m : Fn} (tk : Takes X W) (G : Good X.prog X.w X.K X.mg X.base x k ps m) (hr : Room k X.A) (hg : Gl X x) (hn : (e :: es).length = ps.length) (hl : ∀ ds h xs h', as ds h = .ok xs h' → xs.length = (e :: es).length) (ha : DA X W (e :: es) as)
    (hdb : (x == ("__debug__" : Str)) = false := by decide) (he : starEach (e :: es) X.env = (false, eval e X.env) :: starEach es X.env := by rfl) (hpl : (backTo pos (starEach es X.env)).any (·.1) = false := by rfl) : DE X W (.Call (.Name x p) (e :: es) [] pos) (eCallG m as) := by
  obtain ⟨f, fd, g, kp, b, _, F⟩ := G
  exact de_callG tk F hr hg g kp b hn hl ha hdb he hpl
end
/-! ### min(xs, default=d) -/
def rMinD (K : PySem.W.Frag) : List V → List V → Hp → VK → Prop := fun vs zs H Q => ∃ (a : Addr) (ns : List Int) (z : V), vs = [V.ref a] ∧ zs = [z] ∧ SqL K H a (ns.map V.int) ∧ (ns = [] → Q z H) ∧ ∀ n r, ns = n :: r → Q (V.int (r.foldl min n)) H
section
variable {X : Cx}
def mndF (x d : D) (h : Hc) : R D := match rdlD h x with
  | some ys => match intsD ys with
    | some [] => .ok d h
    | some (n :: r) => .ok (.int (r.foldl min n)) h
    | none => .bad
  | none => .bad
variable {W : WX} {e ed : Expr} {ma md : SE} {p pos kp : Pos}
end
end Mp
/-! LaySa: sets of ints: set(a list). -/
namespace Mp
open PySem PySem.Spec PyProof.Rows L2
/-- the set object that has just been made -/
abbrev nset (w : World) : Obj := { cls := .type "set", dict := none, data := .set #[] 0 (.fresh 0 0 (!w.params.followText "set-order")) }
section
variable {P : Program} {w : World} {A : Around} {E : Value → Shared → Prop} {s : Shared}
end
end Mp
/-! LaySb: a set's sorted list (any number of members). -/
namespace Mp
open PySem PySem.Spec PyProof.Rows L2
section
variable {P : Program} {w : World} {A : Around} {E : Value → Shared → Prop} {s : Shared}
end
section
variable {X : Cx}
def rSortedSetN (w : World) : List V → Hp → VK → Prop := fun vs H Q => ∃ (a : Addr) (S : Int → Bool) (n : Nat), vs = [V.ref a] ∧ H a = some (SetO w a S n) ∧ n ≤ lim ∧
  ∀ (ns : List Int) (p : Addr), ns.Pairwise (· < ·) → (∀ k : Int, k ∈ ns ↔ S k = true) → H p = none → Q (.ref p) (upd H p (.lst (ns.map V.int)))
/-- set(xs), xs a list of ints -/
def rSetL (w : World) (K : PySem.W.Frag) : List V → Hp → VK → Prop := fun vs H Q => ∃ (a : Addr) (ns : List Int), vs = [V.ref a] ∧ SqL K H a (ns.map V.int) ∧ ns.length < 1000 ∧
  ∀ (p : Addr) (n : Nat), n ≤ ns.length → H p = none → Q (.ref p) (upd H p (SetO w p (fun j => decide (j ∈ ns)) n))
end
end Mp
/-! LaySc: set comprehensions of ints with two clauses. -/
namespace Mp
open PySem PySem.Spec PyProof.Rows L2
section
variable {X : Cx}
end
section
variable {prog : Program} {w : World} {A : Around} {R : Result → Shared → Prop} {s : Shared} {elt tz0 iz0 tz1 iz1 : Expr} {ifsz0 ifsz1 : List Expr} {scope : Scope} {pos : Pos} {it acc : Value} {env : Env}

end
section
variable {X : Cx}
/-- what {elt for .. for ..}, elt an int, asks -/
def tSc2 (w : World) (wi : TI) (g : TG) (tt : TT) (wiz1 : TI) (gz1 : TG) (ttz1 : TT) (te : TE) (vs vsz1 : List Nat) : TE := fun σ H Q => wi σ H fun J Hz1 => ∀ D, Hz1 D = none → ∃ W : Nat → Nat → Hp → Prop, (∃ m, W 0 m (upd Hz1 D (SetO w D (fun _ => false) 0))) ∧ ∀ i m H, W i m H →
  (J.stop i H ∧ Q (.ref D) H) ∨ (J.go i H ∧ ∃ Nx : Hp → Prop, (∀ H', Nx H' → ∃ m', m' < m ∧ W (i + 1) m' H') ∧ ∀ x H', J.yld i H x H' → g x (wipe σ vs) H' fun σz2 Hz2 => wipe σz2 vs = wipe σ vs ∧ tt σz2 Hz2 fun b Hz3 =>
    if b = true then wiz1 σz2 Hz3 fun Jz1 Hz4 => ∃ Wz1 : Nat → Nat → Hp → Prop, (∃ m, Wz1 0 m Hz4) ∧ ∀ j k H, Wz1 j k H →
      (Jz1.stop j H ∧ Nx H) ∨ (Jz1.go j H ∧ ∃ Nxz1 : Hp → Prop, (∀ H', Nxz1 H' → ∃ k', k' < k ∧ Wz1 (j + 1) k' H') ∧ ∀ x H', Jz1.yld j H x H' → gz1 x (wipe σz2 vsz1) H' fun σz3 Hz5 => wipe σz3 vsz1 = wipe σz2 vsz1 ∧ ttz1 σz3 Hz5 fun b Hz6 =>
        if b = true then te σz3 Hz6 fun y Hz7 => ∃ (k : Int) (S : Int → Bool) (n : Nat), y = .int k ∧ Hz7 D = some (SetO w D S n) ∧ n + 1 < scanBound ∧ Nxz1 (upd Hz7 D (SetO w D (fun j => S j || decide (j = k)) (if S k = true then n else n + 1))) else Nxz1 Hz6)
    else Nx Hz3)
end
end Mp
/-! LaySd: sorted(set(a list of ints)), sorted({a | b for a in xs for b in ys}) over data. -/
namespace Mp
open PySem PySem.Spec PyProof.Rows L2
/-- a number put into a rising row, once -/
def insU (k : Int) : List Int → List Int
  | [] => [k]
  | a :: r => if k < a then k :: a :: r else if k = a then a :: r else a :: insU k r
def sdF (ns : List Int) : List Int := ns.foldr insU []
section
variable {X : Cx} {W : WX}
/-- sorted(set(xs)) -/
def ssF (xs : List D) (h : Hc) : R D := match xs with
  | [d] => match rdlD h d with
    | some ys => match intsD ys with
      | some ns => if ns.length < 1000 then .ok (.lst ((sdF ns).map .int)) h else .bad
      | none => .bad
    | none => .bad
  | _ => .bad
def eSS (m : SE) : SE := fun ds h => (m ds h).bd fun x h1 => ssF [x] h1
/-! ### two clauses -/
def prs2 (ns ms : List Int) : List Int := ns.flatMap fun a => ms.map fun b => Builtin.bitOr a b
def dl (l : List Int) : Nat := (sdF l).length
def tS2 (w : World) (K : PySem.W.Frag) (i j ia ib : Nat) : TE := fun σ H Q => ∃ la lb ns ms, σ[i]? = some (some (.ref la)) ∧ σ[j]? = some (some (.ref lb)) ∧ SqL K H la (ns.map V.int) ∧ SqL K H lb (ms.map V.int) ∧ dl (prs2 ns ms) < 2000 ∧ ia < σ.length ∧ ib < σ.length ∧
  ∀ D n, n < 2000 → H D = none → Q (.ref D) (upd H D (SetO w D (fun k => decide (k ∈ prs2 ns ms)) n))
/-- sorted({a | b for a in xs for b in ys}), xs and ys in slots -/
def eS2 (i j ia ib : Nat) : SE := fun ds h => match ds[i]?, ds[j]? with
  | some (some x), some (some y) => match rdlD h x, rdlD h y with
    | some xs, some ys => match intsD xs, intsD ys with
      | some ns, some ms => if dl (prs2 ns ms) < 2000 ∧ ia < ds.length ∧ ib < ds.length then .ok (.lst ((sdF (prs2 ns ms)).map .int)) h else .bad
      | _, _ => .bad
    | _, _ => .bad
  | _, _ => .bad
end
end Mp
/-! LaySe: sorted(xs, key=f), f a def of the module. -/
namespace Mp
open PySem PySem.Spec PyProof.Rows L2
/-- f's value at a flat datum, by its mirror over no cells -/
def defRun (m : Fn) (y : D) : Option D := if flat y = true then match m [y] [] with
  | .ok k [] => if flat k = true then some k else none
  | _ => none
  else none
section
variable {X : Cx} {σ : L2.St} {ω0 : Wo} {h : Hc} {f : Addr} {fd : FuncData} {k : Nat} {m : Fn} {ps : List Str}
end
def eSortD (ma : SE) (m : Fn) : SE := fun ds h => (ma ds h).bd fun x h1 => match rdlD h1 x with
  | some xs => match keysL (defRun m) xs with
    | some (_, pds) => if sortB pds = true then .ok (.lst (byKeys xs pds)) h1 else .bad
    | none => .bad
  | none => .bad
section
variable {X : Cx} {W : WX} {k : Nat} {x : Str} {ps : List Str} {m : Fn} {e : Expr} {ma : SE} {p1 p2 kp pos : Pos}
end
end Mp
/-! LaySf: sets of texts. -/
namespace Mp
open PySem PySem.Spec PyProof.Rows L2
def keyTx (e : Int × Value) : Str := match e.2 with | .str k _ => k | _ => Str.empty
def GoodTx (w : World) (e : Int × Value) : Prop := ∃ k tk, e.2 = Value.str k tk ∧ e.1 = hashStr w k

/-- the set of texts at a -/
def SetTx (w : World) (h : Heap) (a : Addr) (S : Str → Bool) (n : Nat) : Prop :=
  ∃ o es ep t, h.get? a = some o ∧ o.ExactSet ∧ o.data = .set es ep t ∧ (∀ e ∈ es.toList, GoodTx w e) ∧ (es.toList.map keyTx).Nodup ∧ (∀ k, S k = true ↔ k ∈ es.toList.map keyTx) ∧
    es.size < scanBound ∧ t.fits es.size = true ∧ es.size = n ∧ Ris t.place.toList ∧ (w.params.followText "set-order" = true ∨ t.led = true)

section
variable {P : Program} {w : World} {h h' : Heap} {a : Addr} {S : Str → Bool} {n : Nat}

end

section
variable {P : Program} {w : World} {A : Around} {E : Value → Shared → Prop} {s : Shared} {a : Addr} {S : Str → Bool} {n : Nat}
end
end Mp
/-! LaySg: set(a tuple of texts), sorted(it). -/
namespace Mp
open PySem PySem.Spec PyProof.Rows L2
section
variable {P : Program} {w : World} {A : Around} {E : Value → Shared → Prop} {s : Shared}
end
/-! ### as tracked things -/
def SetTO (w : World) (a : Addr) (S : Str → Bool) (n : Nat) : HO := .ext fun h => SetTx w h a S n
section
variable {X : Cx} {W : WX}
def rSetT (w : World) (K : PySem.W.Frag) : List V → Hp → VK → Prop := fun vs H Q => ∃ (a : Addr) (ns : List Str), vs = [V.ref a] ∧ SqT K H a (ns.map V.str) ∧ ns.length < 64 ∧
  ∀ (p : Addr) (n : Nat), n ≤ ns.length → H p = none → Q (.ref p) (upd H p (SetTO w p (fun j => decide (j ∈ ns)) n))
def rSortedSetT (w : World) : List V → Hp → VK → Prop := fun vs H Q => ∃ (a : Addr) (S : Str → Bool) (n : Nat), vs = [V.ref a] ∧ H a = some (SetTO w a S n) ∧ n < 64 ∧
  ∀ (ns : List Str) (p : Addr), sortedS ns = true → ns.Nodup → (∀ k, k ∈ ns ↔ S k = true) → H p = none → Q (.ref p) (upd H p (.lst (ns.map V.str)))
/-! ### as data -/
def udS : List Str → List Str
  | [] => []
  | w :: r => if w ∈ udS r then udS r else w :: udS r
def ssT (xs : List D) (h : Hc) : R D := match xs with
  | [.tup ds] => match strsD ds with
    | some ns => if ns.length < 64 then .ok (.lst ((isort leS (udS ns)).map .str)) h else .bad
    | none => .bad
  | _ => .bad
def eST (m : SE) : SE := fun ds h => (m ds h).bd fun x h1 => ssT [x] h1
end
end Mp
/-! LaySh: min(xs, key=f), f a def of the module. -/
namespace Mp
open PySem PySem.Spec PyProof.Rows L2
/-- the first of the best -/
def bestAt (ds : List PyData) : Nat → Nat
  | 0 => 0
  | j + 1 => if PySem.W.dataLt (ds.getD (j + 1) .none) (ds.getD (bestAt ds j) .none) = true then j + 1 else bestAt ds j
structure KeyCall1 (X : Cx) (σ : L2.St) (ω0 : Wo) (h : Hc) (f : Value) (g : D → Option D) : Prop where
  run : ∀ (pins : List (Addr × Obj)) (s : Shared) (ω : Wo) (x : D) (v : V) (u : Value) (k : D), Ext ω0 ω → Rel X.K ω h → L2.Inv X pins σ ω.H s → RelD X.K ω x v → RelV v u → g x = some k →
    wpAny (model X.prog X.w) X.A.in1 (PySem.call f [u]) (EP X pins σ fun kv H' => ∃ ω', ω'.H = H' ∧ Ext ω ω' ∧ Rel X.K ω' h ∧ RelD X.K ω' k kv) (fun _ _ => False) s
/-- behind the turn j: b the best so far -/
def MSt (X : Cx) (pins : List (Addr × Obj)) (σ : L2.St) (ω0 : Wo) (h : Hc) (It S l : Addr) (xs ks : List D) (j b : Nat) (vb kb : Value) (s : Shared) : Prop :=
  ∃ ω c, Ext ω0 ω ∧ Rel X.K ω h ∧ L2.Inv X pins σ ω.H s ∧ FpOk X pins ω.H It ∧ FpOk X pins ω.H S ∧ s.heap.IsListIter It l j ∧ s.heap.get? S = some { cls := .type "list", dict := none, data := .seq #[vb, kb] c, slots := #[] } ∧
    (∃ d v, xs[b]? = some d ∧ RelD X.K ω d v ∧ RelV v vb) ∧ ∃ d v, ks[b]? = some d ∧ RelD X.K ω d v ∧ RelV v kb
section
variable {X : Cx} {pins : List (Addr × Obj)} {σ : L2.St} {ω0 : Wo} {h : Hc} {It S l : Addr} {xs ks : List D} {ds : List PyData} {dl : D} {f : Addr} {g : D → Option D} {R : Result → Shared → Prop}
end
end Mp
/-! LaySi: min(xs, key=f), xs.extend(ys) over data. -/
namespace Mp
open PySem PySem.Spec PyProof.Rows L2
def eMinD (ma : SE) (m : Fn) : SE := fun ds h => (ma ds h).bd fun x h1 => match rdlD h1 x with
  | some xs => match keysL (defRun m) xs with
    | some (_, pds) => if sortB pds = true ∧ 0 < xs.length then (match xs[bestAt pds (xs.length - 1)]? with | some d => .ok d h1 | none => .bad) else .bad
    | none => .bad
  | none => .bad
section
variable {X : Cx} {W : WX} {k : Nat} {x : Str} {ps : List Str} {m : Fn} {e : Expr} {ma : SE} {p1 p2 kp pos : Pos}
/-! ### xs.extend(ys) -/
def extF (o : D) (xs : List D) (h : Hc) : R D := match o, xs with
  | .ref i, [.lst zs] => match h[i]? with
    | some (.lst ys) => if ys.length + zs.length < lim then .ok .non (h.set i (.lst (ys ++ zs))) else .bad
    | _ => .bad
  | _, _ => .bad
end
end Mp
/-! LayLt: list comprehensions with two clauses; the second source is a range or a tuple. -/
namespace Mp
open PySem PySem.Spec PyProof.Rows L2
section
variable {K : PySem.W.Frag} {ω ω' : Wo} {h h' : Hc} {ds : Sl} {σ : L2.St}
/-- a list at q that is not read as data -/
structure Hid (ω : Wo) (q : Addr) (vs : List V) : Prop where
  a : ω.A q
  b : ∀ i, i < ω.n → ω.β i ≠ q
  h : ω.H q = some (.lst vs)
end
/-- a source that stays as it is while one hidden list changes -/
def ItOkH (K : PySem.W.Frag) (ω : Wo) (it : ItD) (J : It) : Prop := ∀ (q : Addr) (us : List V), Hid ω q us → ∀ (i : Nat) (ω' : Wo) (h' : Hc), Ext (ω.drop q) (ω'.drop q) → Rel K ω' h' → it.chk h' = true →
  (∀ d, it.items[i]? = some d → J.go i ω'.H ∧ ∀ x H', J.yld i ω'.H x H' → H' = ω'.H ∧ RelD K ω' d x) ∧ (it.items[i]? = none → J.stop i ω'.H)
abbrev tIH (X : Cx) (W : WX) (m : SI) : TI := tOf X.K X.mg W (ItOkH X.K) m
abbrev DIH (X : Cx) (W : WX) (tg iter : Expr) (m : SI) : Prop := PI X tg iter (tIH X W m)
section
variable {K : PySem.W.Frag} {ω : Wo} {h : Hc}
end
/-- the items of a tuple -/
def iTup (m : SE) : SI := fun ds h => (m ds h).bd fun d h1 => match d with
  | .tup xs => .ok ⟨xs, fun _ => true⟩ h1
  | _ => .bad
section
variable {X : Cx} {W : WX} {tg e : Expr} {m : SE} {as : SA}
end
/-! ### the comprehension -/
def lcR2 (chk : Hc → Bool) (p : Pt) (own : List Nat) (mi1 : SI) (p1 : Pt) (own1 : List Nat) (c1 : SB) (m : SE) (ds : Sl) : List D → List D → Hc → R (List D)
  | [], acc, h => if chk h = true then .ok acc h else .bad
  | d :: r, acc, h => if chk h = true then (match bindP h p d (wipeD ds own) with
      | some ds1 => (mi1 ds1 h).nox.bd fun it1 h1 => (lcR it1.chk p1 own1 c1 m ds1 it1.items acc h1).bd fun acc' h' => lcR2 chk p own mi1 p1 own1 c1 m ds r acc' h'
      | none => .bad) else .bad
def eLt (mi : SI) (p : Pt) (own : List Nat) (mi1 : SI) (p1 : Pt) (own1 : List Nat) (c1 : SB) (m : SE) : SE := fun ds h => (mi ds h).bd fun it h1 => (lcR2 it.chk p own mi1 p1 own1 c1 m ds it.items [] h1).bd fun xs h2 => .ok (.lst xs) h2
abbrev cT : SB := fun _ h => .ok true h
section
variable {X : Cx} {W : WX} {tg iter tg1 iter1 elt : Expr} {ifs ifs1 : List Expr} {mi mi1 : SI} {p p1 : Pt} {own own1 : List Nat} {c1 : SB} {m : SE} {scope : Scope} {pos : Pos}
end
end Mp
/-! LayOb: objects of own classes: making, fields, methods. -/
namespace Mp
open PySem PySem.Spec PyProof.Rows L2
/-- ~x -/
def invF : D → Hc → R D
  | .int i, h => .ok (.int (Builtin.bitNot i)) h
  | _, _ => .bad
/-- a class of the text -/
structure ObC (K : PySem.W.Frag) (mg : Str → Option Value) (cls : Str) (Ca : Addr) : Prop where
  at_ : clsAt K cls = some Ca
  cl : Cls K Ca
  mg_ : mg cls = some (.ref Ca)
/-- one of its fields -/
def FldK (K : PySem.W.Frag) (mg : Str → Option Value) (cls f : Str) : Prop := ∃ Ca, ObC K mg cls Ca ∧ NoAttr K Ca f
/-- one of its methods -/
def MetAt (K : PySem.W.Frag) (mg : Str → Option Value) (cls m qual : Str) (st : Stmt) (ps : List Str) : Prop := ∃ (Ca f : Addr) (fd : FuncData), ObC K mg cls Ca ∧ Meth K Ca m f ∧ Fun K m qual st f fd ∧ Binds K fd ps []
/-- its __init__ -/
def IniAt (K : PySem.W.Frag) (mg : Str → Option Value) (cls qual : Str) (st : Stmt) (ps : List Str) : Prop := ∃ (Ca f : Addr) (fd : FuncData), ObC K mg cls Ca ∧ Mk K Ca f ∧ Fun K "__init__" qual st f fd ∧ Binds K fd ps []
def GoodM (P : Program) (w : World) (K : PySem.W.Frag) (mg : Str → Option Value) (base : Heap) (cls m : Str) (k : Nat) (ps : List Str) (fn : Fn) : Prop :=
  ∃ (Ca f : Addr) (fd : FuncData), ObC K mg cls Ca ∧ Meth K Ca m f ∧ Binds K fd ps [] ∧ FnOk P w K mg base (L2.CX P w) k f fd ps (spD K mg ps.length fn)
def GoodI (P : Program) (w : World) (K : PySem.W.Frag) (mg : Str → Option Value) (base : Heap) (cls : Str) (k : Nat) (ps : List Str) (fn : Fn) : Prop :=
  ∃ (Ca f : Addr) (fd : FuncData), ObC K mg cls Ca ∧ Mk K Ca f ∧ Binds K fd ps [] ∧ FnOk P w K mg base (L2.CX P w) k f fd ps (spD K mg ps.length fn)
section
variable {P : Program} {w : World} {K : PySem.W.Frag} {mg : Str → Option Value} {base : Heap} {cls x qual : Str} {st : Stmt} {ps N : List Str} {k j : Nat} {m : SS}
end
/-! ### the fields over data -/
def lkS : List Str → List D → Str → Option D
  | k :: ks, d :: ds, j => if k = j then some d else lkS ks ds j
  | _, _, _ => none
def insS : List Str → List D → Str → D → List Str × List D
  | k :: ks, d :: ds, j, x => if k = j then (k :: ks, x :: ds) else (k :: (insS ks ds j x).1, d :: (insS ks ds j x).2)
  | _, _, j, x => ([j], [x])
section
variable {K : PySem.W.Frag} {ω ω' : Wo} {h h' : Hc} {d : D} {v : V}
/-- the instance that a value is -/
def objD (h : Hc) (cls : Str) : D → Option (List Str × List D)
  | .ref i => match h[i]? with
    | some (.obj c fs ds) => if c = cls then some (fs, ds) else none
    | _ => none
  | _ => none
def fldF (cls f : Str) (x : D) (h : Hc) : R D := match objD h cls x with
  | some (fs, ds) => match lkS fs ds f with
    | some d => .ok d h
    | none => .bad
  | none => .bad
def putS (cls f : Str) (o x : D) (h : Hc) : Option Hc := match o with
  | .ref j => match objD h cls (.ref j) with
    | some (fs, ds) => if fs.length < 1000 then some (h.set j (.obj cls (insS fs ds f x).1 (insS fs ds f x).2)) else none
    | none => none
  | _ => none
end
def sFldS (cls f : Str) (me mo : SE) : SS := fun ds h => sBd (me ds h) ds fun x h1 => sBd (mo ds h1) ds fun o h2 => match putS cls f o x h2 with
  | some h3 => .nx ds h3
  | none => .bad
section
variable {X : Cx} {W : WX} {e o : Expr} {m me mo : SE} {f cls : Str} {pos pos' : Pos}
end
/-! ### methods -/
section
variable {X : Cx} {CX : CXT} {k : Nat} {f Ca : Addr} {fd : FuncData} {ps : List Str} {sp : Sp} {E : L2.St → XK} {x m : Str} {p pos apos : Pos} {e o : Expr} {es : List Expr} {ta : TE} {t : TA}
def tMethS (Ca : Addr) (m : Str) (sp : Sp) (E : L2.St → XK) (ta : TE) (t : TA) : TE := fun σ H Q => ta σ H fun x H1 => ∃ a dx fs, x = .ref a ∧ H1 a = some (.ins Ca dx fs) ∧ fs.lookup m = none ∧
  t σ H1 fun vs H2 => sp (x :: vs) H2 Q (E σ)
def tMakeS (Ca : Addr) (sp : Sp) (E : L2.St → XK) (t : TA) : TE := fun σ H Q => t σ H fun vs H1 => ∀ x dx, H1 x = none → H1 dx = none → dx ≠ x →
  sp (.ref x :: vs) (upd (upd H1 dx (.own x)) x (.ins Ca dx [])) (fun v H2 => v = .non ∧ Q (.ref x) H2) (E σ)
end
/-- o.m(..) -/
def eMeth (cls m : Str) (fn : Fn) (mo : SE) (as : SA) : SE := fun ds h => (mo ds h).bd fun x h1 => match objD h1 cls x with
  | some (fs, xs) => if (lkS fs xs m).isNone = true then (as ds h1).bd fun ys h2 => fn (x :: ys) h2 else .bad
  | none => .bad
/-- C(..) -/
def eMake (cls : Str) (fn : Fn) (as : SA) : SE := fun ds h => (as ds h).bd fun xs h1 => (fn (.ref h1.length :: xs) (h1 ++ [.obj cls [] []])).bd fun v h2 => if isN v = true then .ok (.ref h1.length) h2 else .bad
section
variable {X : Cx} {W : WX} {e o : Expr} {es : List Expr} {m me mo : SE} {as : SA} {mn cls x : Str} {p pos apos : Pos} {fn : Fn} {k : Nat} {ps : List Str}
end
end Mp
/-! LayMn: min(x, y) of any two alike data. -/
namespace Mp
open PySem PySem.Spec PyProof.Rows L2
section
variable {prog : Program} {w : World} {A : Around} {E : Value → Shared → Prop} {s : Shared}
end
def rMin2Z (K : PySem.W.Frag) : List V → Hp → VK → Prop := fun xs H Q => ∃ x y da db, xs = [x, y] ∧ Dp K H x da ∧ Dp K H y db ∧ PySem.W.AlikeAll [da, db] ∧ PyData.depthAll [da, db] ≤ 50 ∧ Q (if PySem.W.dataLt db da = true then y else x) H
def alike2 (a b : PyData) : Bool := (PySem.W.alike a a && PySem.W.alike a b) && (PySem.W.alike b a && PySem.W.alike b b) && (notNone a && notNone b)
def min2F (xs : List D) (h : Hc) : R D := match xs with
  | [x, y] => match toPyR h x, toPyR h y with
    | some a, some b => if (alike2 a b && decide (PyData.depthAll [a, b] ≤ 50)) = true then .ok (if PySem.W.dataLt b a = true then y else x) h else .bad
    | _, _ => .bad
  | _ => .bad
end Mp
/-! LayRg: range objects as values; d.get(k). -/
namespace Mp
open PySem PySem.Spec PyProof.Rows L2
def rRngA : List V → Hp → VK → Prop := fun vs H Q => (∃ j, vs = [V.int j] ∧ ∀ p, H p = none → Q (.ref p) (upd H p (.rng 0 j))) ∨ ∃ i j, vs = [V.int i, V.int j] ∧ ∀ p, H p = none → Q (.ref p) (upd H p (.rng i j))
def rangeC (xs : List D) (h : Hc) : R D := match xs with
  | [.int j] => .ok (.ref h.length) (h ++ [.rng 0 j])
  | [.int i, .int j] => .ok (.ref h.length) (h ++ [.rng i j])
  | _ => .bad
section
variable {K : PySem.W.Frag} {ω : Wo} {h : Hc} {d : D} {v : V}
def rngD (h : Hc) : D → Option (Int × Int)
  | .ref i => match h[i]? with
    | some (.rng lo hi) => some (lo, hi)
    | _ => none
  | _ => none
end
/-! ### walked -/
def rgOk2 (lo hi : Int) : Prop := -(2 ^ 62) ≤ lo ∧ lo < 2 ^ 62 ∧ -(2 ^ 62) ≤ hi ∧ hi < 2 ^ 62
instance (lo hi : Int) : Decidable (rgOk2 lo hi) := by unfold rgOk2; infer_instance
def iRngV (te : TE) : TI := fun σ H R => te σ H fun x H1 => ∃ a lo hi, x = .ref a ∧ H1 a = some (.rng lo hi) ∧ rgOk2 lo hi ∧ R (Itr lo (hi - lo).toNat) H1
def iRgV (m : SE) : SI := fun ds h => (m ds h).bd fun d h1 => match rngD h1 d with
  | some (lo, hi) => if rgOk2 lo hi then .ok ⟨upFrom lo (hi - lo).toNat, fun _ => true⟩ h1 else .bad
  | none => .bad
section
variable {X : Cx} {W : WX} {tg e o i : Expr} {m mo mk : SE} {apos cpos : Pos}
end
/-! ### list(range) -/
def rListRg : List V → Hp → VK → Prop := fun vs H Q => ∃ a lo hi, vs = [V.ref a] ∧ H a = some (.rng lo hi) ∧ rgOk2 lo hi ∧ (hi - lo).toNat ≤ 1000000 ∧ ∀ l, H l = none → Q (.ref l) (upd H l (.lst ((List.range (hi - lo).toNat).map fun (i : Nat) => V.int (lo + (i : Int)))))
def listRF (xs : List D) (h : Hc) : R D := match xs with
  | [d] => match rngD h d with
    | some (lo, hi) => if rgOk2 lo hi ∧ (hi - lo).toNat ≤ 1000000 then .ok (.lst (upFrom lo (hi - lo).toNat)) h else .bad
    | none => .bad
  | _ => .bad
/-! ### d.get(k) -/
def getF (x y : D) (h : Hc) : R D := match dctD h x, keyD y with
  | some (ks, ds), some k => .ok ((lkD ks ds k).getD .non) h
  | _, _ => .bad
def getT (x y : D) (h : Hc) : R D := match dttD h x, keyT y with
  | some (ks, ds), some k => .ok ((lkT ks ds k).getD .non) h
  | _, _ => .bad
def eGetK (mo mk : SE) : SE := fun ds h => (mo ds h).bd fun x h1 => if (dctD h1 x).isSome = true then (mk ds h1).bd fun y h2 => getF x y h2 else .bad
def eGetT (mo mk : SE) : SE := fun ds h => (mo ds h).bd fun x h1 => if (dttD h1 x).isSome = true then (mk ds h1).bd fun y h2 => getT x y h2 else .bad
section
variable {X : Cx} {W : WX} {e o i : Expr} {m mo mk : SE} {apos cpos : Pos}
end
end Mp
/-! LayLk: dicts that are walked (locked while a statement runs). -/
namespace Mp
open PySem PySem.Spec PyProof.Rows L2
def lockC : C → Option C
  | .dct ks ds => some (.lkd ks ds)
  | .dtt ks ds => some (.lkt ks ds)
  | _ => none
def unlkC : C → Option C
  | .lkd ks ds => some (.dct ks ds)
  | .lkt ks ds => some (.dtt ks ds)
  | _ => none
def unlk (i : Nat) (h : Hc) : Option Hc := match h[i]? with
  | some c => (unlkC c).map (h.set i ·)
  | none => none
def lkAt (m : SE) (ds : Sl) (h : Hc) : Option (Nat × C) := match m ds h with
  | .ok (.ref i) _ => match h[i]? with
    | some c => (lockC c).map (i, ·)
    | none => none
  | _ => none
def unlkO (i : Nat) : O → O
  | .nx ds h => match unlk i h with
    | some h2 => .nx ds h2
    | none => .bad
  | .rt d h => match unlk i h with
    | some h2 => .rt d h2
    | none => .bad
  | .bk ds h => match unlk i h with
    | some h2 => .bk ds h2
    | none => .bad
  | .ct ds h => match unlk i h with
    | some h2 => .ct ds h2
    | none => .bad
  | _ => .bad
/-- the statement b runs while the dict that m names is locked -/
def sLock (m : SE) (b : SS) : SS := fun ds h => match lkAt m ds h with
  | some (i, c) => unlkO i (b ds (h.set i c))
  | none => .bad
section
variable {K : PySem.W.Frag} {ω ω' : Wo} {h h' : Hc} {d : D} {v : V}
end
/-! ### the keys of a locked dict -/
def kyD : Key → D
  | .inl i => .int i
  | .inr x => .str x
def ktD (k : Kt) : D := .tup (k.map kyD)
/-- the first of the key is no text -/
def ktN : Kt → Bool
  | .inr _ :: _ => false
  | _ => true
def iKey (m : SE) : SI := fun ds h => (m ds h).bd fun d h1 => match d with
  | .ref i => match h1[i]? with
    | some (.lkd ks _) => .ok ⟨ks.map kyD, fun _ => true⟩ h1
    | some (.lkt ks _) => if ks.all ktN = true then .ok ⟨ks.map ktD, fun _ => true⟩ h1 else .bad
    | _ => .bad
  | _ => .bad
section
variable {K : PySem.W.Frag} {ω : Wo} {h : Hc}
end
/-! ### reading, locked or not -/
def dttL (h : Hc) : D → Option (List Kt × List D)
  | .ref i => match h[i]? with
    | some (.dtt ks ds) => some (ks, ds)
    | some (.lkt ks ds) => some (ks, ds)
    | _ => none
  | _ => none
section
variable {K : PySem.W.Frag} {ω : Wo} {h : Hc} {d : D} {v : V}
end
def dgtL (x y : D) (h : Hc) : R D := match dttL h x, keyT y with
  | some (ks, ds), some k => match lkT ks ds k with
    | some d => .ok d h
    | none => .bad
  | _, _ => .bad
/-! ### {k: v} with a tuple key -/
end Mp
/-! LayDt: dict comprehensions whose keys are tuples of ints; the dict is a cell. -/
namespace Mp
open PySem PySem.Spec PyProof.Rows L2
section
variable {X : Cx}
/-- {k: v for target in iter if ..}, keys tuples: D the new dict -/
def tDt (wi : TI) (g : TG) (tt : TT) (tk tv : TE) (vs : List Nat) : TE := fun σ H Q => wi σ H fun J H1 => ∀ Da, H1 Da = none → ∃ Wz : Nat → Nat → Hp → Prop, (∃ m, Wz 0 m (upd H1 Da (.dT []))) ∧ ∀ i m H, Wz i m H →
  (J.stop i H ∧ Q (.ref Da) H) ∨ (J.go i H ∧ ∃ Nx : Hp → Prop, (∀ Hz', Nx Hz' → ∃ mz', mz' < m ∧ Wz (i + 1) mz' Hz') ∧ ∀ x Hz', J.yld i H x Hz' → g x (wipe σ vs) Hz' fun σ2 H2 => wipe σ2 vs = wipe σ vs ∧ tt σ2 H2 fun b H3 =>
    if b = true then tk σ2 H3 fun y H4 => tv σ2 H4 fun z H5 => ∃ kvs k b, y = .ref b ∧ H5 b = some (.tup (k.map kV)) ∧ H5 Da = some (.dT kvs) ∧ kvs.length < sizeLine ∧ Nx (upd H5 Da (.dT (putK kvs k z))) else Nx H3)
end
section
variable {X : Cx} {W : WX} {tg iter kx vx : Expr} {ifs : List Expr} {mi : SI} {p : Pt} {own : List Nat} {c : SB} {mk mv : SE} {scope : Scope} {pos : Pos}
def dtR (chk : Hc → Bool) (p : Pt) (own : List Nat) (c : SB) (mk mv : SE) (ds : Sl) : List D → List Kt → List D → Hc → R (List Kt × List D)
  | [], ks, acc, h => if chk h = true then .ok (ks, acc) h else .bad
  | d :: r, ks, acc, h => if chk h = true then (match bindP h p d (wipeD ds own) with
      | some ds1 => (c ds1 h).nox.bd fun b h1 => if b = true then (mk ds1 h1).nox.bd fun y h2 => (mv ds1 h2).nox.bd fun z h3 => match keyT y with
          | some k => if ks.length < lim then dtR chk p own c mk mv ds r (insT ks acc k z).1 (insT ks acc k z).2 h3 else .bad
          | none => .bad
        else dtR chk p own c mk mv ds r ks acc h1
      | none => .bad) else .bad
def eDt (mi : SI) (p : Pt) (own : List Nat) (c : SB) (mk mv : SE) : SE := fun ds h => (mi ds h).bd fun it h1 => (dtR it.chk p own c mk mv ds it.items [] [] h1).bd fun xs h2 => .ok (.ref h2.length) (h2 ++ [.dtt xs.1 xs.2])
end
end Mp
/-! LayDs: {k: v}, k a tuple of ints. -/
namespace Mp
open PySem PySem.Spec PyProof.Rows L2
section
variable {X : Cx} {W : WX} {k v : Expr} {pos : Pos}
def tDs1 (trs : List (TE × TE)) : TE := fun σ H Q => ∀ p, H p = none → tPairs trs σ (upd H p (.dT [])) fun ps H2 => H2 p = some (.dT []) ∧ ∃ (kk : Kt) (b : Addr) (x : V), ps = [(.ref b, x)] ∧ H2 b = some (.tup (kk.map kV)) ∧ Q (.ref p) (upd H2 p (.dT [(kk, x)]))
def eDs1 (gk gv : Sl → Option D) : SE := fun ds h => match gk ds, gv ds with
  | some x, some y => match keyT x with
    | some kk => .ok (.ref h.length) (h ++ [.dtt [kk] [y]])
    | none => .bad
  | _, _ => .bad
end
end Mp
/-! LayBk: o.f op= n; xs.insert(i, x); d.setdefault(k, x); del xs[i:]; del xs[i]; del d[k]. -/
namespace Mp
open PySem PySem.Spec PyProof.Rows L2
/-! ### o.f += n -/
def sFldG (cls f : Str) (g : Int → Int → Int) (mo me : SE) : SS := fun ds h => sBd (mo ds h) ds fun o h1 => match fldF cls f o h1 with
  | .ok (.int i) _ => sBd (me ds h1) ds fun y h2 => match y with
    | .int j => match putS cls f o (.int (g i j)) h2 with
      | some h3 => .nx ds h3
      | none => .bad
    | _ => .bad
  | _ => .bad
section
variable {X : Cx} {W : WX} {e o : Expr} {me mo : SE} {f cls : Str} {pos tpos : Pos}
end
/-! ### xs.insert(i, y) -/
def insF (x : D) (as : List D) (h : Hc) : R D := match x, as with
  | .ref n, [.int i, y] => match h[n]? with
    | some (.lst xs) => if xs.length < lim ∧ 0 ≤ i ∧ i < 2 ^ 62 then .ok .non (h.set n (.lst (xs.take i.toNat ++ [y] ++ xs.drop i.toNat))) else .bad
    | _ => .bad
  | _, _ => .bad
def rIns : V → List V → Hp → VK → Prop := fun x vs H Q => ∃ (l : Addr) (xs : List V) (i : Int) (y : V), x = .ref l ∧ vs = [.int i, y] ∧ H l = some (.lst xs) ∧ xs.length < sizeLine ∧ 0 ≤ i ∧ i < 2 ^ 63 ∧ Q .non (upd H l (.lst (xs.take i.toNat ++ [y] ++ xs.drop i.toNat)))
/-! ### d.setdefault(k, y) -/
def rSetd (x : V) (vs : List V) (H : Hp) (Q : VK) : Prop := ∃ (d : Addr) (kvs : List (Key × V)) (k : Key) (y : V), x = .ref d ∧ vs = [kV k, y] ∧ H d = some (.dK kvs) ∧ kvs.length < sizeLine ∧ (∀ v, valV kvs k = some v → Q v H) ∧ (valV kvs k = none → Q y (upd H d (.dK (putK kvs k y))))
def sdfF (x : D) (as : List D) (h : Hc) : R D := match x, as with
  | .ref n, [kx, y] => match h[n]?, keyD kx with
    | some (.dct ks xs), some k => if ks.length < lim then (match lkD ks xs k with
      | some d => .ok d h
      | none => .ok y (h.set n (.dct (insD ks xs k y).1 (insD ks xs k y).2))) else .bad
    | _, _ => .bad
  | _, _ => .bad
/-! ### del xs[a:] -/
def selZ (a n : Int) (i : Nat) : Bool := if (1 : Int) > 0 then a ≤ i && i < n && (i - a) % 1 == 0 else n < i && i ≤ a && (a - i) % (-1) == 0
def cutZ (a n : Int) (xs : Array Value) : Array Value := (xs.toList.zipIdx.filterMap fun (x, k) => if selZ a n k then none else some x).toArray
section
variable {prog : Program} {w : World} {A : Around} {E : Value → Shared → Prop} {s : Shared}
end
section
variable {X : Cx}
def tDelCut (to tl : TE) : TS := fun E σ H => to σ H fun x H1 => tl σ H1 fun y H2 => ∃ (l : Addr) (xs : List V) (i : Int), x = .ref l ∧ y = .int i ∧ H2 l = some (.lst xs) ∧ 0 ≤ i ∧ i ≤ xs.length ∧ E.nx σ (upd H2 l (.lst (xs.take i.toNat)))
end
def sDelCut (mo ml : SE) : SS := fun ds h => sBd (mo ds h) ds fun x h1 => sBd (ml ds h1) ds fun y h2 => match x, y with
  | .ref n, .int i => match h2[n]? with
    | some (.lst xs) => if 0 ≤ i ∧ i ≤ xs.length then .nx ds (h2.set n (.lst (xs.take i.toNat))) else .bad
    | _ => .bad
  | _, _ => .bad
def sDelAt (mo ml : SE) : SS := fun ds h => sBd (mo ds h) ds fun x h1 => sBd (ml ds h1) ds fun y h2 => match x, y with
  | .ref n, .int i => match h2[n]? with
    | some (.lst xs) => if 0 ≤ i ∧ i < xs.length ∧ i < 2 ^ 62 then .nx ds (h2.set n (.lst (xs.eraseIdx i.toNat))) else .bad
    | _ => .bad
  | _, _ => .bad
section
variable {X : Cx} {W : WX} {o lo : Expr} {mo ml : SE} {p2 tpos pos : Pos}
end
end Mp
/-! LayIx: names.index(name) of a tuple of texts. -/
namespace Mp
open PySem PySem.Spec PyProof.Rows L2
/-- a tuple whose object has no dict -/
def tyT (K : PySem.W.Frag) (x : V) (H : Hp) : Prop := ∃ (p : Addr) (o : Obj) (l : List V), x = .ref p ∧ o.dict = none ∧ (H p = some (.frz o (.tup l)) ∨ K.lookup p = some o ∧ o.cls = .type "tuple")
section
variable {X : Cx}
theorem tyT_is {pins : List (Addr × Obj)} {σ : L2.St} {H : Hp} {s : Shared} {x : V} {v : Value} (I : Inv X pins σ H s) (r : RelV x v) (ty : tyT X.K x H) :
    s.TypeIs v "tuple" ∧ ∀ a, v = .ref a → ∃ ob, s.heap.get? a = some ob ∧ ob.dict = none := by
  obtain ⟨p, o, l, rfl, hd, hk | ⟨hk, hc⟩⟩ := ty
  · cases r
    obtain ⟨e, _, its, _, pl⟩ := (show ObjOk X.prog X.w H s.heap p (.frz o (.tup l)) from I.hok p _ hk)
    exact ⟨pl.typeIs, fun a ea => by cases ea; exact ⟨o, e, hd⟩⟩
  · cases r
    exact ⟨⟨o, I.kIn p o hk, hc⟩, fun a ea => by cases ea; exact ⟨o, I.kIn _ o hk, hd⟩⟩
def tBMT (K : PySem.W.Frag) (r : V → List V → Hp → VK → Prop) (to : TE) (t : TA) : TE := fun σ H Q => to σ H fun x H1 => tyT K x H1 ∧ t σ H1 fun xs H2 => r x xs H2 Q
variable {o e : Expr} {es : List Expr} {to : TE} {t : TA} {name : Str} {apos cpos : Pos} {id : String} {r : V → List V → Hp → VK → Prop}
theorem pe_bmT (pa : PlainAttrs "tuple") (slot : Slot "tuple" name id) (hty : typeOf (.builtin id) = pure (.type "method_descriptor")) (hm : MtR X id r) (ho : PE X o to) (ha : PA X (e :: es) t)
    (hbase : attributeBase o name X.env (eval o X.env) = eval o X.env := by rfl)
    (hfew : ((backTo cpos (starEach (e :: es) X.env)).all (fun x => !x.1) && (backToKw cpos (keywordEach [] X.env)).all (fun x => x.1.isSome)
      && decide ((e :: es).length + ([] : List Keyword).length + (if ([] : List Keyword).isEmpty then 0 else 1) < 30)) = true := by rfl)
    (hline : (apos.endLine == cpos.line) = true := by rfl) (hs : starEach (e :: es) X.env = (false, eval e X.env) :: starEach es X.env := by rfl) (hplain : (backTo cpos (starEach es X.env)).any (·.1) = false := by rfl) :
    PE X (.Call (.Attribute o name apos) (e :: es) [] cpos) (tBMT X.K r to t) := by
  refine ⟨fun pins s σ H Q I wish => ?_⟩
  refine wpAny_Call_method_late hbase hfew hline rfl (thn (ho.run pins s σ H _ I wish) fun v s1 ⟨x, H1, I1, rv, ty, g1⟩ => ?_)
  obtain ⟨z1, z2⟩ := tyT_is I1 rv ty
  refine ⟨"tuple", id, pa, slot, hty, z1, z2, ?_⟩
  have got := ha.run cpos pins s1 σ H1 _ I1 g1
  rw [hs] at got ⊢
  refine Calls.callWith_builtin (by show (false || (backTo cpos (starEach es X.env)).any (·.1)) = false; rw [hplain] <;> rfl) (Calls.evalArgs_plain ?_)
  exact thn got fun us s2 ⟨vs, H2, I2, rw', g2⟩ => hm pins s2 σ H2 x vs v us Q I2 rv rw' g2
end
/-- the texts of a row of texts -/
def txsD : List D → Option (List Str)
  | [] => some []
  | .str z :: r => (txsD r).map (z :: ·)
  | _ => none
theorem txsD_rel {K : PySem.W.Frag} {ω : Wo} : ∀ {ds : List D} {vs : List V} {zs : List Str}, txsD ds = some zs → RelL K ω ds vs → vs = zs.map V.str
  | [], vs, zs, e, x => by cases e; exact x.inv0
  | d :: ds, vs, zs, e, x => by
    obtain ⟨v, ws, rfl, e2, e3⟩ := x.inv
    cases d <;> simp [txsD] at e
    rename_i z
    obtain ⟨r, e4, rfl⟩ := e
    rw [rd_str e2, txsD_rel e4 e3]; rfl
theorem txsD_map : ∀ zs : List Str, txsD (zs.map D.str) = some zs
  | [] => rfl
  | z :: r => by show (txsD (r.map D.str)).map (z :: ·) = _; rw [txsD_map r]; rfl
def ixS : List Str → Str → Option Nat
  | [], _ => none
  | a :: r, z => if a = z then some 0 else (ixS r z).map (· + 1)
theorem ixS_spec : ∀ {l : List Str} {z : Str} {j : Nat}, ixS l z = some j → l[j]? = some z ∧ ∀ m, m < j → l[m]? ≠ some z
  | [], z, j, e => by cases e
  | a :: r, z, j, e => by
    unfold ixS at e
    split at e
    · rename_i h
      cases e
      exact ⟨by rw [h]; rfl, fun m hm => absurd hm (Nat.not_lt_zero _)⟩
    · rename_i h
      cases q : ixS r z with
      | none => rw [q] at e; cases e
      | some j' =>
        rw [q] at e
        cases e
        obtain ⟨h1, h2⟩ := ixS_spec q
        refine ⟨by simpa using h1, fun m hm => ?_⟩
        cases m with
        | zero => exact fun z' => h (by simpa using z')
        | succ m => simpa using h2 m (Nat.lt_of_succ_lt_succ hm)
def ixtF (x : D) (as : List D) (h : Hc) : R D := match x, as with
  | .tup ds, [.str z] => match txsD ds with
    | some l => (match ixS l z with
      | some j => .ok (.int (j : Nat)) h
      | none => .bad)
    | none => .bad
  | _, _ => .bad
def isNm : D → Bool
  | .tup ds => nmE ds
  | _ => false
/-- t.m(..), t a tuple -/
def eIx (f : D → List D → Hc → R D) (m : SE) (as : SA) : SE := fun ds h => (m ds h).bd fun x h1 => if isNm x = true then (as ds h1).bd fun xs h2 => f x xs h2 else .bad
section
variable {X : Cx} {W : WX} {e : Expr} {m : SE} {as : SA}
theorem de_ixt {T : String} {r : V → List V → Hp → VK → Prop} {f : D → List D → Hc → R D} (h : PE X e (tBMT X.K r (tE X W m) (tA X W as))) (hd : MtD X T r f) : DE X W e (eIx f m as) := de_of h fun σ H Q ⟨ω, h, ds, e1, r, s, p⟩ => by
  subst e1
  refine ⟨ω, h, ds, rfl, r, s, Post.bd (show Post X.K X.mg W σ ω _ Q ((m ds h).bd _) from p) fun x h1 v ω1 e1 r1 d1 p1 => ?_⟩
  obtain ⟨hk, p1⟩ := p1.if_
  refine ⟨?_, ω1, h1, ds, rfl, r1, monoS r e1 s, p1.bd fun xs h2 vs ω2 e2 r2 d2 p2 => hd W σ ω2 h2 x xs v vs Q r2 (mono r1 e2 _ _ d1) d2 p2⟩
  cases x <;> try (cases hk; done)
  rename_i xs
  unfold RelD at d1
  obtain ⟨p, vs, rfl, sq, rl⟩ := d1
  obtain ⟨o, z1, z2⟩ := sq.2.2 ((nm_rel rl).trans hk)
  exact ⟨p, o, vs, rfl, z1, z2⟩
theorem md_ixt : MtD X "tuple" (fun x xs H Q => ∃ p, ∃ ys : List Str, ∃ z j, x = .ref p ∧ xs = [.str z] ∧ SqT X.K H p (ys.map V.str) ∧ ys[j]? = some z ∧ (∀ m, m < j → ys[m]? ≠ some z) ∧ Q (.int (j : Nat)) H) ixtF := fun W σ ω h x xs v vs Q r rx ry p => by
  unfold ixtF at p
  split at p
  · rename_i ds z
    split at p
    · rename_i l q1
      split at p
      · rename_i j q2
        obtain ⟨a, us, e1, e2, e3⟩ := rd_tup rx
        obtain ⟨w, ws, rfl, e4, e5⟩ := ry.inv
        rw [e5.inv0, rd_str e4]
        obtain ⟨z1, z2⟩ := ixS_spec q2
        rw [txsD_rel q1 e3] at e2
        exact ⟨a, l, z, j, e1, rfl, e2, z1, z2, p.here r int_rd⟩
      · exact False.elim p
    · exact False.elim p
  · exact False.elim p
end
end Mp
namespace Mp
open PySem PySem.Spec PyProof.Rows L2
/-! ### mirrors: Pre -/
def m_law_numbers_l1 : SS :=
  (sSeq (sIf (bEx (eOp eqF (eVar 3) (eC (.int 0))))
          (fun ds h => .bk ds h)
          sNext)
        (sSeq (sDrop (eBM "list" appF (eVar 1) (aCons (eOp modF (eCB intF (aCons (eVar 3) aNil)) (eC (.int 997))) aNil)))
        (sSet 3 (eOp fdivF (eVar 3) (eC (.int 997))))))
def m_law_numbers_l2 : SS :=
  (sSeq (sSet 5 (eOp modF (eCB intF (aCons (eOp addF (eOp addF (eOp mulF (eVar 2) (eC (.int 48271))) (eOp mulF (eVar 4) (eC (.int 69621)))) (eC (.int 11))) aNil)) (eC (.int 2147483647))))
        (sDrop (eBM "list" appF (eVar 1) (aCons (eOp modF (eCB intF (aCons (eOp addF (eOp mulF (eVar 5) (eC (.int 16807))) (eVar 4)) aNil)) (eC (.int 2147483629))) aNil))))
def m_law_numbers_l3 : SS :=
  (sIf (bEx (eOp geF (eVar 2) (eOp powF (eC (.int 10)) (eC (.int 18)))))
      (sSeq (sSet 3 (eVar 2))
      (sFor (iRg1 (aCons (eC (.int 60)) aNil)) (.n 4)
        m_law_numbers_l1))
      (sFor (iRg1 (aCons (eC (.int 4)) aNil)) (.n 4)
        m_law_numbers_l2))
/-- _law_numbers: script 0, row 1, cell 2, left 3, k 4, mixed 5 -/
def m_law_numbers : Fn := runB 6
  (sSeq (sSet 1 (eCell aNil))
  (sSeq (sFor (iSeq (eSl slF (eVar 0) none (some (eC (.int 63))))) (.n 2)
    m_law_numbers_l3)
  (sSeq (sIf (bEx (eOp eqF (eCB lenF (aCons (eVar 1) aNil)) (eC (.int 0))))
    (sDrop (eBM "list" appF (eVar 1) (aCons (eC (.int 0)) aNil)))
    sNext)
  (sRet (eVar 1)))))
def m_law_gcd_l1 : SS :=
  (sSeq (sIf (bEx (eOp eqF (eVar 3) (eC (.int 0))))
      (fun ds h => .bk ds h)
      sNext)
    (sSeq (sSet 5 (eOp modF (eCB intF (aCons (eVar 2) aNil)) (eVar 3)))
    (sSeq (sSet 2 (eVar 3))
    (sSet 3 (eVar 5)))))
/-- _law_gcd: one 0, other 1, left 2, right 3, k 4, rest 5 -/
def m_law_gcd : Fn := runB 6
  (sSeq (sSet 2 (eIf (bEx (eOp geF (eVar 0) (eC (.int 0)))) (eVar 0) (eUn negF (eVar 0))))
  (sSeq (sSet 3 (eIf (bEx (eOp geF (eVar 1) (eC (.int 0)))) (eVar 1) (eUn negF (eVar 1))))
  (sSeq (sFor (iRg1 (aCons (eC (.int 20000)) aNil)) (.n 4)
    m_law_gcd_l1)
  (sRet (eVar 2)))))
/-- _law_red: n 0, d 1, common 2 -/
def m_law_red : Nat → Fn
  | 0 => fun _ _ => .bad
  | n + 1 => runB 3 (sSeq (sIf (bEx (eOp ltF (eVar 1) (eC (.int 0))))
    (sRet (eCall (m_law_red n) (aCons (eUn negF (eVar 0)) (aCons (eUn negF (eVar 1)) aNil))))
    sNext)
  (sSeq (sSet 2 (eCall m_law_gcd (aCons (eVar 0) (aCons (eVar 1) aNil))))
  (sSeq (sIf (bEx (eOp eqF (eVar 2) (eC (.int 0))))
    (sRet (eTup (aCons (eC (.int 0)) (aCons (eC (.int 1)) aNil))))
    sNext)
  (sRet (eTup (aCons (eOp fdivF (eVar 0) (eVar 2)) (aCons (eOp fdivF (eVar 1) (eVar 2)) aNil)))))))
/-- _law_draw: row 0, at 1, limit 2, mixed 3 -/
def m_law_draw : Fn := runB 4
  (sSeq (sIf (bEx (eOp ltF (eVar 1) (eCB lenF (aCons (eVar 0) aNil))))
    (sRet (eOp modF (eCB intF (aCons (eOp ixF (eVar 0) (eVar 1)) aNil)) (eVar 2)))
    sNext)
  (sSeq (sSet 3 (eOp modF (eCB intF (aCons (eOp addF (eOp addF (eOp mulF (eOp ixF (eVar 0) (eOp modF (eCB intF (aCons (eVar 1) aNil)) (eCB lenF (aCons (eVar 0) aNil)))) (eC (.int 40692))) (eOp mulF (eVar 1) (eC (.int 7919)))) (eC (.int 3))) aNil)) (eC (.int 2147483399))))
  (sRet (eOp modF (eCB intF (aCons (eOp modF (eCB intF (aCons (eOp addF (eOp mulF (eVar 3) (eC (.int 48271))) (eVar 1)) aNil)) (eC (.int 2147483647))) aNil)) (eVar 2)))))
/-- _law_take: row 0, spot 1, limit 2 -/
def m_law_take : Fn := runB 3
  (sSeq (sPut setF (eOp addF (eOp ixF (eVar 1) (eC (.int 0))) (eC (.int 1))) (eVar 1) (eC (.int 0)))
  (sRet (eCall m_law_draw (aCons (eVar 0) (aCons (eOp subF (eOp ixF (eVar 1) (eC (.int 0))) (eC (.int 1))) (aCons (eVar 2) aNil))))))
/-- _law_wide: row 0, spot 1, limit 2, first 3, second 4, third 5 -/
def m_law_wide : Fn := runB 6
  (sSeq (sSet 3 (eCall m_law_take (aCons (eVar 0) (aCons (eVar 1) (aCons (eC (.int 997)) aNil)))))
  (sSeq (sSet 4 (eCall m_law_take (aCons (eVar 0) (aCons (eVar 1) (aCons (eC (.int 997)) aNil)))))
  (sSeq (sSet 5 (eCall m_law_take (aCons (eVar 0) (aCons (eVar 1) (aCons (eC (.int 997)) aNil)))))
  (sRet (eOp modF (eCB intF (aCons (eOp addF (eOp addF (eOp mulF (eVar 3) (eC (.int 994009))) (eOp mulF (eVar 4) (eC (.int 997)))) (eVar 5)) aNil)) (eVar 2))))))
/-- _law_frac: row 0, spot 1, top 2, low 3 -/
def m_law_frac : Fn := runB 4
  (sSeq (sSet 2 (eIf (bEx (eOp eqF (eCall m_law_take (aCons (eVar 0) (aCons (eVar 1) (aCons (eC (.int 2)) aNil)))) (eC (.int 0)))) (eOp subF (eCall m_law_wide (aCons (eVar 0) (aCons (eVar 1) (aCons (eC (.int 2000001)) aNil)))) (eC (.int 1000000))) (eOp subF (eCall m_law_take (aCons (eVar 0) (aCons (eVar 1) (aCons (eC (.int 21)) aNil)))) (eC (.int 10)))))
  (sSeq (sSet 3 (eOp addF (eC (.int 1)) (eIf (bEx (eOp eqF (eCall m_law_take (aCons (eVar 0) (aCons (eVar 1) (aCons (eC (.int 2)) aNil)))) (eC (.int 0)))) (eCall m_law_wide (aCons (eVar 0) (aCons (eVar 1) (aCons (eC (.int 1000000)) aNil)))) (eCall m_law_take (aCons (eVar 0) (aCons (eVar 1) (aCons (eC (.int 12)) aNil)))))))
  (sRet (eCall (m_law_red 24) (aCons (eVar 2) (aCons (eVar 3) aNil))))))
def m_law_so_l1 (self : Fn) : SS :=
  (sIf (bNot (bTru (eCall self (aCons (eOp ixF (eVar 0) (eVar 2)) (aCons (eOp ixF (eVar 1) (eVar 2)) aNil)))))
        (sRet (eC (.bl false)))
        sNext)
/-- _law_so: found 0, meant 1, k 2 -/
def m_law_so : Nat → Fn
  | 0 => fun _ _ => .bad
  | n + 1 => runB 3 (sSeq (sIf (bEx (eOp isnF (eVar 1) (eC .non)))
    (sRet (eOp isnF (eVar 0) (eC .non)))
    sNext)
  (sSeq (sIf (bTru (eCB isF (aCons (eVar 1) (aCons (eC (.ty "tuple")) aNil))))
    (sSeq (sIf (bOr (bNot (bTru (eCB isF (aCons (eVar 0) (aCons (eC (.ty "tuple")) aNil))))) (bEx (eOp neF (eCB lenF (aCons (eVar 0) aNil)) (eCB lenF (aCons (eVar 1) aNil)))))
      (sRet (eC (.bl false)))
      sNext)
    (sSeq (sFor (iRg1 (aCons (eCB lenF (aCons (eVar 1) aNil)) aNil)) (.n 2)
      (m_law_so_l1 (m_law_so n)))
    (sRet (eC (.bl true)))))
    sNext)
  (sSeq (sIf (bOr (bTru (eCB isF (aCons (eVar 1) (aCons (eC (.ty "bool")) aNil)))) (bTru (eCB isF (aCons (eVar 0) (aCons (eC (.ty "bool")) aNil)))))
    (sRet (eAnd (eCB isF (aCons (eVar 1) (aCons (eC (.ty "bool")) aNil))) (eAnd (eCB isF (aCons (eVar 0) (aCons (eC (.ty "bool")) aNil))) (eOp eqF (eVar 0) (eVar 1)))))
    sNext)
  (sSeq (sIf (bTru (eCB isF (aCons (eVar 1) (aCons (eC (.ty "int")) aNil))))
    (sRet (eAnd (eCB isF (aCons (eVar 0) (aCons (eC (.ty "int")) aNil))) (eOp eqF (eVar 0) (eVar 1))))
    sNext)
  (sRet (eAnd (eCB isF (aCons (eVar 1) (aCons (eC (.ty "str")) aNil))) (eAnd (eCB isF (aCons (eVar 0) (aCons (eC (.ty "str")) aNil))) (eOp eqF (eVar 0) (eVar 1)))))))))
/-- _law_add: one 0, other 1 -/
def m_law_add : Fn := runB 2
  (sRet (eCall (m_law_red 24) (aCons (eOp addF (eOp mulF (eOp ixF (eVar 0) (eC (.int 0))) (eOp ixF (eVar 1) (eC (.int 1)))) (eOp mulF (eOp ixF (eVar 1) (eC (.int 0))) (eOp ixF (eVar 0) (eC (.int 1))))) (aCons (eOp mulF (eOp ixF (eVar 0) (eC (.int 1))) (eOp ixF (eVar 1) (eC (.int 1)))) aNil))))
/-- _law_sub: one 0, other 1 -/
def m_law_sub : Fn := runB 2
  (sRet (eCall (m_law_red 24) (aCons (eOp subF (eOp mulF (eOp ixF (eVar 0) (eC (.int 0))) (eOp ixF (eVar 1) (eC (.int 1)))) (eOp mulF (eOp ixF (eVar 1) (eC (.int 0))) (eOp ixF (eVar 0) (eC (.int 1))))) (aCons (eOp mulF (eOp ixF (eVar 0) (eC (.int 1))) (eOp ixF (eVar 1) (eC (.int 1)))) aNil))))
/-- _law_mul: one 0, other 1 -/
def m_law_mul : Fn := runB 2
  (sRet (eCall (m_law_red 24) (aCons (eOp mulF (eOp ixF (eVar 0) (eC (.int 0))) (eOp ixF (eVar 1) (eC (.int 0)))) (aCons (eOp mulF (eOp ixF (eVar 0) (eC (.int 1))) (eOp ixF (eVar 1) (eC (.int 1)))) aNil))))
def m_law_listed_c1 (self : Fn) : SE :=
  (eCall self (aCons (eVar 1) aNil))
/-- _law_listed: value 0, one 1 -/
def m_law_listed : Nat → Fn
  | 0 => fun _ _ => .bad
  | n + 1 => runB 2 (sSeq (sIf (bTru (eCB isF (aCons (eVar 0) (aCons (eC (.ty "tuple")) aNil))))
    (sRet (eLc (iSeq (eVar 0)) (.n 1) [1] (fun _ h => .ok true h) (m_law_listed_c1 (m_law_listed n))))
    sNext)
  (sRet (eVar 0)))
/-- _law_handed: row 0, spot 1, value 2 -/
def m_law_handed : Fn := runB 3
  (sRet (eIf (bEx (eOp eqF (eCall m_law_take (aCons (eVar 0) (aCons (eVar 1) (aCons (eC (.int 2)) aNil)))) (eC (.int 0)))) (eCall (m_law_listed 24) (aCons (eVar 2) aNil)) (eVar 2)))
/-- _law_div: one 0, other 1 -/
def m_law_div : Fn := runB 2
  (sRet (eCall (m_law_red 24) (aCons (eOp mulF (eOp ixF (eVar 0) (eC (.int 0))) (eOp ixF (eVar 1) (eC (.int 1)))) (aCons (eOp mulF (eOp ixF (eVar 0) (eC (.int 1))) (eOp ixF (eVar 1) (eC (.int 0)))) aNil))))
/-- _law_less: one 0, other 1 -/
def m_law_less : Fn := runB 2
  (sRet (eOp ltF (eOp mulF (eOp ixF (eVar 0) (eC (.int 0))) (eOp ixF (eVar 1) (eC (.int 1)))) (eOp mulF (eOp ixF (eVar 1) (eC (.int 0))) (eOp ixF (eVar 0) (eC (.int 1))))))
end Mp
namespace Mp
open PySem PySem.Spec PyProof.Rows L2
/-! ### mirrors: Quo -/
/-- lowest: n 0, d 1, common 2 -/
def m_lowest : Fn := runB 3
  (sSeq (sSet 2 (eCB gcdF (aCons (eVar 0) (aCons (eVar 1) aNil))))
  (sSeq (sIf (bEx (eOp ltF (eVar 1) (eC (.int 0))))
    (sSet 2 (eUn negF (eVar 2)))
    sNext)
  (sRet (eTup (aCons (eOp fdivF (eVar 0) (eVar 2)) (aCons (eOp fdivF (eVar 1) (eVar 2)) aNil))))))
/-- is_integer: x 0 -/
def m_is_integer : Fn := runB 1
  (sRet (eAnd (eCB isF (aCons (eVar 0) (aCons (eC (.ty "int")) aNil))) (eNot (eCB isF (aCons (eVar 0) (aCons (eC (.ty "bool")) aNil))))))
/-- reduced: n 0, d 1 -/
def m_reduced : Fn := runB 2
  (sSeq (sIf (bNot (bTru (eCall m_is_integer (aCons (eVar 0) aNil))))
    (sRaise "BadValue" ["at"] (aCons (eC (.int 0)) aNil))
    sNext)
  (sSeq (sIf (bOr (bNot (bTru (eCall m_is_integer (aCons (eVar 1) aNil)))) (bEx (eOp eqF (eVar 1) (eC (.int 0)))))
    (sRaise "BadValue" ["at"] (aCons (eC (.int 1)) aNil))
    sNext)
  (sRet (eCall m_lowest (aCons (eVar 0) (aCons (eVar 1) aNil))))))
/-- is_sequence: x 0 -/
def m_is_sequence : Fn := runB 1
  (sRet (eIs2 (eVar 0) "list" "tuple"))
/-- is_row: x 0, least 1, most 2 -/
def m_is_row : Fn := runB 3
  (sRet (eAnd (eCall m_is_sequence (aCons (eVar 0) aNil)) (eAnd (eOp leF (eVar 1) (eCB lenF (aCons (eVar 0) aNil))) (eOp leF (eCB lenF (aCons (eVar 0) aNil)) (eVar 2)))))
/-- is_fraction: x 0 -/
def m_is_fraction : Fn := runB 1
  (sSeq (sIf (bOr (bNot (bTru (eCall m_is_row (aCons (eVar 0) (aCons (eC (.int 2)) (aCons (eC (.int 2)) aNil)))))) (bOr (bNot (bTru (eCall m_is_integer (aCons (eOp ixF (eVar 0) (eC (.int 0))) aNil)))) (bNot (bTru (eCall m_is_integer (aCons (eOp ixF (eVar 0) (eC (.int 1))) aNil))))))
    (sRet (eC (.bl false)))
    sNext)
  (sRet (eAnd (eOp geF (eOp ixF (eVar 0) (eC (.int 1))) (eC (.int 1))) (eOp eqF (eCB gcdF (aCons (eOp ixF (eVar 0) (eC (.int 0))) (aCons (eOp ixF (eVar 0) (eC (.int 1))) aNil))) (eC (.int 1))))))
/-- _look: a 0, b 1 -/
def m_look : Fn := runB 2
  (sSeq (sIf (bNot (bTru (eCall m_is_fraction (aCons (eVar 0) aNil))))
    (sRaise "BadValue" ["at"] (aCons (eC (.int 0)) aNil))
    sNext)
  (sIf (bNot (bTru (eCall m_is_fraction (aCons (eVar 1) aNil))))
    (sRaise "BadValue" ["at"] (aCons (eC (.int 1)) aNil))
    sNext))
/-- plus: a 0, b 1 -/
def m_plus : Fn := runB 2
  (sSeq (sDrop (eCall m_look (aCons (eVar 0) (aCons (eVar 1) aNil))))
  (sRet (eCall m_lowest (aCons (eOp addF (eOp mulF (eOp ixF (eVar 0) (eC (.int 0))) (eOp ixF (eVar 1) (eC (.int 1)))) (eOp mulF (eOp ixF (eVar 1) (eC (.int 0))) (eOp ixF (eVar 0) (eC (.int 1))))) (aCons (eOp mulF (eOp ixF (eVar 0) (eC (.int 1))) (eOp ixF (eVar 1) (eC (.int 1)))) aNil)))))
/-- minus: a 0, b 1 -/
def m_minus : Fn := runB 2
  (sSeq (sDrop (eCall m_look (aCons (eVar 0) (aCons (eVar 1) aNil))))
  (sRet (eCall m_lowest (aCons (eOp subF (eOp mulF (eOp ixF (eVar 0) (eC (.int 0))) (eOp ixF (eVar 1) (eC (.int 1)))) (eOp mulF (eOp ixF (eVar 1) (eC (.int 0))) (eOp ixF (eVar 0) (eC (.int 1))))) (aCons (eOp mulF (eOp ixF (eVar 0) (eC (.int 1))) (eOp ixF (eVar 1) (eC (.int 1)))) aNil)))))
/-- times: a 0, b 1 -/
def m_times : Fn := runB 2
  (sSeq (sDrop (eCall m_look (aCons (eVar 0) (aCons (eVar 1) aNil))))
  (sRet (eCall m_lowest (aCons (eOp mulF (eOp ixF (eVar 0) (eC (.int 0))) (eOp ixF (eVar 1) (eC (.int 0)))) (aCons (eOp mulF (eOp ixF (eVar 0) (eC (.int 1))) (eOp ixF (eVar 1) (eC (.int 1)))) aNil)))))
/-- over: a 0, b 1 -/
def m_over : Fn := runB 2
  (sSeq (sDrop (eCall m_look (aCons (eVar 0) (aCons (eVar 1) aNil))))
  (sSeq (sIf (bEx (eOp eqF (eOp ixF (eVar 1) (eC (.int 0))) (eC (.int 0))))
    (sRaise "BadValue" ["at"] (aCons (eC (.int 1)) aNil))
    sNext)
  (sRet (eCall m_lowest (aCons (eOp mulF (eOp ixF (eVar 0) (eC (.int 0))) (eOp ixF (eVar 1) (eC (.int 1)))) (aCons (eOp mulF (eOp ixF (eVar 0) (eC (.int 1))) (eOp ixF (eVar 1) (eC (.int 0)))) aNil))))))
/-- less: a 0, b 1 -/
def m_less : Fn := runB 2
  (sSeq (sDrop (eCall m_look (aCons (eVar 0) (aCons (eVar 1) aNil))))
  (sRet (eOp ltF (eOp mulF (eOp ixF (eVar 0) (eC (.int 0))) (eOp ixF (eVar 1) (eC (.int 1)))) (eOp mulF (eOp ixF (eVar 1) (eC (.int 0))) (eOp ixF (eVar 0) (eC (.int 1)))))))
end Mp
namespace Mp
open PySem PySem.Spec PyProof.Rows L2
/-! ### mirrors: Age -/
/-- _law_pick: row 0, spot 1, things 2 -/
def m_law_pick : Fn := runB 3
  (sRet (eOp ixF (eVar 2) (eCall m_law_take (aCons (eVar 0) (aCons (eVar 1) (aCons (eCB lenF (aCons (eVar 2) aNil)) aNil))))))
def m_law_life_c1 : SE :=
  (eCall m_law_pick (aCons (eVar 0) (aCons (eVar 1) (aCons (eLst (aCons (eC (.int 0)) (aCons (eC (.int 0)) (aCons (eC (.int 1)) (aCons (eC (.int 1)) (aCons (eC (.int 2)) (aCons (eC (.int 3)) (aCons (eC (.int 9)) aNil)))))))) aNil))))
/-- _law_life: row 0, spot 1, made 2, k 3 -/
def m_law_life : Fn := runB 4
  (sSeq (sSet 2 (eLcC (iRg1 (aCons (eOp addF (eC (.int 1)) (eCall m_law_take (aCons (eVar 0) (aCons (eVar 1) (aCons (eC (.int 12)) aNil))))) aNil)) (.n 3) [3] (fun _ h => .ok true h) m_law_life_c1))
  (sSeq (sIf (bEx (eOp eqF (eOp ixF (eVar 2) (eOp subF (eCB lenF (aCons (eVar 2) aNil)) (eC (.int 1)))) (eC (.int 0))))
    (sPut setF (eOp addF (eC (.int 1)) (eCall m_law_take (aCons (eVar 0) (aCons (eVar 1) (aCons (eC (.int 4)) aNil))))) (eVar 2) (eOp subF (eCB lenF (aCons (eVar 2) aNil)) (eC (.int 1))))
    sNext)
  (sRet (eCB tupleF (aCons (eVar 2) aNil)))))
/-- is_within: x 0, low 1, high 2 -/
def m_is_within : Fn := runB 3
  (sRet (eAnd (eCall m_is_integer (aCons (eVar 0) aNil)) (eAnd (eOp leF (eVar 1) (eVar 0)) (eOp leF (eVar 0) (eVar 2)))))
def m_is_life_c1 : SE :=
  (eCall m_is_within (aCons (eVar 1) (aCons (eC (.int 0)) (aCons (eC (.int 9)) aNil))))
/-- is_life: life 0, weight 1 -/
def m_is_life : Fn := runB 2
  (sSeq (sIf (bNot (bTru (eCall m_is_row (aCons (eVar 0) (aCons (eC (.int 1)) (aCons (eC (.int 12)) aNil))))))
    (sRet (eC (.bl false)))
    sNext)
  (sSeq (sIf (bNot (bTru (eCB allF (aCons (eLc (iSeq (eVar 0)) (.n 1) [1] (fun _ h => .ok true h) m_is_life_c1) aNil))))
    (sRet (eC (.bl false)))
    sNext)
  (sRet (eOp geF (eOp ixF (eVar 0) (eUn negF (eC (.int 1)))) (eC (.int 1))))))
def m_used_days_c1 : SE :=
  (eOp mulF (eVar 3) (eCB minF (aCons (eOp addF (eVar 2) (eC (.int 1))) (aCons (eVar 1) aNil))))
/-- used_days: life 0, age 1, at 2, weight 3 -/
def m_used_days : Fn := runB 4
  (sRet (eCB sumA (aCons (eLc (iEnu (aCons (eVar 0) aNil)) (.t ((.n 2) :: ((.n 3) :: []))) [2, 3] (fun _ h => .ok true h) m_used_days_c1) aNil)))
/-- mean_life: life 0 -/
def m_mean_life : Fn := runB 1
  (sSeq (sIf (bNot (bTru (eCall m_is_life (aCons (eVar 0) aNil))))
    (sRaise "BadValue" ["at"] (aCons (eC (.int 0)) aNil))
    sNext)
  (sRet (eCall m_reduced (aCons (eCall m_used_days (aCons (eVar 0) (aCons (eCB lenF (aCons (eVar 0) aNil)) aNil))) (aCons (eCB sumA (aCons (eVar 0) aNil)) aNil)))))
/-- check_costs: life 0, plan 1, fail 2 -/
def m_check_costs : Fn := runB 3
  (sSeq (sIf (bNot (bTru (eCall m_is_life (aCons (eVar 0) aNil))))
    (sRaise "BadValue" ["at"] (aCons (eC (.int 0)) aNil))
    sNext)
  (sSeq (sIf (bNot (bTru (eCall m_is_within (aCons (eVar 1) (aCons (eC (.int 0)) (aCons (eC (.int 1000)) aNil))))))
    (sRaise "BadValue" ["at"] (aCons (eC (.int 1)) aNil))
    sNext)
  (sIf (bNot (bTru (eCall m_is_within (aCons (eVar 2) (aCons (eC (.int 0)) (aCons (eC (.int 1000)) aNil))))))
    (sRaise "BadValue" ["at"] (aCons (eC (.int 2)) aNil))
    sNext)))
/-- paid: life 0, plan 1, fail 2, age 3, ended 4 -/
def m_paid : Fn := runB 5
  (sSeq (sSet 4 (eCB sumA (aCons (eSl slF (eVar 0) none (some (eVar 3))) aNil)))
  (sRet (eOp addF (eOp mulF (eVar 2) (eVar 4)) (eOp mulF (eVar 1) (eOp subF (eCB sumA (aCons (eVar 0) aNil)) (eVar 4))))))
/-- cost_of_age: life 0, plan 1, fail 2, age 3 -/
def m_cost_of_age : Fn := runB 4
  (sRet (eCall m_reduced (aCons (eCall m_paid (aCons (eVar 0) (aCons (eVar 1) (aCons (eVar 2) (aCons (eVar 3) aNil))))) (aCons (eCall m_used_days (aCons (eVar 0) (aCons (eVar 3) aNil))) aNil))))
/-- age_cost: life 0, plan 1, fail 2, age 3 -/
def m_age_cost : Fn := runB 4
  (sSeq (sDrop (eCall m_check_costs (aCons (eVar 0) (aCons (eVar 1) (aCons (eVar 2) aNil)))))
  (sSeq (sIf (bNot (bTru (eCall m_is_within (aCons (eVar 3) (aCons (eC (.int 1)) (aCons (eCB lenF (aCons (eVar 0) aNil)) aNil))))))
    (sRaise "BadValue" ["at"] (aCons (eC (.int 3)) aNil))
    sNext)
  (sRet (eCall m_cost_of_age (aCons (eVar 0) (aCons (eVar 1) (aCons (eVar 2) (aCons (eVar 3) aNil))))))))
def m_law_age_cost_l1 : SS :=
  (sSeq (sSet 4 (eOp addF (eVar 4) (eOp mulF (eOp ixF (eVar 0) (eVar 6)) (eIf (bEx (eOp leF (eOp addF (eVar 6) (eC (.int 1))) (eVar 3))) (eVar 2) (eVar 1)))))
    (sSet 5 (eOp addF (eVar 5) (eOp mulF (eOp ixF (eVar 0) (eVar 6)) (eIf (bEx (eOp leF (eOp addF (eVar 6) (eC (.int 1))) (eVar 3))) (eOp addF (eVar 6) (eC (.int 1))) (eVar 3))))))
/-- _law_age_cost: life 0, plan 1, fail 2, age 3, cost 4, days 5, k 6 -/
def m_law_age_cost : Fn := runB 7
  (sSeq (sSet 4 (eC (.int 0)))
  (sSeq (sSet 5 (eC (.int 0)))
  (sSeq (sFor (iRg1 (aCons (eCB lenF (aCons (eVar 0) aNil)) aNil)) (.n 6)
    m_law_age_cost_l1)
  (sRet (eCall (m_law_red 24) (aCons (eVar 4) (aCons (eVar 5) aNil)))))))
end Mp
namespace Mp
open PySem PySem.Spec PyProof.Rows L2
/-! ### mirrors: Str -/
def m_law_letters_l1 : SS :=
  (sSet 3 (eOp addF (eVar 3) (eOp ixF (eC (.str "abcdefghijklmnopqrstuvwxyz")) (eCall m_law_take (aCons (eVar 0) (aCons (eVar 1) (aCons (eC (.int 26)) aNil)))))))
/-- _law_letters: row 0, spot 1, many 2, made 3, k 4 -/
def m_law_letters : Fn := runB 5
  (sSeq (sSet 3 (eC (.str "")))
  (sSeq (sFor (iRg1 (aCons (eVar 2) aNil)) (.n 4)
    m_law_letters_l1)
  (sRet (eVar 3))))
/-- _law_reserved:  -/
def m_law_reserved : Fn := runB 0
  (sRet (eLst (aCons (eC (.str "and")) (aCons (eC (.str "or")) (aCons (eC (.str "of")) (aCons (eC (.str "always")) (aCons (eC (.str "never")) aNil)))))))
def m_law_name_l1 : SS :=
  (sSeq (sIf (bAnd (bEx (eOp (inG true) (eVar 3) (eVar 2))) (bEx (eOp (inG true) (eVar 3) (eCall m_law_reserved aNil))))
      (fun ds h => .bk ds h)
      sNext)
    (sSeq (sSet 3 (eOp addF (eSl slF (eVar 3) none (some (eC (.int 7)))) (eOp ixF (eC (.str "abcdefghijklmnopqrstuvwxyz")) (eOp modF (eCB intF (aCons (eOp addF (eOp mulF (eVar 4) (eC (.int 7))) (eCB lenF (aCons (eVar 2) aNil))) aNil)) (eC (.int 26))))))
    (sIf (bEx (eOp gtF (eVar 4) (eC (.int 20))))
      (sSet 3 (eOp addF (eSl slF (eVar 3) (some (eC (.int 1))) none) (eC (.str "z"))))
      sNext)))
/-- _law_name: row 0, spot 1, used 2, made 3, k 4 -/
def m_law_name : Fn := runB 5
  (sSeq (sSet 3 (eCall m_law_letters (aCons (eVar 0) (aCons (eVar 1) (aCons (eOp addF (eC (.int 1)) (eCall m_law_take (aCons (eVar 0) (aCons (eVar 1) (aCons (eIf (bEx (eOp gtF (eCall m_law_take (aCons (eVar 0) (aCons (eVar 1) (aCons (eC (.int 4)) aNil)))) (eC (.int 0)))) (eC (.int 2)) (eC (.int 8))) aNil))))) aNil)))))
  (sSeq (sFor (iRg1 (aCons (eC (.int 40)) aNil)) (.n 4)
    m_law_name_l1)
  (sSeq (sDrop (eBM "list" appF (eVar 2) (aCons (eVar 3) aNil)))
  (sRet (eVar 3)))))
def m_law_names_l1 : SS :=
  (sDrop (eCall m_law_name (aCons (eVar 0) (aCons (eVar 1) (aCons (eVar 3) aNil)))))
/-- _law_names: row 0, spot 1, many 2, used 3, k 4 -/
def m_law_names : Fn := runB 5
  (sSeq (sSet 3 (eCell aNil))
  (sSeq (sFor (iRg1 (aCons (eVar 2) aNil)) (.n 4)
    m_law_names_l1)
  (sRet (eCB sortF (aCons (eVar 3) aNil)))))
def m_law_tree_l1 (self : Fn) : SS :=
  (sDrop (eBM "list" appF (eVar 7) (aCons (eCall self (aCons (eVar 0) (aCons (eVar 1) (aCons (eVar 2) (aCons (eOp subF (eVar 3) (eC (.int 1))) (aCons (eIf (bEx (eOp gtF (eVar 3) (eC (.int 2)))) (eVar 4) (eC (.int 3))) aNil)))))) aNil)))
/-- _law_tree: row 0, spot 1, names 2, depth 3, most 4, kind 5, many 6, es 7, k 8 -/
def m_law_tree : Nat → Fn
  | 0 => fun _ _ => .bad
  | n + 1 => runB 9 (sSeq (sSet 5 (eCall m_law_take (aCons (eVar 0) (aCons (eVar 1) (aCons (eC (.int 10)) aNil)))))
  (sSeq (sIf (bOr (bEx (eOp leF (eVar 3) (eC (.int 1)))) (bEx (eOp leF (eVar 5) (eC (.int 2)))))
    (sSeq (sIf (bAnd (bEx (eOp eqF (eVar 5) (eC (.int 0)))) (bEx (eOp eqF (eCall m_law_take (aCons (eVar 0) (aCons (eVar 1) (aCons (eC (.int 3)) aNil)))) (eC (.int 0)))))
      (sRet (eIf (bEx (eOp eqF (eCall m_law_take (aCons (eVar 0) (aCons (eVar 1) (aCons (eC (.int 2)) aNil)))) (eC (.int 0)))) (eTup (aCons (eC (.str "all")) (aCons (eTup aNil) aNil))) (eTup (aCons (eC (.str "any")) (aCons (eTup aNil) aNil)))))
      sNext)
    (sRet (eTup (aCons (eC (.str "part")) (aCons (eCall m_law_pick (aCons (eVar 0) (aCons (eVar 1) (aCons (eVar 2) aNil)))) aNil)))))
    sNext)
  (sSeq (sSet 6 (eOp addF (eC (.int 2)) (eCall m_law_take (aCons (eVar 0) (aCons (eVar 1) (aCons (eOp subF (eVar 4) (eC (.int 1))) aNil))))))
  (sSeq (sIf (bEx (eOp geF (eVar 5) (eC (.int 7))))
    (sSet 6 (eOp addF (eC (.int 1)) (eCall m_law_take (aCons (eVar 0) (aCons (eVar 1) (aCons (eVar 4) aNil))))))
    sNext)
  (sSeq (sSet 7 (eCell aNil))
  (sSeq (sFor (iRg1 (aCons (eVar 6) aNil)) (.n 8)
    (m_law_tree_l1 (m_law_tree n)))
  (sSeq (sIf (bEx (eOp leF (eVar 5) (eC (.int 4))))
    (sRet (eTup (aCons (eC (.str "all")) (aCons (eCB tupleF (aCons (eVar 7) aNil)) aNil))))
    sNext)
  (sSeq (sIf (bEx (eOp leF (eVar 5) (eC (.int 6))))
    (sRet (eTup (aCons (eC (.str "any")) (aCons (eCB tupleF (aCons (eVar 7) aNil)) aNil))))
    sNext)
  (sRet (eTup (aCons (eC (.str "some")) (aCons (eOp addF (eC (.int 1)) (eCall m_law_take (aCons (eVar 0) (aCons (eVar 1) (aCons (eVar 6) aNil))))) (aCons (eCB tupleF (aCons (eVar 7) aNil)) aNil)))))))))))))
def m_law_flat_c1 : SE :=
  (eTup (aCons (eC (.str "part")) (aCons (eVar 6) aNil)))
def m_law_flat_l1 : SS :=
  (sIf (bEx (eOp eqF (eCall m_law_take (aCons (eVar 0) (aCons (eVar 1) (aCons (eC (.int 2)) aNil)))) (eC (.int 0))))
      (sDrop (eBM "list" appF (eVar 3) (aCons (eTup (aCons (eC (.str "part")) (aCons (eCall m_law_pick (aCons (eVar 0) (aCons (eVar 1) (aCons (eVar 2) aNil)))) aNil))) aNil)))
      sNext)
/-- _law_flat: row 0, spot 1, names 2, es 3, k 4, kind 5, name 6 -/
def m_law_flat : Fn := runB 7
  (sSeq (sSet 3 (eLcC (iSeq (eSl slF (eVar 2) none (some (eC (.int 8))))) (.n 6) [6] (fun _ h => .ok true h) m_law_flat_c1))
  (sSeq (sFor (iRg1 (aCons (eOp subF (eC (.int 8)) (eCB lenF (aCons (eVar 3) aNil))) aNil)) (.n 4)
    m_law_flat_l1)
  (sSeq (sIf (bEx (eOp ltF (eCB lenF (aCons (eVar 3) aNil)) (eC (.int 2))))
    (sRet (eTup (aCons (eC (.str "some")) (aCons (eC (.int 1)) (aCons (eCB tupleF (aCons (eVar 3) aNil)) aNil)))))
    sNext)
  (sSeq (sSet 5 (eCall m_law_take (aCons (eVar 0) (aCons (eVar 1) (aCons (eC (.int 4)) aNil)))))
  (sSeq (sIf (bEx (eOp eqF (eVar 5) (eC (.int 0))))
    (sRet (eTup (aCons (eC (.str "all")) (aCons (eCB tupleF (aCons (eVar 3) aNil)) aNil))))
    sNext)
  (sSeq (sIf (bEx (eOp eqF (eVar 5) (eC (.int 1))))
    (sRet (eTup (aCons (eC (.str "any")) (aCons (eCB tupleF (aCons (eVar 3) aNil)) aNil))))
    sNext)
  (sRet (eTup (aCons (eC (.str "some")) (aCons (eOp addF (eC (.int 1)) (eCall m_law_take (aCons (eVar 0) (aCons (eVar 1) (aCons (eCB lenF (aCons (eVar 3) aNil)) aNil))))) (aCons (eCB tupleF (aCons (eVar 3) aNil)) aNil)))))))))))
/-- _law_structure: row 0, spot 1, names 2, kind 3 -/
def m_law_structure : Fn := runB 4
  (sSeq (sSet 3 (eCall m_law_take (aCons (eVar 0) (aCons (eVar 1) (aCons (eC (.int 6)) aNil)))))
  (sSeq (sIf (bEx (eOp eqF (eVar 3) (eC (.int 0))))
    (sRet (eCall m_law_flat (aCons (eVar 0) (aCons (eVar 1) (aCons (eVar 2) aNil)))))
    sNext)
  (sSeq (sIf (bEx (eOp eqF (eVar 3) (eC (.int 1))))
    (sRet (eCall (m_law_tree 24) (aCons (eVar 0) (aCons (eVar 1) (aCons (eVar 2) (aCons (eC (.int 2)) (aCons (eC (.int 6)) aNil)))))))
    sNext)
  (sRet (eCall (m_law_tree 24) (aCons (eVar 0) (aCons (eVar 1) (aCons (eVar 2) (aCons (eOp addF (eC (.int 2)) (eCall m_law_take (aCons (eVar 0) (aCons (eVar 1) (aCons (eC (.int 3)) aNil))))) (aCons (eC (.int 3)) aNil))))))))))
def m_law_works_c1 (self : Fn) : SE :=
  (eVar 3)
def m_law_works_t1 (self : Fn) : SB :=
  (bTru (eCall self (aCons (eVar 3) (aCons (eVar 1) aNil))))
/-- _law_works: e 0, up 1, many 2, one 3 -/
def m_law_works : Nat → Fn
  | 0 => fun _ _ => .bad
  | n + 1 => runB 4 (sSeq (sIf (bEx (eOp eqF (eOp ixF (eVar 0) (eC (.int 0))) (eC (.str "part"))))
    (sRet (eOp (inG false) (eOp ixF (eVar 0) (eC (.int 1))) (eVar 1)))
    sNext)
  (sSeq (sSet 2 (eCB lenF (aCons (eLc (iSeq (eOp ixF (eVar 0) (eOp subF (eCB lenF (aCons (eVar 0) aNil)) (eC (.int 1))))) (.n 3) [3] (m_law_works_t1 (m_law_works n)) (m_law_works_c1 (m_law_works n))) aNil)))
  (sSeq (sIf (bEx (eOp eqF (eOp ixF (eVar 0) (eC (.int 0))) (eC (.str "all"))))
    (sRet (eOp eqF (eVar 2) (eCB lenF (aCons (eOp ixF (eVar 0) (eC (.int 1))) aNil))))
    sNext)
  (sSeq (sIf (bEx (eOp eqF (eOp ixF (eVar 0) (eC (.int 0))) (eC (.str "any"))))
    (sRet (eOp gtF (eVar 2) (eC (.int 0))))
    sNext)
  (sRet (eOp geF (eVar 2) (eOp ixF (eVar 0) (eC (.int 1)))))))))
def m_is_name_c1 : SE :=
  (eOp (inG false) (eVar 1) (eC (.str "abcdefghijklmnopqrstuvwxyz")))
/-- is_name: x 0, sign 1 -/
def m_is_name : Fn := runB 2
  (sSeq (sIf (bOr (bNot (bTru (eCB isF (aCons (eVar 0) (aCons (eC (.ty "str")) aNil))))) (bOr (bEx (eOp eqF (eCB lenF (aCons (eVar 0) aNil)) (eC (.int 0)))) (bOr (bEx (eOp gtF (eCB lenF (aCons (eVar 0) aNil)) (eC (.int 8)))) (bEx (eOp (inG false) (eVar 0) (eC (.tup [(.str "and"), (.str "or"), (.str "of"), (.str "always"), (.str "never")])))))))
    (sRet (eC (.bl false)))
    sNext)
  (sRet (eCB allF (aCons (eLc (iSgn (eVar 0)) (.n 1) [1] (fun _ h => .ok true h) m_is_name_c1) aNil))))
/-- _is_outline: e 0 -/
def m_is_outline : Fn := runB 1
  (sSeq (sIf (bOr (bNot (bTru (eCall m_is_sequence (aCons (eVar 0) aNil)))) (bOr (bEx (eOp ltF (eCB lenF (aCons (eVar 0) aNil)) (eC (.int 2)))) (bOr (bEx (eOp gtF (eCB lenF (aCons (eVar 0) aNil)) (eC (.int 3)))) (bNot (bTru (eCB isF (aCons (eOp ixF (eVar 0) (eC (.int 0))) (aCons (eC (.ty "str")) aNil))))))))
    (sRet (eC (.bl false)))
    sNext)
  (sSeq (sIf (bEx (eOp eqF (eCB lenF (aCons (eVar 0) aNil)) (eC (.int 3))))
    (sRet (eAnd (eOp eqF (eOp ixF (eVar 0) (eC (.int 0))) (eC (.str "some"))) (eAnd (eCall m_is_row (aCons (eOp ixF (eVar 0) (eC (.int 2))) (aCons (eC (.int 1)) (aCons (eC (.int 8)) aNil)))) (eCall m_is_within (aCons (eOp ixF (eVar 0) (eC (.int 1))) (aCons (eC (.int 1)) (aCons (eCB lenF (aCons (eOp ixF (eVar 0) (eC (.int 2))) aNil)) aNil)))))))
    sNext)
  (sSeq (sIf (bEx (eOp eqF (eOp ixF (eVar 0) (eC (.int 0))) (eC (.str "part"))))
    (sRet (eCall m_is_name (aCons (eOp ixF (eVar 0) (eC (.int 1))) aNil)))
    sNext)
  (sSeq (sIf (bAnd (bEx (eOp neF (eOp ixF (eVar 0) (eC (.int 0))) (eC (.str "all")))) (bEx (eOp neF (eOp ixF (eVar 0) (eC (.int 0))) (eC (.str "any")))))
    (sRet (eC (.bl false)))
    sNext)
  (sRet (eAnd (eCall m_is_row (aCons (eOp ixF (eVar 0) (eC (.int 1))) (aCons (eC (.int 0)) (aCons (eC (.int 8)) aNil)))) (eOp neF (eCB lenF (aCons (eOp ixF (eVar 0) (eC (.int 1))) aNil)) (eC (.int 1)))))))))
def m_is_structure_l1 : SS :=
  (sDrop (eBM "list" appF (eVar 3) (aCons (eTup (aCons (eVar 6) (aCons (eOp addF (eVar 5) (eC (.int 1))) aNil))) aNil)))
def m_is_structure_l2 : SS :=
  (sSeq (sAsg (.t ((.n 4) :: ((.n 5) :: []))) (eBM0 "list" popF (eVar 3)))
    (sSeq (sAug 2 addI (eC (.int 1)))
    (sSeq (sIf (bOr (bEx (eOp gtF (eVar 2) (eC (.int 60)))) (bOr (bEx (eOp gtF (eVar 5) (eC (.int 10)))) (bNot (bTru (eCall m_is_outline (aCons (eVar 4) aNil))))))
      (sRet (eC (.bl false)))
      sNext)
    (sIf (bEx (eOp eqF (eOp ixF (eVar 4) (eC (.int 0))) (eC (.str "part"))))
      (sSeq (sPut putF (eC (.bl true)) (eVar 1) (eOp ixF (eVar 4) (eC (.int 1))))
      (sIf (bEx (eOp gtF (eCB lenF (aCons (eVar 1) aNil)) (eC (.int 10))))
        (sRet (eC (.bl false)))
        sNext))
      (sFor (iSeq (eOp ixF (eVar 4) (eUn negF (eC (.int 1))))) (.n 6)
        m_is_structure_l1)))))
/-- is_structure: e 0, names 1, count 2, waiting 3, one 4, level 5, member 6 -/
def m_is_structure : Fn := runB 7
  (sSeq (sSet 1 eDct0)
  (sSeq (sSet 2 (eC (.int 0)))
  (sSeq (sSet 3 (eCell (aCons (eTup (aCons (eVar 0) (aCons (eC (.int 1)) aNil))) aNil)))
  (sSeq (wl (bTru (eVar 3))
    m_is_structure_l2 100000)
  (sRet (eC (.bl true)))))))
/-- _look: e 0 -/
def m_look_2 : Fn := runB 1
  (sIf (bNot (bTru (eCall m_is_structure (aCons (eVar 0) aNil))))
    (sRaise "BadValue" ["at"] (aCons (eC (.int 0)) aNil))
    sNext)
def m_names_in_l1 : SS :=
  (sDrop (eBM "list" appF (eVar 2) (aCons (eVar 4) aNil)))
def m_names_in_l2 : SS :=
  (sSeq (sSet 3 (eBM0 "list" popF (eVar 2)))
    (sIf (bEx (eOp eqF (eOp ixF (eVar 3) (eC (.int 0))) (eC (.str "part"))))
      (sPut putF (eC (.bl true)) (eVar 1) (eOp ixF (eVar 3) (eC (.int 1))))
      (sFor (iSeq (eOp ixF (eVar 3) (eUn negF (eC (.int 1))))) (.n 4)
        m_names_in_l1)))
/-- names_in: e 0, names 1, waiting 2, one 3, member 4 -/
def m_names_in : Fn := runB 5
  (sSeq (sSet 1 eDct0)
  (sSeq (sSet 2 (eCell (aCons (eVar 0) aNil)))
  (sSeq (wl (bTru (eVar 2))
    m_names_in_l2 100000)
  (sRet (eCB tupleF (aCons (eCB sortF (aCons (eVar 1) aNil)) aNil))))))
/-- parts: e 0 -/
def m_parts : Fn := runB 1
  (sSeq (sDrop (eCall m_look_2 (aCons (eVar 0) aNil)))
  (sRet (eCall m_names_in (aCons (eVar 0) aNil))))
def m_holds_c1 (self : Fn) : SE :=
  (eC (.int 1))
def m_holds_t1 (self : Fn) : SB :=
  (bTru (eCall self (aCons (eVar 3) (aCons (eVar 1) aNil))))
/-- holds: e 0, up 1, working 2, member 3 -/
def m_holds : Nat → Fn
  | 0 => fun _ _ => .bad
  | n + 1 => runB 4 (sSeq (sIf (bEx (eOp eqF (eOp ixF (eVar 0) (eC (.int 0))) (eC (.str "part"))))
    (sRet (eOp (inG false) (eOp ixF (eVar 0) (eC (.int 1))) (eVar 1)))
    sNext)
  (sSeq (sSet 2 (eCB sumA (aCons (eLc (iSeq (eOp ixF (eVar 0) (eUn negF (eC (.int 1))))) (.n 3) [3] (m_holds_t1 (m_holds n)) (m_holds_c1 (m_holds n))) aNil)))
  (sSeq (sIf (bEx (eOp eqF (eOp ixF (eVar 0) (eC (.int 0))) (eC (.str "all"))))
    (sRet (eOp eqF (eVar 2) (eCB lenF (aCons (eOp ixF (eVar 0) (eUn negF (eC (.int 1)))) aNil))))
    sNext)
  (sSeq (sIf (bEx (eOp eqF (eOp ixF (eVar 0) (eC (.int 0))) (eC (.str "any"))))
    (sRet (eOp gtF (eVar 2) (eC (.int 0))))
    sNext)
  (sRet (eOp geF (eVar 2) (eOp ixF (eVar 0) (eC (.int 1)))))))))
def m_works_c1 : SE :=
  (eCall m_is_name (aCons (eVar 2) aNil))
/-- works: e 0, up 1, name 2 -/
def m_works : Fn := runB 3
  (sSeq (sDrop (eCall m_look_2 (aCons (eVar 0) aNil)))
  (sSeq (sIf (bOr (bNot (bTru (eCall m_is_row (aCons (eVar 1) (aCons (eC (.int 0)) (aCons (eC (.int 30)) aNil)))))) (bNot (bTru (eCB allF (aCons (eLc (iSeq (eVar 1)) (.n 2) [2] (fun _ h => .ok true h) m_works_c1) aNil)))))
    (sRaise "BadValue" ["at"] (aCons (eC (.int 1)) aNil))
    sNext)
  (sRet (eCall (m_holds 24) (aCons (eVar 0) (aCons (eVar 1) aNil))))))
def m_law_parts_l1 (self : Fn) : SS :=
  (sIf (bEx (eOp (inG true) (eVar 3) (eVar 1)))
        (sDrop (eBM "list" appF (eVar 1) (aCons (eVar 3) aNil)))
        sNext)
def m_law_parts_l2 (self : Fn) : SS :=
  (sFor (iSeq (eCall self (aCons (eVar 2) aNil))) (.n 3)
      (m_law_parts_l1 self))
/-- _law_parts: e 0, made 1, one 2, name 3 -/
def m_law_parts : Nat → Fn
  | 0 => fun _ _ => .bad
  | n + 1 => runB 4 (sSeq (sIf (bEx (eOp eqF (eOp ixF (eVar 0) (eC (.int 0))) (eC (.str "part"))))
    (sRet (eLst (aCons (eOp ixF (eVar 0) (eC (.int 1))) aNil)))
    sNext)
  (sSeq (sSet 1 (eCell aNil))
  (sSeq (sFor (iSeq (eOp ixF (eVar 0) (eOp subF (eCB lenF (aCons (eVar 0) aNil)) (eC (.int 1))))) (.n 2)
    (m_law_parts_l2 (m_law_parts n)))
  (sRet (eCB sortF (aCons (eVar 1) aNil))))))
end Mp
namespace Mp
open PySem PySem.Spec PyProof.Rows L2
/-! ### mirrors: Set -/
def m_law_sets_c1 : SE :=
  (eOp addF (eVar 3) (eLst (aCons (eVar 2) aNil)))
def m_law_sets_l1 : SS :=
  (sSet 1 (eOp addF (eVar 1) (eLc (iSeq (eVar 1)) (.n 3) [3] (fun _ h => .ok true h) m_law_sets_c1)))
/-- _law_sets: names 0, made 1, name 2, one 3 -/
def m_law_sets : Fn := runB 4
  (sSeq (sSet 1 (eCell (aCons (eLst aNil) aNil)))
  (sSeq (sFor (iSeq (eVar 0)) (.n 2)
    m_law_sets_l1)
  (sRet (eVar 1))))
def m_law_others_c1 : SE :=
  (eVar 2)
def m_law_others_t1 : SB :=
  (bEx (eOp (inG true) (eVar 2) (eVar 1)))
/-- _law_others: names 0, some 1, name 2 -/
def m_law_others : Fn := runB 3
  (sRet (eLc (iSeq (eVar 0)) (.n 2) [2] m_law_others_t1 m_law_others_c1))
end Mp
namespace Mp
open PySem PySem.Spec PyProof.Rows L2
/-! ### mirrors: Tab -/
def m_enough_l1 : SS :=
  (sPut setF (eOp borF (eOp ixF (eVar 3) (eVar 5)) (eOp bandF (eOp ixF (eVar 3) (eOp subF (eVar 5) (eC (.int 1)))) (eVar 4))) (eVar 3) (eVar 5))
def m_enough_l2 : SS :=
  (sFor (iRg3 (aCons (eVar 1) (aCons (eC (.int 0)) (aCons (eUn negF (eC (.int 1))) aNil)))) (.n 5)
      m_enough_l1)
/-- enough: tables 0, least 1, whole 2, reached 3, one 4, j 5 -/
def m_enough : Fn := runB 6
  (sSeq (sSet 3 (eOp addC (eLst (aCons (eVar 2) aNil)) (eOp mulF (eLst (aCons (eC (.int 0)) aNil)) (eVar 1))))
  (sSeq (sFor (iSeq (eVar 0)) (.n 4)
    m_enough_l2)
  (sRet (eOp ixF (eVar 3) (eVar 1)))))
def m_joined_c1 (self : Fn) : SE :=
  (eCall self (aCons (eVar 6) (aCons (eVar 1) (aCons (eVar 2) aNil))))
def m_joined_l1 (self : Fn) : SS :=
  (sSet 4 (eOp bandF (eVar 4) (eVar 5)))
def m_joined_l2 (self : Fn) : SS :=
  (sSet 4 (eOp borF (eVar 4) (eVar 5)))
/-- joined: e 0, columns 1, whole 2, tables 3, told 4, one 5, member 6 -/
def m_joined : Nat → Fn
  | 0 => fun _ _ => .bad
  | n + 1 => runB 7 (sSeq (sIf (bEx (eOp eqF (eOp ixF (eVar 0) (eC (.int 0))) (eC (.str "part"))))
    (sRet (eOp dgF (eVar 1) (eOp ixF (eVar 0) (eC (.int 1)))))
    sNext)
  (sSeq (sSet 3 (eLc (iSeq (eOp ixF (eVar 0) (eUn negF (eC (.int 1))))) (.n 6) [6] (fun _ h => .ok true h) (m_joined_c1 (m_joined n))))
  (sSeq (sIf (bEx (eOp eqF (eOp ixF (eVar 0) (eC (.int 0))) (eC (.str "some"))))
    (sRet (eCall m_enough (aCons (eVar 3) (aCons (eOp ixF (eVar 0) (eC (.int 1))) (aCons (eVar 2) aNil)))))
    sNext)
  (sSeq (sIf (bEx (eOp eqF (eOp ixF (eVar 0) (eC (.int 0))) (eC (.str "all"))))
    (sSeq (sSet 4 (eVar 2))
    (sSeq (sFor (iSeq (eVar 3)) (.n 5)
      (m_joined_l1 (m_joined n)))
    (sRet (eVar 4))))
    sNext)
  (sSeq (sSet 4 (eC (.int 0)))
  (sSeq (sFor (iSeq (eVar 3)) (.n 5)
    (m_joined_l2 (m_joined n)))
  (sRet (eVar 4))))))))
/-- everywhere: count 0 -/
def m_everywhere : Fn := runB 1
  (sRet (eOp subF (eOp shlF (eC (.int 1)) (eOp shlF (eC (.int 1)) (eVar 0))) (eC (.int 1))))
/-- column: place 0, count 1, run 2 -/
def m_column : Fn := runB 3
  (sSeq (sSet 2 (eOp shlF (eC (.int 1)) (eVar 0)))
  (sRet (eOp shlF (eOp fdivF (eCall m_everywhere (aCons (eVar 1) aNil)) (eOp addF (eOp shlF (eC (.int 1)) (eVar 2)) (eC (.int 1)))) (eVar 2))))
def m_table_k1 : SE :=
  (eVar 5)
def m_table_v1 : SE :=
  (eCall m_column (aCons (eVar 4) (aCons (eVar 2) aNil)))
/-- table: e 0, names 1, count 2, columns 3, k 4, name 5 -/
def m_table : Fn := runB 6
  (sSeq (sSet 2 (eCB lenF (aCons (eVar 1) aNil)))
  (sSeq (sSet 3 (eDc (iEnu (aCons (eVar 1) aNil)) (.t ((.n 4) :: ((.n 5) :: []))) [4, 5] (fun _ h => .ok true h) m_table_k1 m_table_v1))
  (sRet (eCall (m_joined 24) (aCons (eVar 0) (aCons (eVar 3) (aCons (eCall m_everywhere (aCons (eVar 2) aNil)) aNil)))))))
end Mp
namespace Mp
open PySem PySem.Spec PyProof.Rows L2
/-! ### mirrors: Chn -/
def m_law_chain_c1 : SE :=
  (eCall m_law_pick (aCons (eVar 0) (aCons (eVar 1) (aCons (eLst (aCons (eC (.int 0)) (aCons (eC (.int 0)) (aCons (eC (.int 0)) (aCons (eC (.int 1)) (aCons (eC (.int 1)) (aCons (eC (.int 2)) (aCons (eC (.int 9)) aNil)))))))) aNil))))
def m_law_chain_l1 : SS :=
  (sSeq (sSet 6 (eLcC (iRg1 (aCons (eVar 3) aNil)) (.n 7) [7] (fun _ h => .ok true h) m_law_chain_c1))
    (sSeq (sIf (bEx (eOp eqF (eCB sumA (aCons (eVar 6) aNil)) (eC (.int 0))))
      (sPut setF (eOp addF (eC (.int 1)) (eCall m_law_take (aCons (eVar 0) (aCons (eVar 1) (aCons (eC (.int 4)) aNil))))) (eVar 6) (eCall m_law_take (aCons (eVar 0) (aCons (eVar 1) (aCons (eVar 3) aNil)))))
      sNext)
    (sDrop (eBM "list" appF (eVar 4) (aCons (eCB tupleF (aCons (eVar 6) aNil)) aNil)))))
/-- _law_chain: row 0, spot 1, most 2, many 3, made 4, s 5, weights 6, j 7 -/
def m_law_chain : Fn := runB 8
  (sSeq (sSet 3 (eOp addF (eC (.int 1)) (eCall m_law_take (aCons (eVar 0) (aCons (eVar 1) (aCons (eVar 2) aNil))))))
  (sSeq (sSet 4 (eCell aNil))
  (sSeq (sFor (iRg1 (aCons (eVar 3) aNil)) (.n 5)
    m_law_chain_l1)
  (sRet (eCB tupleF (aCons (eVar 4) aNil))))))
def m_sure_c1 : SE :=
  (eIf (bEx (eOp eqF (eVar 2) (eVar 1))) (eTup (aCons (eC (.int 1)) (aCons (eC (.int 1)) aNil))) (eTup (aCons (eC (.int 0)) (aCons (eC (.int 1)) aNil))))
/-- sure: many 0, at 1, k 2 -/
def m_sure : Fn := runB 3
  (sRet (eCB tupleF (aCons (eLc (iRg1 (aCons (eVar 0) aNil)) (.n 2) [2] (fun _ h => .ok true h) m_sure_c1) aNil)))
def m_is_weights_c1 : SE :=
  (eCall m_is_within (aCons (eVar 2) (aCons (eC (.int 0)) (aCons (eC (.int 9)) aNil))))
/-- is_weights: row 0, many 1, weight 2 -/
def m_is_weights : Fn := runB 3
  (sSeq (sIf (bNot (bTru (eCall m_is_row (aCons (eVar 0) (aCons (eVar 1) (aCons (eVar 1) aNil))))))
    (sRet (eC (.bl false)))
    sNext)
  (sRet (eAnd (eCB allF (aCons (eLc (iSeq (eVar 0)) (.n 2) [2] (fun _ h => .ok true h) m_is_weights_c1) aNil)) (eOp gtF (eCB sumA (aCons (eVar 0) aNil)) (eC (.int 0))))))
def m_is_chain_c1 : SE :=
  (eCall m_is_weights (aCons (eVar 1) (aCons (eCB lenF (aCons (eVar 0) aNil)) aNil)))
/-- is_chain: chain 0, row 1 -/
def m_is_chain : Fn := runB 2
  (sSeq (sIf (bNot (bTru (eCall m_is_row (aCons (eVar 0) (aCons (eC (.int 1)) (aCons (eC (.int 6)) aNil))))))
    (sRet (eC (.bl false)))
    sNext)
  (sRet (eCB allF (aCons (eLc (iSeq (eVar 0)) (.n 1) [1] (fun _ h => .ok true h) m_is_chain_c1) aNil))))
def m_common_bottom_l1 : SS :=
  (sSet 1 (eCB lcmF (aCons (eVar 1) (aCons (eVar 2) aNil))))
/-- common_bottom: bottoms 0, common 1, bottom 2 -/
def m_common_bottom : Fn := runB 3
  (sSeq (sSet 1 (eC (.int 1)))
  (sSeq (sFor (iSeq (eVar 0)) (.n 2)
    m_common_bottom_l1)
  (sRet (eVar 1))))
def m_lifted_c1 : SE :=
  (eOp mulF (eOp ixF (eVar 4) (eC (.int 1))) (eCB sumA (aCons (eVar 5) aNil)))
def m_lifted_c2 : SE :=
  (eOp mulF (eOp ixF (eVar 4) (eC (.int 0))) (eOp fdivF (eVar 3) (eVar 6)))
/-- lifted: rows 0, shares 1, bottoms 2, common 3, share 4, row 5, bottom 6 -/
def m_lifted : Fn := runB 7
  (sSeq (sSet 2 (eLc (iZip (aCons (eVar 1) (aCons (eVar 0) aNil))) (.t ((.n 4) :: ((.n 5) :: []))) [4, 5] (fun _ h => .ok true h) m_lifted_c1))
  (sSeq (sSet 3 (eCall m_common_bottom (aCons (eVar 2) aNil)))
  (sRet (eTup (aCons (eLc (iZip (aCons (eVar 1) (aCons (eVar 2) aNil))) (.t ((.n 4) :: ((.n 6) :: []))) [4, 6] (fun _ h => .ok true h) m_lifted_c2) (aCons (eVar 3) aNil))))))
def m_spread_c1 : SE :=
  (eOp mulF (eVar 7) (eOp ixF (eVar 8) (eVar 5)))
def m_spread_l1 : SS :=
  (sSeq (sSet 6 (eCB sumA (aCons (eLc (iZip (aCons (eVar 2) (aCons (eVar 0) aNil))) (.t ((.n 7) :: ((.n 8) :: []))) [7, 8] (fun _ h => .ok true h) m_spread_c1) aNil)))
    (sDrop (eBM "list" appF (eVar 4) (aCons (eCall m_reduced (aCons (eVar 6) (aCons (eVar 3) aNil))) aNil))))
/-- spread: rows 0, shares 1, factors 2, common 3, found 4, at 5, top 6, factor 7, row 8 -/
def m_spread : Fn := runB 9
  (sSeq (sAsg (.t ((.n 2) :: ((.n 3) :: []))) (eCall m_lifted (aCons (eVar 0) (aCons (eVar 1) aNil))))
  (sSeq (sSet 4 (eCell aNil))
  (sSeq (sFor (iRg1 (aCons (eCB lenF (aCons (eOp ixF (eVar 0) (eC (.int 0))) aNil)) aNil)) (.n 5)
    m_spread_l1)
  (sRet (eCB tupleF (aCons (eVar 4) aNil))))))
def m_law_shares_c1 : SE :=
  (eCall (m_law_red 24) (aCons (eVar 2) (aCons (eCB sumA (aCons (eOp ixF (eVar 0) (eVar 1)) aNil)) aNil)))
/-- _law_shares: chain 0, s 1, one 2 -/
def m_law_shares : Fn := runB 3
  (sRet (eLc (iSeq (eOp ixF (eVar 0) (eVar 1))) (.n 2) [2] (fun _ h => .ok true h) m_law_shares_c1))
end Mp
namespace Mp
open PySem PySem.Spec PyProof.Rows L2
/-! ### mirrors: Hid -/
def m_law_hidden_c1 : SE :=
  (eCall m_law_pick (aCons (eVar 0) (aCons (eVar 1) (aCons (eLst (aCons (eC (.int 0)) (aCons (eC (.int 1)) (aCons (eC (.int 1)) (aCons (eC (.int 2)) (aCons (eC (.int 9)) aNil)))))) aNil))))
def m_law_hidden_l1 : SS :=
  (sSeq (sSet 6 (eLcC (iRg1 (aCons (eVar 2) aNil)) (.n 10) [10] (fun _ h => .ok true h) m_law_hidden_c1))
    (sSeq (sIf (bEx (eOp eqF (eCB sumA (aCons (eVar 6) aNil)) (eC (.int 0))))
      (sPut setF (eOp addF (eC (.int 1)) (eCall m_law_take (aCons (eVar 0) (aCons (eVar 1) (aCons (eC (.int 3)) aNil))))) (eVar 6) (eVar 5))
      sNext)
    (sSeq (sDrop (eBM "list" appF (eVar 3) (aCons (eCB tupleF (aCons (eVar 6) aNil)) aNil)))
    (sSeq (sSet 7 (eCall m_law_pick (aCons (eVar 0) (aCons (eVar 1) (aCons (eLst (aCons (eTup (aCons (eC (.int 1)) (aCons (eC (.int 0)) aNil))) (aCons (eTup (aCons (eC (.int 0)) (aCons (eC (.int 1)) aNil))) (aCons (eTup (aCons (eC (.int 1)) (aCons (eC (.int 1)) aNil))) (aCons (eTup (aCons (eC (.int 3)) (aCons (eC (.int 1)) aNil))) (aCons (eTup (aCons (eC (.int 1)) (aCons (eC (.int 4)) aNil))) (aCons (eTup (aCons (eC (.int 9)) (aCons (eC (.int 9)) aNil))) (aCons (eTup (aCons (eC (.int 0)) (aCons (eC (.int 5)) aNil))) aNil)))))))) aNil)))))
    (sDrop (eBM "list" appF (eVar 4) (aCons (eVar 7) aNil)))))))
def m_law_hidden_c2 : SE :=
  (eCall m_law_pick (aCons (eVar 0) (aCons (eVar 1) (aCons (eLst (aCons (eC (.int 0)) (aCons (eC (.int 1)) (aCons (eC (.int 2)) (aCons (eC (.int 5)) (aCons (eC (.int 10)) (aCons (eC (.int 30)) (aCons (eC (.int 1000)) aNil)))))))) aNil))))
/-- _law_hidden: row 0, spot 1, many 2, moves 3, looks 4, s 5, weights 6, pair 7, costs 8, one 9, j 10 -/
def m_law_hidden : Fn := runB 11
  (sSeq (sSet 2 (eOp addF (eC (.int 2)) (eCall m_law_take (aCons (eVar 0) (aCons (eVar 1) (aCons (eC (.int 2)) aNil))))))
  (sSeq (sSet 3 (eCell aNil))
  (sSeq (sSet 4 (eCell aNil))
  (sSeq (sFor (iRg1 (aCons (eVar 2) aNil)) (.n 5)
    m_law_hidden_l1)
  (sSeq (sSet 8 (eLc (iRg1 (aCons (eVar 2) aNil)) (.n 5) [5] (fun _ h => .ok true h) m_law_hidden_c2))
  (sSeq (sSet 9 (eCall m_law_pick (aCons (eVar 0) (aCons (eVar 1) (aCons (eLst (aCons (eC (.int 0)) (aCons (eC (.int 1)) (aCons (eC (.int 2)) (aCons (eC (.int 5)) (aCons (eC (.int 1000)) aNil)))))) aNil)))))
  (sRet (eTup (aCons (eCB tupleF (aCons (eVar 3) aNil)) (aCons (eCB tupleF (aCons (eVar 8) aNil)) (aCons (eCB tupleF (aCons (eVar 4) aNil)) (aCons (eVar 9) (aCons (eCall m_law_pick (aCons (eVar 0) (aCons (eVar 1) (aCons (eLst (aCons (eC (.int 0)) (aCons (eC (.int 1)) (aCons (eC (.int 3)) (aCons (eC (.int 8)) (aCons (eC (.int 20)) (aCons (eC (.int 1000)) aNil))))))) aNil)))) aNil)))))))))))))
def m_law_belief_c1 : SE :=
  (eCall m_law_pick (aCons (eVar 0) (aCons (eVar 1) (aCons (eLst (aCons (eC (.int 0)) (aCons (eC (.int 1)) (aCons (eC (.int 1)) (aCons (eC (.int 2)) (aCons (eC (.int 5)) aNil)))))) aNil))))
def m_law_belief_c2 : SE :=
  (eCall (m_law_red 24) (aCons (eVar 5) (aCons (eCB sumA (aCons (eVar 3) aNil)) aNil)))
/-- _law_belief: row 0, spot 1, many 2, weights 3, s 4, one 5 -/
def m_law_belief : Fn := runB 6
  (sSeq (sSet 3 (eLcC (iRg1 (aCons (eVar 2) aNil)) (.n 4) [4] (fun _ h => .ok true h) m_law_belief_c1))
  (sSeq (sIf (bEx (eOp eqF (eCB sumA (aCons (eVar 3) aNil)) (eC (.int 0))))
    (sPut setF (eC (.int 1)) (eVar 3) (eCall m_law_take (aCons (eVar 0) (aCons (eVar 1) (aCons (eVar 2) aNil)))))
    sNext)
  (sRet (eCB tupleF (aCons (eLc (iSeq (eVar 3)) (.n 5) [5] (fun _ h => .ok true h) m_law_belief_c2) aNil)))))
/-- _law_signal: model 0, s 1, good 2, pair 3 -/
def m_law_signal : Fn := runB 4
  (sSeq (sSet 3 (eOp ixF (eOp ixF (eVar 0) (eC (.int 2))) (eVar 1)))
  (sRet (eCall (m_law_red 24) (aCons (eIf (bTru (eVar 2)) (eOp ixF (eVar 3) (eC (.int 0))) (eOp ixF (eVar 3) (eC (.int 1)))) (aCons (eOp addF (eOp ixF (eVar 3) (eC (.int 0))) (eOp ixF (eVar 3) (eC (.int 1)))) aNil)))))
def m_law_seen_chance_l1 : SS :=
  (sSet 3 (eCall m_law_add (aCons (eVar 3) (aCons (eCall m_law_mul (aCons (eOp ixF (eVar 1) (eVar 4)) (aCons (eCall m_law_signal (aCons (eVar 0) (aCons (eVar 4) (aCons (eVar 2) aNil)))) aNil))) aNil))))
/-- _law_seen_chance: model 0, belief 1, good 2, total 3, s 4 -/
def m_law_seen_chance : Fn := runB 5
  (sSeq (sSet 3 (eTup (aCons (eC (.int 0)) (aCons (eC (.int 1)) aNil))))
  (sSeq (sFor (iRg1 (aCons (eCB lenF (aCons (eVar 1) aNil)) aNil)) (.n 4)
    m_law_seen_chance_l1)
  (sRet (eVar 3))))
def m_is_looks_c1 : SE :=
  (eCall m_is_weights (aCons (eVar 2) (aCons (eC (.int 2)) aNil)))
/-- is_looks: looks 0, many 1, pair 2 -/
def m_is_looks : Fn := runB 3
  (sRet (eAnd (eCall m_is_row (aCons (eVar 0) (aCons (eVar 1) (aCons (eVar 1) aNil)))) (eCB allF (aCons (eLc (iSeq (eVar 0)) (.n 2) [2] (fun _ h => .ok true h) m_is_looks_c1) aNil))))
def m_is_hidden_c1 : SE :=
  (eCall m_is_weights (aCons (eVar 7) (aCons (eVar 6) aNil)))
def m_is_hidden_c2 : SE :=
  (eCall m_is_within (aCons (eVar 8) (aCons (eC (.int 0)) (aCons (eC (.int 1000)) aNil))))
/-- is_hidden: model 0, moves 1, costs 2, looks 3, look_cost 4, mend_cost 5, many 6, row 7, cost 8 -/
def m_is_hidden : Fn := runB 9
  (sSeq (sIf (bNot (bTru (eCall m_is_row (aCons (eVar 0) (aCons (eC (.int 5)) (aCons (eC (.int 5)) aNil))))))
    (sRet (eC (.bl false)))
    sNext)
  (sSeq (sAsg (.t ((.n 1) :: ((.n 2) :: ((.n 3) :: ((.n 4) :: ((.n 5) :: [])))))) (eVar 0))
  (sSeq (sIf (bNot (bTru (eCall m_is_row (aCons (eVar 1) (aCons (eC (.int 2)) (aCons (eC (.int 3)) aNil))))))
    (sRet (eC (.bl false)))
    sNext)
  (sSeq (sSet 6 (eCB lenF (aCons (eVar 1) aNil)))
  (sSeq (sIf (bOr (bNot (bTru (eCB allF (aCons (eLc (iSeq (eVar 1)) (.n 7) [7] (fun _ h => .ok true h) m_is_hidden_c1) aNil)))) (bNot (bTru (eCall m_is_looks (aCons (eVar 3) (aCons (eVar 6) aNil))))))
    (sRet (eC (.bl false)))
    sNext)
  (sSeq (sIf (bOr (bNot (bTru (eCall m_is_row (aCons (eVar 2) (aCons (eVar 6) (aCons (eVar 6) aNil)))))) (bNot (bTru (eCB allF (aCons (eLc (iSeq (eVar 2)) (.n 8) [8] (fun _ h => .ok true h) m_is_hidden_c2) aNil)))))
    (sRet (eC (.bl false)))
    sNext)
  (sRet (eAnd (eCall m_is_within (aCons (eVar 4) (aCons (eC (.int 0)) (aCons (eC (.int 1000)) aNil)))) (eCall m_is_within (aCons (eVar 5) (aCons (eC (.int 0)) (aCons (eC (.int 1000)) aNil))))))))))))
def m_total_of_c1 : SE :=
  (eVar 3)
def m_total_of_c2 : SE :=
  (eOp mulF (eVar 4) (eOp fdivF (eVar 1) (eVar 3)))
/-- total_of: fractions 0, common 1, _ 2, bottom 3, top 4 -/
def m_total_of : Fn := runB 5
  (sSeq (sSet 1 (eCall m_common_bottom (aCons (eLc (iSeq (eVar 0)) (.t ((.n 2) :: ((.n 3) :: []))) [2, 3] (fun _ h => .ok true h) m_total_of_c1) aNil)))
  (sRet (eCall m_reduced (aCons (eCB sumA (aCons (eLc (iSeq (eVar 0)) (.t ((.n 4) :: ((.n 3) :: []))) [4, 3] (fun _ h => .ok true h) m_total_of_c2) aNil)) (aCons (eVar 1) aNil)))))
/-- is_chance: x 0 -/
def m_is_chance : Fn := runB 1
  (sRet (eAnd (eCall m_is_fraction (aCons (eVar 0) aNil)) (eAnd (eOp leF (eC (.int 0)) (eOp ixF (eVar 0) (eC (.int 0)))) (eOp leF (eOp ixF (eVar 0) (eC (.int 0))) (eOp ixF (eVar 0) (eC (.int 1)))))))
def m_is_belief_c1 : SE :=
  (eCall m_is_chance (aCons (eVar 1) aNil))
/-- is_belief: belief 0, chance 1 -/
def m_is_belief : Fn := runB 2
  (sSeq (sIf (bOr (bNot (bTru (eCall m_is_sequence (aCons (eVar 0) aNil)))) (bNot (bTru (eCB allF (aCons (eLc (iSeq (eVar 0)) (.n 1) [1] (fun _ h => .ok true h) m_is_belief_c1) aNil)))))
    (sRet (eC (.bl false)))
    sNext)
  (sRet (eOp eqF (eCall m_total_of (aCons (eVar 0) aNil)) (eTup (aCons (eC (.int 1)) (aCons (eC (.int 1)) aNil))))))
/-- check_belief: model 0, belief 1 -/
def m_check_belief : Fn := runB 2
  (sSeq (sIf (bNot (bTru (eCall m_is_hidden (aCons (eVar 0) aNil))))
    (sRaise "BadValue" ["at"] (aCons (eC (.int 0)) aNil))
    sNext)
  (sIf (bNot (bTru (eCall m_is_belief (aCons (eVar 1) aNil))))
    (sRaise "BadValue" ["at"] (aCons (eC (.int 1)) aNil))
    sNext))
/-- check_levels: model 0, belief 1 -/
def m_check_levels : Fn := runB 2
  (sIf (bEx (eOp neF (eCB lenF (aCons (eVar 1) aNil)) (eCB lenF (aCons (eOp ixF (eVar 0) (eC (.int 0))) aNil))))
    (sRaise "BadValue" ["at"] (aCons (eC (.int 1)) aNil))
    sNext)
/-- moved: model 0, belief 1 -/
def m_moved : Fn := runB 2
  (sSeq (sDrop (eCall m_check_belief (aCons (eVar 0) (aCons (eVar 1) aNil))))
  (sSeq (sDrop (eCall m_check_levels (aCons (eVar 0) (aCons (eVar 1) aNil))))
  (sRet (eCall m_spread (aCons (eOp ixF (eVar 0) (eC (.int 0))) (aCons (eVar 1) aNil))))))
def m_law_moved_c1 : SE :=
  (eTup (aCons (eC (.int 0)) (aCons (eC (.int 1)) aNil)))
def m_law_moved_l1 : SS :=
  (sPut setF (eCall m_law_add (aCons (eOp ixF (eVar 2) (eVar 5)) (aCons (eCall m_law_mul (aCons (eOp ixF (eVar 1) (eVar 3)) (aCons (eOp ixF (eVar 4) (eVar 5)) aNil))) aNil))) (eVar 2) (eVar 5))
def m_law_moved_l2 : SS :=
  (sSeq (sSet 4 (eCall m_law_shares (aCons (eOp ixF (eVar 0) (eC (.int 0))) (aCons (eVar 3) aNil))))
    (sFor (iRg1 (aCons (eCB lenF (aCons (eVar 1) aNil)) aNil)) (.n 5)
      m_law_moved_l1))
/-- _law_moved: model 0, belief 1, made 2, s 3, shares 4, j 5, one 6 -/
def m_law_moved : Fn := runB 7
  (sSeq (sSet 2 (eLcC (iSeq (eVar 1)) (.n 6) [6] (fun _ h => .ok true h) m_law_moved_c1))
  (sSeq (sFor (iRg1 (aCons (eCB lenF (aCons (eVar 1) aNil)) aNil)) (.n 3)
    m_law_moved_l2)
  (sRet (eCB tupleF (aCons (eVar 2) aNil)))))
/-- check_look: model 0, belief 1, good 2 -/
def m_check_look : Fn := runB 3
  (sSeq (sDrop (eCall m_check_belief (aCons (eVar 0) (aCons (eVar 1) aNil))))
  (sSeq (sIf (bNot (bTru (eCB isF (aCons (eVar 2) (aCons (eC (.ty "bool")) aNil)))))
    (sRaise "BadValue" ["at"] (aCons (eC (.int 2)) aNil))
    sNext)
  (sDrop (eCall m_check_levels (aCons (eVar 0) (aCons (eVar 1) aNil))))))
/-- place_of: good 0 -/
def m_place_of : Fn := runB 1
  (sSeq (sIf (bTru (eVar 0))
    (sRet (eC (.int 0)))
    sNext)
  (sRet (eC (.int 1))))
/-- seen_chance: model 0, belief 1, good 2 -/
def m_seen_chance : Fn := runB 3
  (sSeq (sDrop (eCall m_check_look (aCons (eVar 0) (aCons (eVar 1) (aCons (eVar 2) aNil)))))
  (sRet (eOp ixF (eCall m_spread (aCons (eOp ixF (eVar 0) (eC (.int 2))) (aCons (eVar 1) aNil))) (eCall m_place_of (aCons (eVar 2) aNil)))))
def m_revised_c1 : SE :=
  (eOp mulF (eVar 7) (eOp ixF (eVar 8) (eVar 2)))
def m_revised_c2 : SE :=
  (eCall m_reduced (aCons (eVar 9) (aCons (eVar 6) aNil)))
/-- revised: rows 0, shares 1, at 2, factors 3, _ 4, tops 5, whole 6, factor 7, row 8, top 9 -/
def m_revised : Fn := runB 10
  (sSeq (sAsg (.t ((.n 3) :: ((.n 4) :: []))) (eCall m_lifted (aCons (eVar 0) (aCons (eVar 1) aNil))))
  (sSeq (sSet 5 (eLc (iZip (aCons (eVar 3) (aCons (eVar 0) aNil))) (.t ((.n 7) :: ((.n 8) :: []))) [7, 8] (fun _ h => .ok true h) m_revised_c1))
  (sSeq (sSet 6 (eCB sumA (aCons (eVar 5) aNil)))
  (sRet (eCB tupleF (aCons (eLc (iSeq (eVar 5)) (.n 9) [9] (fun _ h => .ok true h) m_revised_c2) aNil))))))
/-- looked: model 0, belief 1, good 2, at 3 -/
def m_looked : Fn := runB 4
  (sSeq (sDrop (eCall m_check_look (aCons (eVar 0) (aCons (eVar 1) (aCons (eVar 2) aNil)))))
  (sSeq (sSet 3 (eCall m_place_of (aCons (eVar 2) aNil)))
  (sSeq (sIf (bEx (eOp eqF (eOp ixF (eCall m_spread (aCons (eOp ixF (eVar 0) (eC (.int 2))) (aCons (eVar 1) aNil))) (eVar 3)) (eTup (aCons (eC (.int 0)) (aCons (eC (.int 1)) aNil)))))
    (sRaise "NoChance" ["word"] (aCons (eC (.str "look")) aNil))
    sNext)
  (sRet (eCall m_revised (aCons (eOp ixF (eVar 0) (eC (.int 2))) (aCons (eVar 1) (aCons (eVar 3) aNil))))))))
def m_law_looked_c1 : SE :=
  (eCall m_law_div (aCons (eCall m_law_mul (aCons (eOp ixF (eVar 1) (eVar 4)) (aCons (eCall m_law_signal (aCons (eVar 0) (aCons (eVar 4) (aCons (eVar 2) aNil)))) aNil))) (aCons (eVar 3) aNil)))
/-- _law_looked: model 0, belief 1, good 2, total 3, s 4 -/
def m_law_looked : Fn := runB 5
  (sSeq (sSet 3 (eCall m_law_seen_chance (aCons (eVar 0) (aCons (eVar 1) (aCons (eVar 2) aNil)))))
  (sRet (eCB tupleF (aCons (eLc (iRg1 (aCons (eCB lenF (aCons (eVar 1) aNil)) aNil)) (.n 4) [4] (fun _ h => .ok true h) m_law_looked_c1) aNil))))
end Mp
namespace Mp
open PySem PySem.Spec PyProof.Rows L2
/-! ### mirrors: Cha -/
/-- _law_chance: row 0, spot 1, kind 2, low 3 -/
def m_law_chance : Fn := runB 4
  (sSeq (sSet 2 (eCall m_law_take (aCons (eVar 0) (aCons (eVar 1) (aCons (eC (.int 8)) aNil)))))
  (sSeq (sIf (bEx (eOp eqF (eVar 2) (eC (.int 0))))
    (sRet (eTup (aCons (eC (.int 0)) (aCons (eC (.int 1)) aNil))))
    sNext)
  (sSeq (sIf (bEx (eOp eqF (eVar 2) (eC (.int 1))))
    (sRet (eTup (aCons (eC (.int 1)) (aCons (eC (.int 1)) aNil))))
    sNext)
  (sSeq (sSet 3 (eOp addF (eC (.int 1)) (eCall m_law_take (aCons (eVar 0) (aCons (eVar 1) (aCons (eC (.int 9)) aNil))))))
  (sRet (eCall (m_law_red 24) (aCons (eCall m_law_take (aCons (eVar 0) (aCons (eVar 1) (aCons (eOp addF (eVar 3) (eC (.int 1))) aNil)))) (aCons (eVar 3) aNil))))))))
def m_law_odds_l1 : SS :=
  (sSeq (sSet 5 (eCall m_law_take (aCons (eVar 0) (aCons (eVar 1) (aCons (eOp addF (eCB lenF (aCons (eVar 3) aNil)) (eC (.int 1))) aNil)))))
    (sSet 3 (eOp addF (eOp addF (eSl slF (eVar 3) none (some (eVar 5))) (eLst (aCons (eTup (aCons (eVar 4) (aCons (eCall m_law_chance (aCons (eVar 0) (aCons (eVar 1) aNil))) aNil))) aNil))) (eSl slF (eVar 3) (some (eVar 5)) none))))
/-- _law_odds: row 0, spot 1, names 2, made 3, name 4, at 5 -/
def m_law_odds : Fn := runB 6
  (sSeq (sSet 3 (eCell aNil))
  (sSeq (sFor (iSeq (eVar 2)) (.n 4)
    m_law_odds_l1)
  (sRet (eCB tupleF (aCons (eVar 3) aNil)))))
/-- _law_inner: row 0, spot 1, low 2 -/
def m_law_inner : Fn := runB 3
  (sSeq (sSet 2 (eOp addF (eC (.int 2)) (eCall m_law_take (aCons (eVar 0) (aCons (eVar 1) (aCons (eC (.int 8)) aNil))))))
  (sRet (eCall (m_law_red 24) (aCons (eOp addF (eC (.int 1)) (eCall m_law_take (aCons (eVar 0) (aCons (eVar 1) (aCons (eOp subF (eVar 2) (eC (.int 1))) aNil))))) (aCons (eVar 2) aNil)))))
def m_law_sure_l1 : SS :=
  (sDrop (eBM "list" appF (eVar 3) (aCons (eTup (aCons (eVar 4) (aCons (eCall m_law_inner (aCons (eVar 0) (aCons (eVar 1) aNil))) aNil))) aNil)))
/-- _law_sure: row 0, spot 1, names 2, made 3, name 4 -/
def m_law_sure : Fn := runB 5
  (sSeq (sSet 3 (eCell aNil))
  (sSeq (sFor (iSeq (eVar 2)) (.n 4)
    m_law_sure_l1)
  (sRet (eCB tupleF (aCons (eVar 3) aNil)))))
def m_odds_of_l1 : SS :=
  (sSeq (sIf (bOr (bNot (bTru (eCall m_is_row (aCons (eVar 2) (aCons (eC (.int 2)) (aCons (eC (.int 2)) aNil)))))) (bOr (bNot (bTru (eCall m_is_name (aCons (eOp ixF (eVar 2) (eC (.int 0))) aNil)))) (bNot (bTru (eCall m_is_chance (aCons (eOp ixF (eVar 2) (eC (.int 1))) aNil))))))
      (sRet (eC .non))
      sNext)
    (sSeq (sIf (bEx (eOp (dinF false) (eOp ixF (eVar 2) (eC (.int 0))) (eVar 1)))
      (sRet (eC .non))
      sNext)
    (sPut putF (eTup (aCons (eOp ixF (eOp ixF (eVar 2) (eC (.int 1))) (eC (.int 0))) (aCons (eOp ixF (eOp ixF (eVar 2) (eC (.int 1))) (eC (.int 1))) aNil))) (eVar 1) (eOp ixF (eVar 2) (eC (.int 0))))))
/-- odds_of: value 0, found 1, pair 2 -/
def m_odds_of : Fn := runB 3
  (sSeq (sIf (bNot (bTru (eCall m_is_row (aCons (eVar 0) (aCons (eC (.int 0)) (aCons (eC (.int 20)) aNil))))))
    (sRet (eC .non))
    sNext)
  (sSeq (sSet 1 eDct0)
  (sSeq (sFor (iSeq (eVar 0)) (.n 2)
    m_odds_of_l1)
  (sRet (eVar 1)))))
/-- _known_odds: e 0, odds 1, known 2 -/
def m_known_odds : Fn := runB 3
  (sSeq (sIf (bNot (bTru (eCall m_is_structure (aCons (eVar 0) aNil))))
    (sRaise "BadValue" ["at"] (aCons (eC (.int 0)) aNil))
    sNext)
  (sSeq (sSet 2 (eCall m_odds_of (aCons (eVar 1) aNil)))
  (sSeq (sIf (bEx (eOp isnF (eVar 2) (eC .non)))
    (sRaise "BadValue" ["at"] (aCons (eC (.int 1)) aNil))
    sNext)
  (sRet (eVar 2)))))
def m_first_lacking_l1 : SS :=
  (sIf (bEx (eOp (dinF true) (eVar 2) (eVar 1)))
      (sRet (eVar 2))
      sNext)
/-- first_lacking: names 0, known 1, name 2 -/
def m_first_lacking : Fn := runB 3
  (sSeq (sFor (iSeq (eVar 0)) (.n 2)
    m_first_lacking_l1)
  (sRet (eC .non)))
/-- _look_up: names 0, known 1, lacking 2 -/
def m_look_up : Fn := runB 3
  (sSeq (sSet 2 (eCall m_first_lacking (aCons (eVar 0) (aCons (eVar 1) aNil))))
  (sIf (bEx (eOp notnF (eVar 2) (eC .non)))
    (sRaise "Unknown" ["name"] (aCons (eVar 2) aNil))
    sNext))
def m_weights_of_c1 : SE :=
  (eTup (aCons (eOp ixF (eOp dgF (eVar 1) (eVar 2)) (eC (.int 0))) (aCons (eOp subF (eOp ixF (eOp dgF (eVar 1) (eVar 2)) (eC (.int 1))) (eOp ixF (eOp dgF (eVar 1) (eVar 2)) (eC (.int 0)))) aNil)))
/-- weights_of: names 0, known 1, name 2 -/
def m_weights_of : Fn := runB 3
  (sRet (eLc (iSeq (eVar 0)) (.n 2) [2] (fun _ h => .ok true h) m_weights_of_c1))
def m_folded_c1 : SE :=
  (eOp addF (eOp mulF (eVar 3) (eOp ixF (eVar 0) (eVar 4))) (eOp mulF (eVar 2) (eOp ixF (eVar 0) (eOp addF (eVar 4) (eC (.int 1))))))
def m_folded_l1 : SS :=
  (sSet 0 (eLc (iRg3 (aCons (eC (.int 0)) (aCons (eCB lenF (aCons (eVar 0) aNil)) (aCons (eC (.int 2)) aNil)))) (.n 4) [4] (fun _ h => .ok true h) m_folded_c1))
/-- folded: row 0, weights 1, up 2, down 3, k 4 -/
def m_folded : Fn := runB 5
  (sSeq (sFor (iSeq (eVar 1)) (.t ((.n 2) :: ((.n 3) :: [])))
    m_folded_l1)
  (sRet (eVar 0)))
def m_bits_of_c1 : SE :=
  (eOp bandF (eOp shrF (eVar 0) (eVar 2)) (eC (.int 1)))
/-- bits_of: told 0, count 1, mask 2 -/
def m_bits_of : Fn := runB 3
  (sRet (eLc (iRg1 (aCons (eOp shlF (eC (.int 1)) (eVar 1)) aNil)) (.n 2) [2] (fun _ h => .ok true h) m_bits_of_c1))
/-- weighed: told 0, weights 1 -/
def m_weighed : Fn := runB 2
  (sRet (eOp ixF (eCall m_folded (aCons (eCall m_bits_of (aCons (eVar 0) (aCons (eCB lenF (aCons (eVar 1) aNil)) aNil))) (aCons (eVar 1) aNil))) (eC (.int 0))))
def m_product_of_l1 : SS :=
  (sSet 1 (eOp mulF (eVar 1) (eVar 2)))
/-- product_of: numbers 0, told 1, number 2 -/
def m_product_of : Fn := runB 3
  (sSeq (sSet 1 (eC (.int 1)))
  (sSeq (sFor (iSeq (eVar 0)) (.n 2)
    m_product_of_l1)
  (sRet (eVar 1))))
def m_below_c1 : SE :=
  (eOp addF (eVar 1) (eVar 2))
/-- below: weights 0, up 1, down 2 -/
def m_below : Fn := runB 3
  (sRet (eCall m_product_of (aCons (eLc (iSeq (eVar 0)) (.t ((.n 1) :: ((.n 2) :: []))) [1, 2] (fun _ h => .ok true h) m_below_c1) aNil)))
/-- chance: e 0, odds 1, known 2, names 3, weights 4 -/
def m_chance : Fn := runB 5
  (sSeq (sSet 2 (eCall m_known_odds (aCons (eVar 0) (aCons (eVar 1) aNil))))
  (sSeq (sSet 3 (eCall m_names_in (aCons (eVar 0) aNil)))
  (sSeq (sDrop (eCall m_look_up (aCons (eVar 3) (aCons (eVar 2) aNil))))
  (sSeq (sSet 4 (eCall m_weights_of (aCons (eVar 3) (aCons (eVar 2) aNil))))
  (sRet (eCall m_lowest (aCons (eCall m_weighed (aCons (eCall m_table (aCons (eVar 0) (aCons (eVar 3) aNil))) (aCons (eVar 4) aNil))) (aCons (eCall m_below (aCons (eVar 4) aNil)) aNil))))))))
def m_law_prior_l1 : SS :=
  (sIf (bEx (eOp eqF (eOp ixF (eVar 5) (eC (.int 0))) (eVar 4)))
        (sSet 3 (eCall m_law_mul (aCons (eVar 3) (aCons (eIf (bEx (eOp (inG false) (eVar 4) (eVar 2))) (eCall m_law_sub (aCons (eTup (aCons (eC (.int 1)) (aCons (eC (.int 1)) aNil))) (aCons (eOp ixF (eVar 5) (eC (.int 1))) aNil))) (eOp ixF (eVar 5) (eC (.int 1)))) aNil))))
        sNext)
def m_law_prior_l2 : SS :=
  (sFor (iSeq (eVar 1)) (.n 5)
      m_law_prior_l1)
/-- _law_prior: names 0, odds 1, broken 2, made 3, name 4, pair 5 -/
def m_law_prior : Fn := runB 6
  (sSeq (sSet 3 (eTup (aCons (eC (.int 1)) (aCons (eC (.int 1)) aNil))))
  (sSeq (sFor (iSeq (eVar 0)) (.n 4)
    m_law_prior_l2)
  (sRet (eVar 3))))
def m_law_sum_chance_l1 : SS :=
  (sIf (bTru (eCall (m_law_works 24) (aCons (eVar 0) (aCons (eVar 4) aNil))))
      (sSet 3 (eCall m_law_add (aCons (eVar 3) (aCons (eCall m_law_prior (aCons (eVar 2) (aCons (eVar 1) (aCons (eCall m_law_others (aCons (eVar 2) (aCons (eVar 4) aNil))) aNil)))) aNil))))
      sNext)
/-- _law_sum_chance: e 0, odds 1, names 2, total 3, one 4 -/
def m_law_sum_chance : Fn := runB 5
  (sSeq (sSet 2 (eCall (m_law_parts 24) (aCons (eVar 0) aNil)))
  (sSeq (sSet 3 (eTup (aCons (eC (.int 0)) (aCons (eC (.int 1)) aNil))))
  (sSeq (sFor (iSeq (eCall m_law_sets (aCons (eVar 2) aNil))) (.n 4)
    m_law_sum_chance_l1)
  (sRet (eVar 3)))))
end Mp
namespace Mp
open PySem PySem.Spec PyProof.Rows L2
/-! ### mirrors: Sml -/
/-- _law_small: row 0, spot 1, names 2 -/
def m_law_small : Fn := runB 3
  (sRet (eCall (m_law_tree 24) (aCons (eVar 0) (aCons (eVar 1) (aCons (eVar 2) (aCons (eOp addF (eC (.int 2)) (eCall m_law_take (aCons (eVar 0) (aCons (eVar 1) (aCons (eC (.int 2)) aNil))))) (aCons (eC (.int 3)) aNil)))))))
end Mp
namespace Mp
open PySem PySem.Spec PyProof.Rows L2
/-! ### mirrors: Unk -/
def m_law_strange_l1 : SS :=
  (sSeq (sSet 2 (eOp addF (eC (.str "zzzzzzz")) (eOp ixF (eC (.str "zyxwvutsrqponmlkjihgfedcba")) (eVar 1))))
    (sIf (bEx (eOp (inG true) (eVar 2) (eVar 0)))
      (sRet (eVar 2))
      sNext))
/-- _law_strange: names 0, k 1, made 2 -/
def m_law_strange : Fn := runB 3
  (sSeq (sFor (iRg1 (aCons (eC (.int 26)) aNil)) (.n 1)
    m_law_strange_l1)
  (sRet (eC (.str "q"))))
def m_prices_of_l1 : SS :=
  (sSeq (sIf (bOr (bNot (bTru (eCall m_is_row (aCons (eVar 2) (aCons (eC (.int 2)) (aCons (eC (.int 2)) aNil)))))) (bOr (bNot (bTru (eCall m_is_name (aCons (eOp ixF (eVar 2) (eC (.int 0))) aNil)))) (bNot (bTru (eCall m_is_within (aCons (eOp ixF (eVar 2) (eC (.int 1))) (aCons (eC (.int 0)) (aCons (eC (.int 1000)) aNil))))))))
      (sRet (eC .non))
      sNext)
    (sSeq (sIf (bEx (eOp (dinF false) (eOp ixF (eVar 2) (eC (.int 0))) (eVar 1)))
      (sRet (eC .non))
      sNext)
    (sPut putF (eOp ixF (eVar 2) (eC (.int 1))) (eVar 1) (eOp ixF (eVar 2) (eC (.int 0))))))
/-- prices_of: value 0, found 1, pair 2 -/
def m_prices_of : Fn := runB 3
  (sSeq (sIf (bNot (bTru (eCall m_is_row (aCons (eVar 0) (aCons (eC (.int 0)) (aCons (eC (.int 6)) aNil))))))
    (sRet (eC .non))
    sNext)
  (sSeq (sSet 1 eDct0)
  (sSeq (sFor (iSeq (eVar 0)) (.n 2)
    m_prices_of_l1)
  (sRet (eVar 1)))))
/-- _named_odds: e 0, odds 1, name 2, known 3, names 4 -/
def m_named_odds : Fn := runB 5
  (sSeq (sSet 3 (eCall m_known_odds (aCons (eVar 0) (aCons (eVar 1) aNil))))
  (sSeq (sIf (bNot (bTru (eCall m_is_name (aCons (eVar 2) aNil))))
    (sRaise "BadValue" ["at"] (aCons (eC (.int 2)) aNil))
    sNext)
  (sSeq (sSet 4 (eCall m_names_in (aCons (eVar 0) aNil)))
  (sSeq (sDrop (eCall m_look_up (aCons (eVar 4) (aCons (eVar 3) aNil))))
  (sSeq (sDrop (eCall m_look_up (aCons (eTup (aCons (eVar 2) aNil)) (aCons (eVar 3) aNil))))
  (sRet (eTup (aCons (eVar 4) (aCons (eVar 3) aNil)))))))))
end Mp
namespace Mp
open PySem PySem.Spec PyProof.Rows L2
/-! ### the mirrors -/
/-- _law_not: one 0 -/
def m_law_not : Fn := runB 1
  (sRet (eCall m_law_sub (aCons (eTup (aCons (eC (.int 1)) (aCons (eC (.int 1)) aNil))) (aCons (eVar 0) aNil))))
def m_weights_of_2_c1 : SE :=
  (eTup (aCons (eOp ixF (eOp dgF (eVar 1) (eVar 2)) (eC (.int 0))) (aCons (eOp subF (eOp ixF (eOp dgF (eVar 1) (eVar 2)) (eC (.int 1))) (eOp ixF (eOp dgF (eVar 1) (eVar 2)) (eC (.int 0)))) aNil)))
/-- weights_of: names 0, known 1, name 2 -/
def m_weights_of_2 : Fn := runB 3
  (sRet (eLcC (iSeq (eVar 0)) (.n 2) [2] (fun _ h => .ok true h) m_weights_of_2_c1))
/-- blame: e 0, odds 1, name 2, names 3, known 4, weights 5, failing 6, whole 7, up 8, broken 9, place 10 -/
def m_blame : Fn := runB 11
  (sSeq (sAsg (.t ((.n 3) :: ((.n 4) :: []))) (eCall m_named_odds (aCons (eVar 0) (aCons (eVar 1) (aCons (eVar 2) aNil)))))
  (sSeq (sSet 5 (eCallG m_weights_of_2 (aCons (eVar 3) (aCons (eVar 4) aNil))))
  (sSeq (sSet 6 (eOp bxorF (eCall m_table (aCons (eVar 0) (aCons (eVar 3) aNil))) (eCall m_everywhere (aCons (eCB lenF (aCons (eVar 3) aNil)) aNil))))
  (sSeq (sSet 7 (eCall m_weighed (aCons (eVar 6) (aCons (eVar 5) aNil))))
  (sSeq (sIf (bEx (eOp eqF (eVar 7) (eC (.int 0))))
    (sRaise "NoChance" ["word"] (aCons (eC (.str "down")) aNil))
    sNext)
  (sSeq (sIf (bEx (eOp (inG true) (eVar 2) (eVar 3)))
    (sSeq (sPar 8 9 (aCons (eOp ixF (eOp dgF (eVar 4) (eVar 2)) (eC (.int 0))) (aCons (eOp ixF (eOp dgF (eVar 4) (eVar 2)) (eC (.int 1))) aNil)))
    (sRet (eCall m_lowest (aCons (eOp subF (eVar 9) (eVar 8)) (aCons (eVar 9) aNil)))))
    sNext)
  (sSeq (sSet 10 (eIx ixtF (eVar 3) (aCons (eVar 2) aNil)))
  (sSeq (sPut setF (eTup (aCons (eC (.int 0)) (aCons (eOp ixF (eOp ixF (eVar 5) (eVar 10)) (eC (.int 1))) aNil))) (eVar 5) (eVar 10))
  (sRet (eCall m_lowest (aCons (eCall m_weighed (aCons (eVar 6) (aCons (eVar 5) aNil))) (aCons (eVar 7) aNil))))))))))))
def m_law_odd_l1 : SS :=
  (sIf (bEx (eOp eqF (eOp ixF (eVar 2) (eC (.int 0))) (eVar 1)))
      (sRet (eOp ixF (eVar 2) (eC (.int 1))))
      sNext)
/-- _law_odd: odds 0, name 1, pair 2 -/
def m_law_odd : Fn := runB 3
  (sSeq (sFor (iSeq (eVar 0)) (.n 2)
    m_law_odd_l1)
  (sRet (eC .non)))
def m_law_p1 : SS :=
  (sSet 1 (eCall m_law_numbers (aCons (eVar 0) aNil)))
def m_law_p2 : SS :=
  (sSet 2 (eCell (aCons (eC (.int 0)) aNil)))
def m_law_p3 : SS :=
  (sSet 3 (eCall m_law_names (aCons (eVar 1) (aCons (eVar 2) (aCons (eOp addF (eC (.int 1)) (eCall m_law_take (aCons (eVar 1) (aCons (eVar 2) (aCons (eC (.int 4)) aNil))))) aNil)))))
def m_law_p4 : SS :=
  (sSet 4 (eCall m_law_small (aCons (eVar 1) (aCons (eVar 2) (aCons (eVar 3) aNil)))))
def m_law_p5 : SS :=
  (sSet 5 (eCall m_law_odds (aCons (eVar 1) (aCons (eVar 2) (aCons (eVar 3) aNil)))))
def m_law_p6 : SS :=
  (sSet 6 (eCall (m_law_parts 24) (aCons (eVar 4) aNil)))
def m_law_p7 : SS :=
  (sSet 7 (eCall m_law_not (aCons (eCall m_law_sum_chance (aCons (eVar 4) (aCons (eVar 5) aNil))) aNil)))
def m_law_l1 : SS :=
  (sIf (bAnd (bEx (eOp (inG false) (eVar 8) (eVar 11))) (bNot (bTru (eCall (m_law_works 24) (aCons (eVar 4) (aCons (eCall m_law_others (aCons (eVar 3) (aCons (eVar 11) aNil))) aNil))))))
          (sSet 10 (eCall m_law_add (aCons (eVar 10) (aCons (eCall m_law_prior (aCons (eVar 3) (aCons (eVar 5) (aCons (eVar 11) aNil)))) aNil))))
          sNext)
def m_law_l2 : SS :=
  (sSeq (sSet 9 (eTold (eCall m_blame (aCons (eCall m_law_handed (aCons (eVar 1) (aCons (eVar 2) (aCons (eVar 4) aNil)))) (aCons (eVar 5) (aCons (eVar 8) aNil))))))
    (sIf (bEx (eOp eqF (eVar 7) (eTup (aCons (eC (.int 0)) (aCons (eC (.int 1)) aNil)))))
      (sIf (bEx (eOp neF (eVar 9) (eTup (aCons (eC (.str "NoChance")) (aCons (eC (.str "down")) aNil)))))
        (sRet (eC (.bl false)))
        sNext)
      (sSeq (sSet 10 (eTup (aCons (eC (.int 0)) (aCons (eC (.int 1)) aNil))))
      (sSeq (sFor (iSeq (eCall m_law_sets (aCons (eVar 3) aNil))) (.n 11)
        m_law_l1)
      (sSeq (sIf (bOr (bEx (eOp neF (eOp ixF (eVar 9) (eC (.int 0))) (eC (.str "value")))) (bNot (bTru (eCall (m_law_so 24) (aCons (eOp ixF (eVar 9) (eC (.int 1))) (aCons (eCall m_law_div (aCons (eVar 10) (aCons (eVar 7) aNil))) aNil))))))
        (sRet (eC (.bl false)))
        sNext)
      (sIf (bAnd (bEx (eOp (inG true) (eVar 8) (eVar 6))) (bEx (eOp neF (eVar 10) (eCall m_law_mul (aCons (eVar 7) (aCons (eCall m_law_not (aCons (eCall m_law_odd (aCons (eVar 5) (aCons (eVar 8) aNil))) aNil)) aNil))))))
        (sRet (eC (.bl false)))
        sNext))))))
def m_law_p8 : SS :=
  (sFor (iSeq (eVar 3)) (.n 8)
    m_law_l2)
def m_law_p9 : SS :=
  (sRet (eC (.bl true)))
/-- law: script 0, row 1, spot 2, names 3, e 4, odds 5, own 6, down 7, name 8, told 9, total 10, one 11 -/
def m_law : Fn := runB 12
  (sSeq m_law_p1
  (sSeq m_law_p2
  (sSeq m_law_p3
  (sSeq m_law_p4
  (sSeq m_law_p5
  (sSeq m_law_p6
  (sSeq m_law_p7
  (sSeq m_law_p8
  m_law_p9))))))))
end Mp
namespace Mp
open PySem PySem.Spec PyProof.Rows L2
/-! ### mirrors: Cas -/
def m_law_seen_c1 : SE :=
  (eVar 9)
def m_law_seen_t1 : SB :=
  (bEx (eOp eqF (eCall m_law_take (aCons (eVar 0) (aCons (eVar 1) (aCons (eC (.int 3)) aNil)))) (eC (.int 0))))
def m_law_seen_l1 : SS :=
  (sSeq (sSet 7 (eCall m_law_small (aCons (eVar 0) (aCons (eVar 1) (aCons (eVar 2) aNil)))))
    (sSeq (sSet 8 (eCall (m_law_works 24) (aCons (eVar 7) (aCons (eCall m_law_others (aCons (eVar 2) (aCons (eVar 4) aNil))) aNil))))
    (sDrop (eBM "list" appF (eVar 5) (aCons (eTup (aCons (eVar 7) (aCons (eIf (bEx (eOp gtF (eCall m_law_take (aCons (eVar 0) (aCons (eVar 1) (aCons (eC (.int 5)) aNil)))) (eC (.int 0)))) (eVar 8) (eNot (eVar 8))) aNil))) aNil)))))
/-- _law_seen: row 0, spot 1, names 2, many 3, hidden 4, made 5, k 6, e 7, honest 8, name 9 -/
def m_law_seen : Fn := runB 10
  (sSeq (sSet 4 (eLc (iSeq (eVar 2)) (.n 9) [9] m_law_seen_t1 m_law_seen_c1))
  (sSeq (sSet 5 (eCell aNil))
  (sSeq (sFor (iRg1 (aCons (eVar 3) aNil)) (.n 6)
    m_law_seen_l1)
  (sRet (eCB tupleF (aCons (eVar 5) aNil))))))
def m_law_universe_c1 : SE :=
  (eOp ixF (eVar 5) (eC (.int 0)))
def m_law_universe_c2 : SE :=
  (eOp ixF (eVar 6) (eC (.int 1)))
def m_law_universe_l1 : SS :=
  (sIf (bEx (eOp (inG true) (eVar 4) (eVar 2)))
        (sDrop (eBM "list" appF (eVar 2) (aCons (eVar 4) aNil)))
        sNext)
def m_law_universe_l2 : SS :=
  (sFor (iSeq (eCall (m_law_parts 24) (aCons (eVar 3) aNil))) (.n 4)
      m_law_universe_l1)
/-- _law_universe: seen 0, tests 1, made 2, one 3, name 4, pair 5, test 6 -/
def m_law_universe : Fn := runB 7
  (sSeq (sSet 2 (eCell aNil))
  (sSeq (sFor (iSeq (eOp addF (eLc (iSeq (eVar 0)) (.n 5) [5] (fun _ h => .ok true h) m_law_universe_c1) (eLc (iSeq (eVar 1)) (.n 6) [6] (fun _ h => .ok true h) m_law_universe_c2))) (.n 3)
    m_law_universe_l2)
  (sRet (eCB sortF (aCons (eVar 2) aNil)))))
def m_copied_c1 (self : Fn) : SE :=
  (eCall self (aCons (eVar 2) aNil))
/-- copied: e 0, members 1, member 2 -/
def m_copied : Nat → Fn
  | 0 => fun _ _ => .bad
  | n + 1 => runB 3 (sSeq (sIf (bEx (eOp eqF (eOp ixF (eVar 0) (eC (.int 0))) (eC (.str "part"))))
    (sRet (eTup (aCons (eC (.str "part")) (aCons (eOp ixF (eVar 0) (eC (.int 1))) aNil))))
    sNext)
  (sSeq (sSet 1 (eCB tupleF (aCons (eLc (iSeq (eOp ixF (eVar 0) (eUn negF (eC (.int 1))))) (.n 2) [2] (fun _ h => .ok true h) (m_copied_c1 (m_copied n))) aNil)))
  (sSeq (sIf (bEx (eOp eqF (eOp ixF (eVar 0) (eC (.int 0))) (eC (.str "some"))))
    (sRet (eTup (aCons (eC (.str "some")) (aCons (eOp ixF (eVar 0) (eC (.int 1))) (aCons (eVar 1) aNil)))))
    sNext)
  (sRet (eTup (aCons (eOp ixF (eVar 0) (eC (.int 0))) (aCons (eVar 1) aNil)))))))
/-- shape_of: x 0 -/
def m_shape_of : Fn := runB 1
  (sSeq (sIf (bNot (bTru (eCall m_is_structure (aCons (eVar 0) aNil))))
    (sRet (eC .non))
    sNext)
  (sRet (eCall (m_copied 24) (aCons (eVar 0) aNil))))
def m_universe_l1 : SS :=
  (sPut putF (eC (.bl true)) (eVar 1) (eVar 3))
def m_universe_l2 : SS :=
  (sFor (iSeq (eCall m_names_in (aCons (eOp ixF (eVar 2) (eUn negF (eC (.int 2)))) aNil))) (.n 3)
      m_universe_l1)
/-- universe: rows 0, found 1, row 2, name 3 -/
def m_universe : Fn := runB 4
  (sSeq (sSet 1 eDct0)
  (sSeq (sFor (iSeq (eVar 0)) (.n 2)
    m_universe_l2)
  (sRet (eCB tupleF (aCons (eCB sortF (aCons (eVar 1) aNil)) aNil)))))
def m_seen_of_l1 : SS :=
  (sSeq (sIf (bOr (bNot (bTru (eCall m_is_row (aCons (eVar 2) (aCons (eC (.int 2)) (aCons (eC (.int 2)) aNil)))))) (bNot (bTru (eCB isF (aCons (eOp ixF (eVar 2) (eC (.int 1))) (aCons (eC (.ty "bool")) aNil))))))
      (sRet (eC .non))
      sNext)
    (sSeq (sSet 3 (eCall m_shape_of (aCons (eOp ixF (eVar 2) (eC (.int 0))) aNil)))
    (sSeq (sIf (bEx (eOp isnF (eVar 3) (eC .non)))
      (sRet (eC .non))
      sNext)
    (sDrop (eBM "list" appF (eVar 1) (aCons (eTup (aCons (eVar 3) (aCons (eOp ixF (eVar 2) (eC (.int 1))) aNil))) aNil))))))
/-- seen_of: value 0, found 1, pair 2, shape 3 -/
def m_seen_of : Fn := runB 4
  (sSeq (sIf (bNot (bTru (eCall m_is_row (aCons (eVar 0) (aCons (eC (.int 0)) (aCons (eC (.int 6)) aNil))))))
    (sRet (eC .non))
    sNext)
  (sSeq (sSet 1 (eCell aNil))
  (sSeq (sFor (iSeq (eVar 0)) (.n 2)
    m_seen_of_l1)
  (sSeq (sIf (bEx (eOp gtF (eCB lenF (aCons (eCall m_universe (aCons (eVar 1) aNil)) aNil)) (eC (.int 8))))
    (sRet (eC .non))
    sNext)
  (sRet (eCB tupleF (aCons (eVar 1) aNil)))))))
/-- _seen: seen 0, told 1 -/
def m_seen : Fn := runB 2
  (sSeq (sSet 1 (eCall m_seen_of (aCons (eVar 0) aNil)))
  (sSeq (sIf (bEx (eOp isnF (eVar 1) (eC .non)))
    (sRaise "BadValue" ["at"] (aCons (eC (.int 0)) aNil))
    sNext)
  (sRet (eVar 1))))
/-- has_mask: told 0, mask 1 -/
def m_has_mask : Fn := runB 2
  (sRet (eOp eqF (eOp bandF (eOp shrF (eVar 0) (eVar 1)) (eC (.int 1))) (eC (.int 1))))
def m_is_broken_c1 : SE :=
  (eCall m_is_name (aCons (eVar 1) aNil))
/-- is_broken: value 0, name 1 -/
def m_is_broken : Fn := runB 2
  (sRet (eAnd (eCall m_is_row (aCons (eVar 0) (aCons (eC (.int 0)) (aCons (eC (.int 30)) aNil)))) (eCB allF (aCons (eLc (iSeq (eVar 0)) (.n 1) [1] (fun _ h => .ok true h) m_is_broken_c1) aNil))))
def m_other_way_l1 : SS :=
  (sSeq (sSet 3 (eOp shlF (eC (.int 1)) (eVar 2)))
    (sSeq (sSet 4 (eCall m_column (aCons (eVar 2) (aCons (eVar 1) aNil))))
    (sSet 0 (eOp borF (eOp shrF (eOp bandF (eVar 0) (eVar 4)) (eVar 3)) (eOp shlF (eOp bandF (eVar 0) (eOp bxorF (eCall m_everywhere (aCons (eVar 1) aNil)) (eVar 4))) (eVar 3))))))
/-- other_way: told 0, count 1, place 2, run 3, inside 4 -/
def m_other_way : Fn := runB 5
  (sSeq (sFor (iRg1 (aCons (eVar 1) aNil)) (.n 2)
    m_other_way_l1)
  (sRet (eVar 0)))
def m_explained_l1 : SS :=
  (sSeq (sSet 6 (eCall m_table (aCons (eVar 4) (aCons (eVar 1) aNil))))
    (sSet 3 (eOp bandF (eVar 3) (eIf (bTru (eVar 5)) (eVar 6) (eOp bxorF (eVar 6) (eCall m_everywhere (aCons (eVar 2) aNil)))))))
/-- explained: seen 0, names 1, count 2, told 3, shape 4, saw 5, works 6 -/
def m_explained : Fn := runB 7
  (sSeq (sSet 2 (eCB lenF (aCons (eVar 1) aNil)))
  (sSeq (sSet 3 (eCall m_everywhere (aCons (eVar 2) aNil)))
  (sSeq (sFor (iSeq (eVar 0)) (.t ((.n 4) :: ((.n 5) :: [])))
    m_explained_l1)
  (sRet (eCall m_other_way (aCons (eVar 3) (aCons (eVar 2) aNil)))))))
def m_mask_of_l1 : SS :=
  (sIf (bEx (eOp (inG false) (eVar 4) (eVar 1)))
      (sSet 2 (eOp borF (eVar 2) (eOp shlF (eC (.int 1)) (eVar 3))))
      sNext)
/-- mask_of: names 0, some 1, mask 2, k 3, name 4 -/
def m_mask_of : Fn := runB 5
  (sSeq (sSet 2 (eC (.int 0)))
  (sSeq (sFor (iEnu (aCons (eVar 0) aNil)) (.t ((.n 3) :: ((.n 4) :: [])))
    m_mask_of_l1)
  (sRet (eVar 2))))
/-- explains: seen 0, broken 1, told 2, names 3 -/
def m_explains : Fn := runB 4
  (sSeq (sSet 2 (eCall m_seen (aCons (eVar 0) aNil)))
  (sSeq (sIf (bNot (bTru (eCall m_is_broken (aCons (eVar 1) aNil))))
    (sRaise "BadValue" ["at"] (aCons (eC (.int 1)) aNil))
    sNext)
  (sSeq (sSet 3 (eCall m_universe (aCons (eVar 2) aNil)))
  (sRet (eCall m_has_mask (aCons (eCall m_explained (aCons (eVar 2) (aCons (eVar 3) aNil))) (aCons (eCall m_mask_of (aCons (eVar 3) (aCons (eVar 1) aNil))) aNil)))))))
def m_law_explains_c1 : SE :=
  (eVar 4)
def m_law_explains_t1 : SB :=
  (bEx (eOp neF (eCall (m_law_works 24) (aCons (eOp ixF (eVar 4) (eC (.int 0))) (aCons (eVar 3) aNil))) (eOp ixF (eVar 4) (eC (.int 1)))))
/-- _law_explains: seen 0, universe_v 1, broken 2, up 3, pair 4 -/
def m_law_explains : Fn := runB 5
  (sSeq (sSet 3 (eCall m_law_others (aCons (eVar 1) (aCons (eVar 2) aNil))))
  (sRet (eOp eqF (eCB lenF (aCons (eLc (iSeq (eVar 0)) (.n 4) [4] m_law_explains_t1 m_law_explains_c1) aNil)) (eC (.int 0)))))
end Mp
namespace Mp
open PySem PySem.Spec PyProof.Rows L2
/-! ### mirrors: Rnk -/
def m_law_order_c1 : SE :=
  (eTup (aCons (eCB lenF (aCons (eVar 2) aNil)) (aCons (eCB tupleF (aCons (eVar 2) aNil)) aNil)))
def m_law_order_c2 : SE :=
  (eOp ixF (eVar 2) (eC (.int 1)))
/-- _law_order: sets 0, keyed 1, one 2 -/
def m_law_order : Fn := runB 3
  (sSeq (sSet 1 (eCB sortZF (aCons (eLc (iSeq (eVar 0)) (.n 2) [2] (fun _ h => .ok true h) m_law_order_c1) aNil)))
  (sRet (eCB tupleF (aCons (eLc (iSeq (eVar 1)) (.n 2) [2] (fun _ h => .ok true h) m_law_order_c2) aNil))))
def m_named_c1 : SE :=
  (eVar 3)
def m_named_t1 : SB :=
  (bTru (eOp bandF (eOp shrF (eVar 0) (eVar 2)) (eC (.int 1))))
/-- named: mask 0, names 1, k 2, name 3 -/
def m_named : Fn := runB 4
  (sRet (eCB tupleF (aCons (eLc (iEnu (aCons (eVar 1) aNil)) (.t ((.n 2) :: ((.n 3) :: []))) [2, 3] m_named_t1 m_named_c1) aNil)))
def m_masks_of_c1 : SE :=
  (eVar 2)
def m_masks_of_t1 : SB :=
  (bTru (eOp bandF (eOp shrF (eVar 0) (eVar 2)) (eC (.int 1))))
/-- masks_of: told 0, count 1, mask 2 -/
def m_masks_of : Fn := runB 3
  (sRet (eLc (iRg1 (aCons (eOp shlF (eC (.int 1)) (eVar 1)) aNil)) (.n 2) [2] m_masks_of_t1 m_masks_of_c1))
/-- rank: mask 0, names 1, some 2 -/
def m_rank : Fn := runB 3
  (sSeq (sSet 2 (eCall m_named (aCons (eVar 0) (aCons (eVar 1) aNil))))
  (sRet (eTup (aCons (eCB lenF (aCons (eVar 2) aNil)) (aCons (eVar 2) aNil)))))
def m_masks_k1 : SE :=
  (eCall m_rank (aCons (eVar 0) (aCons (eVar 1) aNil)))
/-- _masks: told 0, names 1, masks 2 -/
def m_masks : Fn := runB 3
  (sSeq (sSet 2 (eCall m_masks_of (aCons (eCall m_explained (aCons (eVar 0) (aCons (eVar 1) aNil))) (aCons (eCB lenF (aCons (eVar 1) aNil)) aNil))))
  (sRet (eSortL (eVar 2) 2 [1] m_masks_k1)))
def m_law_inside_c1 : SE :=
  (eVar 2)
def m_law_inside_t1 : SB :=
  (bEx (eOp (inG true) (eVar 2) (eVar 1)))
/-- _law_inside: one 0, other 1, name 2 -/
def m_law_inside : Fn := runB 3
  (sRet (eOp eqF (eCB lenF (aCons (eLc (iSeq (eVar 0)) (.n 2) [2] m_law_inside_t1 m_law_inside_c1) aNil)) (eC (.int 0))))
end Mp
namespace Mp
open PySem PySem.Spec PyProof.Rows L2
/-! ### mirrors: Dua -/
def m_turned_c1 (self : Fn) : SE :=
  (eCall self (aCons (eVar 2) aNil))
/-- turned: e 0, members 1, member 2 -/
def m_turned : Nat → Fn
  | 0 => fun _ _ => .bad
  | n + 1 => runB 3 (sSeq (sIf (bEx (eOp eqF (eOp ixF (eVar 0) (eC (.int 0))) (eC (.str "part"))))
    (sRet (eTup (aCons (eC (.str "part")) (aCons (eOp ixF (eVar 0) (eC (.int 1))) aNil))))
    sNext)
  (sSeq (sSet 1 (eCB tupleF (aCons (eLc (iSeq (eOp ixF (eVar 0) (eUn negF (eC (.int 1))))) (.n 2) [2] (fun _ h => .ok true h) (m_turned_c1 (m_turned n))) aNil)))
  (sSeq (sIf (bEx (eOp eqF (eOp ixF (eVar 0) (eC (.int 0))) (eC (.str "all"))))
    (sRet (eTup (aCons (eC (.str "any")) (aCons (eVar 1) aNil))))
    sNext)
  (sSeq (sIf (bEx (eOp eqF (eOp ixF (eVar 0) (eC (.int 0))) (eC (.str "any"))))
    (sRet (eTup (aCons (eC (.str "all")) (aCons (eVar 1) aNil))))
    sNext)
  (sRet (eTup (aCons (eC (.str "some")) (aCons (eOp addF (eOp subF (eCB lenF (aCons (eVar 1) aNil)) (eOp ixF (eVar 0) (eC (.int 1)))) (eC (.int 1))) (aCons (eVar 1) aNil)))))))))
/-- dual: e 0 -/
def m_dual : Fn := runB 1
  (sSeq (sDrop (eCall m_look_2 (aCons (eVar 0) aNil)))
  (sRet (eCall (m_turned 24) (aCons (eVar 0) aNil))))
end Mp
namespace Mp
open PySem PySem.Spec PyProof.Rows L2
/-! ### mirrors: Fam -/
/-- by_length: one 0 -/
def m_by_length : Fn := runB 1
  (sRet (eTup (aCons (eCB lenF (aCons (eVar 0) aNil)) (aCons (eVar 0) aNil))))
def m_members_of_c1 : SE :=
  (eVar 3)
def m_members_of_t1 : SB :=
  (bEx (eOp eqF (eOp bandF (eOp shrF (eVar 0) (eVar 2)) (eC (.int 1))) (eC (.int 1))))
/-- members_of: mask 0, names 1, k 2, name 3 -/
def m_members_of : Fn := runB 4
  (sRet (eCB tupleF (aCons (eLc (iEnu (aCons (eVar 1) aNil)) (.t ((.n 2) :: ((.n 3) :: []))) [2, 3] m_members_of_t1 m_members_of_c1) aNil)))
def m_sorted_sets_c1 : SE :=
  (eCall m_members_of (aCons (eVar 2) (aCons (eVar 1) aNil)))
/-- sorted_sets: masks 0, names 1, mask 2 -/
def m_sorted_sets : Fn := runB 3
  (sRet (eCB tupleF (aCons (eSortD (eLc (iSeq (eVar 0)) (.n 2) [2] (fun _ h => .ok true h) m_sorted_sets_c1) m_by_length) aNil)))
def m_contains_one_l1 : SS :=
  (sIf (bEx (eOp eqF (eOp bandF (eVar 2) (eVar 0)) (eVar 2)))
      (sRet (eC (.bl true)))
      sNext)
/-- contains_one: mask 0, family 1, one 2 -/
def m_contains_one : Fn := runB 3
  (sSeq (sFor (iSeq (eVar 1)) (.n 2)
    m_contains_one_l1)
  (sRet (eC (.bl false))))
def m_least_l1 : SS :=
  (sIf (bNot (bTru (eCall m_contains_one (aCons (eVar 2) (aCons (eVar 1) aNil)))))
      (sDrop (eBM "list" appF (eVar 1) (aCons (eVar 2) aNil)))
      sNext)
/-- least: masks 0, family 1, mask 2 -/
def m_least : Fn := runB 3
  (sSeq (sSet 1 (eCell aNil))
  (sSeq (sFor (iSeq (eVar 0)) (.n 2)
    m_least_l1)
  (sRet (eVar 1))))
/-- either: one 0, other 1 -/
def m_either : Fn := runB 2
  (sRet (eCall m_least (aCons (eSS (eOp addF (eVar 0) (eVar 1))) aNil)))
/-- both: one 0, other 1, a 2, b 3 -/
def m_both : Fn := runB 4
  (sRet (eCall m_least (aCons (eS2 0 1 2 3) aNil)))
def m_at_least_c1 : SE :=
  (eLst aNil)
def m_at_least_l1 : SS :=
  (sPut setF (eCall m_either (aCons (eOp ixF (eVar 2) (eVar 6)) (aCons (eCall m_both (aCons (eOp ixF (eVar 2) (eOp subF (eVar 6) (eC (.int 1)))) (aCons (eVar 5) aNil))) aNil))) (eVar 2) (eVar 6))
def m_at_least_l2 : SS :=
  (sSeq (sAug 3 subF (eC (.int 1)))
    (sFor (iRg3 (aCons (eCB minF (aCons (eVar 0) (aCons (eOp addF (eVar 4) (eC (.int 1))) aNil))) (aCons (eOp subF (eCB maxF (aCons (eC (.int 1)) (aCons (eOp subF (eVar 0) (eVar 3)) aNil))) (eC (.int 1))) (aCons (eUn negF (eC (.int 1))) aNil)))) (.n 6)
      m_at_least_l1))
/-- at_least: need 0, families 1, rows 2, rest 3, k 4, family 5, j 6, _ 7 -/
def m_at_least : Fn := runB 8
  (sSeq (sSet 2 (eOp addC (eLst (aCons (eLst (aCons (eC (.int 0)) aNil)) aNil)) (eLc (iRg1 (aCons (eVar 0) aNil)) (.n 7) [7] (fun _ h => .ok true h) m_at_least_c1)))
  (sSeq (sSet 3 (eCB lenF (aCons (eVar 1) aNil)))
  (sSeq (sFor (iEnu (aCons (eVar 1) aNil)) (.t ((.n 4) :: ((.n 5) :: [])))
    m_at_least_l2)
  (sRet (eOp ixF (eVar 2) (eVar 0))))))
def m_path_masks_c1 (self : Fn) : SE :=
  (eCall self (aCons (eVar 3) (aCons (eVar 1) aNil)))
/-- path_masks: e 0, bits 1, families 2, member 3 -/
def m_path_masks : Nat → Fn
  | 0 => fun _ _ => .bad
  | n + 1 => runB 4 (sSeq (sIf (bEx (eOp eqF (eOp ixF (eVar 0) (eC (.int 0))) (eC (.str "part"))))
    (sRet (eLst (aCons (eOp dgF (eVar 1) (eOp ixF (eVar 0) (eC (.int 1)))) aNil)))
    sNext)
  (sSeq (sSet 2 (eLc (iSeq (eOp ixF (eVar 0) (eUn negF (eC (.int 1))))) (.n 3) [3] (fun _ h => .ok true h) (m_path_masks_c1 (m_path_masks n))))
  (sSeq (sIf (bEx (eOp eqF (eOp ixF (eVar 0) (eC (.int 0))) (eC (.str "all"))))
    (sRet (eCall m_at_least (aCons (eCB lenF (aCons (eVar 2) aNil)) (aCons (eVar 2) aNil))))
    sNext)
  (sSeq (sIf (bEx (eOp eqF (eOp ixF (eVar 0) (eC (.int 0))) (eC (.str "any"))))
    (sRet (eCall m_at_least (aCons (eC (.int 1)) (aCons (eVar 2) aNil))))
    sNext)
  (sRet (eCall m_at_least (aCons (eOp ixF (eVar 0) (eC (.int 1))) (aCons (eVar 2) aNil))))))))
/-- cut_masks: e 0, bits 1 -/
def m_cut_masks : Fn := runB 2
  (sRet (eCall (m_path_masks 24) (aCons (eCall (m_turned 24) (aCons (eVar 0) aNil)) (aCons (eVar 1) aNil))))
def m_bits_of_2_k1 : SE :=
  (eVar 2)
def m_bits_of_2_v1 : SE :=
  (eOp shlF (eC (.int 1)) (eVar 1))
/-- bits_of: names 0, k 1, name 2 -/
def m_bits_of_2 : Fn := runB 3
  (sRet (eDc (iEnu (aCons (eVar 0) aNil)) (.t ((.n 1) :: ((.n 2) :: []))) [1, 2] (fun _ h => .ok true h) m_bits_of_2_k1 m_bits_of_2_v1))
/-- cuts: e 0, names 1 -/
def m_cuts : Fn := runB 2
  (sSeq (sDrop (eCall m_look_2 (aCons (eVar 0) aNil)))
  (sSeq (sSet 1 (eCall m_names_in (aCons (eVar 0) aNil)))
  (sRet (eCall m_sorted_sets (aCons (eCall m_cut_masks (aCons (eVar 0) (aCons (eCall m_bits_of_2 (aCons (eVar 1) aNil)) aNil))) (aCons (eVar 1) aNil))))))
def m_law_least_c1 : SE :=
  (eVar 3)
def m_law_least_t1 : SB :=
  (bTru (eCall m_law_inside (aCons (eVar 3) (aCons (eVar 2) aNil))))
def m_law_least_l1 : SS :=
  (sIf (bEx (eOp eqF (eCB lenF (aCons (eLc (iSeq (eVar 1)) (.n 3) [3] m_law_least_t1 m_law_least_c1) aNil)) (eC (.int 0))))
      (sDrop (eBM "list" appF (eVar 1) (aCons (eVar 2) aNil)))
      sNext)
/-- _law_least: sets 0, made 1, one 2, other 3 -/
def m_law_least : Fn := runB 4
  (sSeq (sSet 1 (eCell aNil))
  (sSeq (sFor (iSeq (eCall m_law_order (aCons (eVar 0) aNil))) (.n 2)
    m_law_least_l1)
  (sRet (eCB tupleF (aCons (eVar 1) aNil)))))
/-- _path_sets: e 0, names 1 -/
def m_path_sets : Fn := runB 2
  (sSeq (sSet 1 (eCall m_names_in (aCons (eVar 0) aNil)))
  (sRet (eCall m_sorted_sets (aCons (eCall (m_path_masks 24) (aCons (eVar 0) (aCons (eCall m_bits_of_2 (aCons (eVar 1) aNil)) aNil))) (aCons (eVar 1) aNil)))))
/-- paths: e 0 -/
def m_paths : Fn := runB 1
  (sSeq (sDrop (eCall m_look_2 (aCons (eVar 0) aNil)))
  (sRet (eCall m_path_sets (aCons (eVar 0) aNil))))
end Mp
/-! PreSpec: what the laws' own helpers reckon. -/
namespace Mp
open PySem PySem.Spec PyProof.Rows L2
/-! ### loops -/
theorem upFrom_int {lo : Int} {n : Nat} : ∀ d ∈ upFrom lo n, ∃ j : Int, d = .int j ∧ lo ≤ j ∧ j < lo + n := by
  intro d hd
  unfold upFrom at hd
  obtain ⟨i, hi, rfl⟩ := List.mem_map.mp hd
  have := List.mem_range.mp hi
  exact ⟨_, rfl, by omega, by omega⟩
theorem upFrom_len {lo : Int} {n : Nat} : (upFrom lo n).length = n := by unfold upFrom; simp
theorem cutD_map {α β : Type} (f : α → β) (xs : List α) (lo hi : Option Int) : cutD (xs.map f) lo hi = (cutD xs lo hi).map f := by
  unfold cutD
  simp [List.map_take, List.map_drop]
theorem cutD_len {α : Type} (xs : List α) (lo hi : Option Int) : (cutD xs lo hi).length ≤ xs.length := by
  unfold cutD
  simp only [List.length_take, List.length_drop]; omega
/-! ### the row of numbers -/
theorem dok997 : divOk 997 = true := divOk_of _ (by decide) (by decide) (by decide)
theorem numbers_l1 (sc : Option D) (c : Option D) (x5 : Option D) : ∀ (items : List D) (l : Int) (x4 : Option D) (acc : List Int), (∃ y3 y4 acc', fl (fun _ => true) (.n 4) m_law_numbers_l1 items [sc, some (.ref 0), c, some (.int l), x4, x5] [.lst (acc.map D.int)] = .nx [sc, some (.ref 0), c, y3, y4, x5] [.lst ((acc' : List Int).map D.int)] ∧ acc'.length ≤ acc.length + items.length) ∨ 999999 < acc.length + items.length
  | [], l, x4, acc => .inl ⟨some (.int l), x4, acc, by simp [fl], by simp⟩
  | d :: r, l, x4, acc => by
    by_cases hb : acc.length + (d :: r).length ≤ 999999
    · left
      unfold fl
      simp only [if_true, bindP_n]
      by_cases hl : l = 0
      · subst hl
        exact ⟨some (.int 0), some d, acc, by simp [m_law_numbers_l1], by simp⟩
      · have hacc : acc.length < 1000000 := by simp at hb; omega
        have e1 : m_law_numbers_l1 [sc, some (.ref 0), c, some (.int l), some d, x5] [.lst (acc.map D.int)] = .nx [sc, some (.ref 0), c, some (.int (l.fdiv 997)), some d, x5] [.lst ((acc ++ [l % 997]).map D.int)] := by
          simp [m_law_numbers_l1, hl, kindOk, appF, hacc, dok997]
        simp only [List.set_cons_succ, List.set_cons_zero, e1]
        rcases numbers_l1 sc c x5 r (l.fdiv 997) (some d) (acc ++ [l % 997]) with ⟨y3, y4, acc', e, hlen⟩ | z
        · exact ⟨y3, y4, acc', e, by simp at hlen ⊢; omega⟩
        · simp at z hb; omega
    · right; omega
theorem numbers_l2 (sc x3 : Option D) (c : Int) : ∀ (items : List D) (x4 x5 : Option D) (acc : List Int), (∀ d ∈ items, ∃ j : Int, d = .int j) → acc.length + items.length ≤ 999999 →
    ∃ y4 y5 acc', fl (fun _ => true) (.n 4) m_law_numbers_l2 items [sc, some (.ref 0), some (.int c), x3, x4, x5] [.lst (acc.map D.int)] = .nx [sc, some (.ref 0), some (.int c), x3, y4, y5] [.lst ((acc' : List Int).map D.int)] ∧ acc'.length ≤ acc.length + items.length
  | [], x4, x5, acc, _, _ => ⟨x4, x5, acc, by simp [fl], by simp⟩
  | d :: r, x4, x5, acc, hi, hb => by
    obtain ⟨j, rfl⟩ := hi d (by simp)
    have hacc : acc.length < 1000000 := by simp at hb; omega
    unfold fl
    simp only [if_true, bindP_n, List.set_cons_succ, List.set_cons_zero]
    have m1 : mulOk c 48271 = true := mulOk_r _ _ (by decide) (by decide)
    have m2 : mulOk j 69621 = true := mulOk_r _ _ (by decide) (by decide)
    have m3 : ∀ z, mulOk z 16807 = true := fun z => mulOk_r _ _ (by decide) (by decide)
    obtain ⟨v, w, e1⟩ : ∃ v w, m_law_numbers_l2 [sc, some (.ref 0), some (.int c), x3, some (.int j), x5] [.lst (acc.map D.int)] = .nx [sc, some (.ref 0), some (.int c), x3, some (.int j), some v] [.lst ((acc ++ [w]).map D.int)] := by
      simp [m_law_numbers_l2, kindOk, appF, hacc, m1, m2, m3]
    simp only [e1]
    obtain ⟨y4, y5, acc', e, hlen⟩ := numbers_l2 sc x3 c r (some (.int j)) (some v) (acc ++ [w]) (fun d hd => hi d (by simp [hd])) (by simp at hb ⊢; omega)
    exact ⟨y4, y5, acc', e, by simp at hlen ⊢; omega⟩
theorem numbers_l3 (sc : Option D) : ∀ (zs : List Int) (x2 x3 x4 x5 : Option D) (acc : List Int), acc.length + 60 * zs.length ≤ 999999 →
    ∃ y2 y3 y4 y5 acc', fl (fun _ => true) (.n 2) m_law_numbers_l3 (zs.map D.int) [sc, some (.ref 0), x2, x3, x4, x5] [.lst (acc.map D.int)] = .nx [sc, some (.ref 0), y2, y3, y4, y5] [.lst ((acc' : List Int).map D.int)] ∧ acc'.length ≤ acc.length + 60 * zs.length
  | [], x2, x3, x4, x5, acc, _ => ⟨x2, x3, x4, x5, acc, by simp [fl], by simp⟩
  | c :: r, x2, x3, x4, x5, acc, hb => by
    simp only [List.length_cons] at hb
    have key : ∃ y2 y3 y4 y5 acc', m_law_numbers_l3 [sc, some (.ref 0), some (.int c), x3, x4, x5] [.lst (acc.map D.int)] = .nx [sc, some (.ref 0), y2, y3, y4, y5] [.lst ((acc' : List Int).map D.int)] ∧ acc'.length ≤ acc.length + 60 := by
      by_cases hc : (1000000000000000000 : Int) ≤ c
      · rcases numbers_l1 sc (some (.int c)) x5 (upFrom 0 60) c x4 acc with ⟨y3, y4, acc', e, hl⟩ | z
        · exact ⟨some (.int c), y3, y4, x5, acc', by simp [m_law_numbers_l3, hc, e], by rw [upFrom_len] at hl; exact hl⟩
        · rw [upFrom_len] at z; omega
      · obtain ⟨y4, y5, acc', e, hl⟩ := numbers_l2 sc x3 c (upFrom 0 4) x4 x5 acc (fun d hd => by obtain ⟨j, e, _⟩ := upFrom_int d hd; exact ⟨j, e⟩) (by rw [upFrom_len]; omega)
        exact ⟨some (.int c), x3, y4, y5, acc', by simp [m_law_numbers_l3, hc, e], by rw [upFrom_len] at hl; omega⟩
    obtain ⟨y2, y3, y4, y5, acc1, e1, h1⟩ := key
    obtain ⟨z2, z3, z4, z5, acc2, e2, h2⟩ := numbers_l3 sc r y2 y3 y4 y5 acc1 (by omega)
    refine ⟨z2, z3, z4, z5, acc2, ?_, by simp only [List.length_cons]; omega⟩
    rw [List.map_cons]
    unfold fl
    simp only [if_true, bindP_n, List.set_cons_succ, List.set_cons_zero, e1]
    exact e2
theorem numbers_raw (b : Bool) (ns : List Int) (hn : ns.length ≤ 63) : ∃ row : List Int, row ≠ [] ∧ row.length ≤ 4000 ∧ m_law_numbers [scD b (ns.map D.int)] [] = .ok (.ref 0) [.lst (row.map D.int)] := by
  unfold m_law_numbers
  rw [runB_s]
  have e0 : ∀ h, slF (scD b (ns.map D.int)) none (some 63) h = .ok (.lst (cutD (ns.map D.int) none (some 63))) h := fun h => by cases b <;> simp [scD, slF]
  simp [e0, cutD_map]
  generalize hz : cutD ns none (some 63) = zs
  have hzl : zs.length ≤ 63 := by rw [← hz]; exact Nat.le_trans (cutD_len _ _ _) hn
  obtain ⟨y2, y3, y4, y5, row, e, hl⟩ := numbers_l3 (some (scD b (ns.map D.int))) zs none none none none [] (by simp; omega)
  simp only [List.map_nil] at e
  rw [e]
  by_cases hr : row = []
  · subst hr
    exact ⟨[0], by simp, by simp, by simp [kindOk, appF, lenF]⟩
  · have : (row.map D.int).length ≠ 0 := by simpa using hr
    refine ⟨row, hr, by simp at hl; omega, ?_⟩
    simp [lenF, hr]
/-- the row of numbers that a law makes of its script -/
theorem numbers_ok (b : Bool) (ns : List Int) (hn : ns.length ≤ 63) : ∃ row : List Int, row ≠ [] ∧ row.length ≤ 4000 ∧ ∀ h, callL m_law_numbers [scD b (ns.map D.int)] h = .ok (.lst (row.map D.int)) h := by
  obtain ⟨row, h1, h2, e⟩ := numbers_raw b ns hn
  exact ⟨row, h1, h2, call_pure (by cases b <;> simp [scD]) e (frz_cell (by simp) rfl (by simp))⟩
/-! ### draws -/
def draw (row : List Int) (at_ lim : Int) : Int :=
  if at_ < row.length then row.getD at_.toNat 0 % lim else ((((row.getD (at_ % row.length).toNat 0 * 40692 + at_ * 7919 + 3) % 2147483399) * 48271 + at_) % 2147483647) % lim
theorem draw_range {row : List Int} {a l : Int} (hl : 0 < l) : 0 ≤ draw row a l ∧ draw row a l < l := by
  unfold draw
  split
  · exact ⟨Int.emod_nonneg _ (by omega), Int.emod_lt_of_pos _ hl⟩
  · exact ⟨Int.emod_nonneg _ (by omega), Int.emod_lt_of_pos _ hl⟩
theorem draw_ok {row : List Int} (hr : row ≠ []) {a l : Int} (ha : 0 ≤ a) (hl : 0 < l) (h : Hc) : callL m_law_draw [.lst (row.map D.int), .int a, .int l] h = .ok (.int (draw row a l)) h := by
  refine call_flat (h' := []) (by simp) ?_ (by simp) h
  unfold m_law_draw
  rw [runB_s]
  have hp : 0 < row.length := by cases row <;> simp_all
  have m1 : ∀ z, mulOk z 40692 = true := fun z => mulOk_r _ _ (by decide) (by decide)
  have m2 : mulOk a 7919 = true := mulOk_r _ _ (by decide) (by decide)
  have m3 : ∀ z, mulOk z 48271 = true := fun z => mulOk_r _ _ (by decide) (by decide)
  by_cases hc : a < row.length
  · have e : atI (row.map D.int) a = some (.int (row.getD a.toNat 0)) := by
      rw [atI_of ha (by simpa using hc)]
      have : a.toNat < row.length := by omega
      simp [this]
    simp [hc, e, hl, draw]
  · have h1 := Int.emod_nonneg a (show (row.length : Int) ≠ 0 by omega)
    have h2 := Int.emod_lt_of_pos a (show (0 : Int) < row.length by omega)
    have e : atI (row.map D.int) (a % row.length) = some (.int (row.getD (a % row.length).toNat 0)) := by
      rw [atI_of h1 (by simpa using h2)]
      have : (a % row.length).toNat < row.length := by omega
      simp [this]
    simp [hc, e, hl, draw, m1, m2, m3, hp]
theorem take_raw {row : List Int} (hr : row ≠ []) {k l : Int} (hk : 0 ≤ k) (hl : 0 < l) : m_law_take [.lst (row.map D.int), .ref 0, .int l] [.lst [.int k]] = .ok (.int (draw row k l)) [.lst [.int (k + 1)]] := by
  unfold m_law_take
  rw [runB_s]
  simp [ixF, setF, ixN, draw_ok hr hk hl]
theorem take_ok {row : List Int} (hr : row ≠ []) {k l : Int} {i : Nat} {h : Hc} (hi : h[i]? = some (.lst [.int k])) (hk : 0 ≤ k) (hl : 0 < l) : callL m_law_take [.lst (row.map D.int), .ref i, .int l] h = .ok (.int (draw row k l)) (h.set i (.lst [.int (k + 1)])) :=
  call_spot (by simp) (by simp) hi (take_raw hr hk hl) (by simp) fun j => frzD_flat (by simp)
end Mp
/-! PreSpecB: draws that are wide, and the law's own quotients. -/
namespace Mp
open PySem PySem.Spec PyProof.Rows L2
section
variable {row : List Int} (hr : row ≠ [])
include hr
theorem take_ex {k l : Int} {i : Nat} {h : Hc} (hi : h[i]? = some (.lst [.int k])) (hk : 0 ≤ k) (hl : 0 < l) : ∃ v k', 0 ≤ v ∧ v < l ∧ 0 ≤ k' ∧ callL m_law_take [.lst (row.map D.int), .ref i, .int l] h = .ok (.int v) (h.set i (.lst [.int k'])) :=
  ⟨draw row k l, k + 1, (draw_range hl).1, (draw_range hl).2, by omega, take_ok hr hi hk hl⟩
end
/-! ### the gcd -/
theorem divOk_nat {b : Nat} (h0 : b ≠ 0) (h1 : b < 2 ^ 8000) : divOk (b : Int) = true := by
  unfold divOk
  have := (Nat.log2_lt h0).mpr h1
  simp; exact ⟨h0, by omega⟩
theorem gcd_l1_zero {o1 o2 x4 x5 : Option D} {a : Int} {h : Hc} : m_law_gcd_l1 [o1, o2, some (.int a), some (.int 0), x4, x5] h = .bk [o1, o2, some (.int a), some (.int 0), x4, x5] h := by
  simp [m_law_gcd_l1]
theorem gcd_l1_step {o1 o2 x4 x5 : Option D} {a b : Nat} {h : Hc} (hb : b ≠ 0) (h1 : b < 2 ^ 8000) : m_law_gcd_l1 [o1, o2, some (.int a), some (.int b), x4, x5] h = .nx [o1, o2, some (.int b), some (.int ((a % b : Nat) : Int)), x4, some (.int ((a % b : Nat) : Int))] h := by
  have : ¬ ((b : Int) = 0) := by omega
  have hp : (0 : Int) < b := by omega
  simp [m_law_gcd_l1, hb, hp, Nat.pos_of_ne_zero hb]
theorem gcd_loop : ∀ (m : Nat) (items : List D) (o1 o2 x4 x5 : Option D) (a b : Nat) (h : Hc), m ≤ 8000 → b < 2 ^ m → 2 * m + 1 ≤ items.length →
    ∃ y4 y5, fl (fun _ => true) (.n 4) m_law_gcd_l1 items [o1, o2, some (.int a), some (.int b), x4, x5] h = .nx [o1, o2, some (.int (Nat.gcd a b : Nat)), some (.int 0), y4, y5] h
  | m, [], _, _, _, _, _, _, _, _, _, hl => by simp at hl
  | 0, d :: r, o1, o2, x4, x5, a, b, h, _, hb, _ => by
    have : b = 0 := by simpa using hb
    subst this
    refine ⟨some d, x5, ?_⟩
    unfold fl
    simp only [if_true, bindP_n, List.set_cons_succ, List.set_cons_zero, Int.ofNat_zero, Nat.gcd_zero_right, Int.natCast_zero, gcd_l1_zero]
  | m + 1, d :: [], o1, o2, x4, x5, a, b, h, _, hb, hl => by simp at hl
  | m + 1, d :: d' :: r, o1, o2, x4, x5, a, b, h, hm, hb, hl => by
    by_cases h0 : b = 0
    · subst h0
      refine ⟨some d, x5, ?_⟩
      unfold fl
      simp only [if_true, bindP_n, List.set_cons_succ, List.set_cons_zero, Int.natCast_zero, Nat.gcd_zero_right, gcd_l1_zero]
    · have hb8 : b < 2 ^ 8000 := Nat.lt_of_lt_of_le hb (Nat.pow_le_pow_right (by decide) hm)
      have hlt : a % b < b := Nat.mod_lt _ (by omega)
      have g1 : Nat.gcd a b = Nat.gcd b (a % b) := by rw [Nat.gcd_comm a b, Nat.gcd_rec, Nat.gcd_comm]
      unfold fl
      simp only [if_true, bindP_n, List.set_cons_succ, List.set_cons_zero, gcd_l1_step h0 hb8]
      by_cases h2 : a % b = 0
      · refine ⟨some d', some (.int 0), ?_⟩
        unfold fl
        simp only [if_true, bindP_n, List.set_cons_succ, List.set_cons_zero, h2, Int.natCast_zero, gcd_l1_zero, g1, Nat.gcd_zero_right]
      · unfold fl
        simp only [if_true, bindP_n, List.set_cons_succ, List.set_cons_zero, gcd_l1_step h2 (Nat.lt_trans hlt hb8)]
        have g2 : Nat.gcd a b = Nat.gcd (a % b) (b % (a % b)) := by rw [g1, Nat.gcd_comm b, Nat.gcd_rec, Nat.gcd_comm]
        rw [g2]
        refine gcd_loop m r o1 o2 _ _ _ _ h (by omega) ?_ (by simp at hl; omega)
        have hh : b % (a % b) < a % b := Nat.mod_lt _ (by omega)
        have hq : 1 ≤ b / (a % b) := Nat.div_pos (by omega) (by omega)
        have hd := Nat.div_add_mod b (a % b)
        have hm1 : a % b * 1 ≤ a % b * (b / (a % b)) := Nat.mul_le_mul_left _ hq
        rw [Nat.pow_succ] at hb
        omega
theorem gcd_ok (a b : Int) (hb : b.natAbs < 2 ^ 8000) (h : Hc) : callL m_law_gcd [.int a, .int b] h = .ok (.int (Int.gcd a b : Nat)) h := by
  refine call_flat (h' := []) (by simp) ?_ (by simp) h
  unfold m_law_gcd
  rw [runB_s]
  obtain ⟨y4, y5, e⟩ := gcd_loop 8000 (upFrom 0 20000) (some (.int a)) (some (.int b)) none none a.natAbs b.natAbs [] (Nat.le_refl _) hb (by rw [upFrom_len]; decide)
  have key : ∀ (f : O → O) (x : Option D), x = some (.int (a.natAbs : Int)) → f = f := fun _ _ _ => rfl
  by_cases h1 : 0 ≤ a <;> by_cases h2 : 0 ≤ b
  · have q1 : (a.natAbs : Int) = a := by omega
    have q2 : (b.natAbs : Int) = b := by omega
    rw [q1, q2] at e
    simp [h1, h2, e, Int.gcd]
  · have q1 : (a.natAbs : Int) = a := by omega
    have q2 : (b.natAbs : Int) = -b := by omega
    rw [q1, q2] at e
    simp [h1, h2, e, Int.gcd]
  · have q1 : (a.natAbs : Int) = -a := by omega
    have q2 : (b.natAbs : Int) = b := by omega
    rw [q1, q2] at e
    simp [h1, h2, e, Int.gcd]
  · have q1 : (a.natAbs : Int) = -a := by omega
    have q2 : (b.natAbs : Int) = -b := by omega
    rw [q1, q2] at e
    simp [h1, h2, e, Int.gcd]
/-! ### quotients -/
/-- the number that divides both, with the sign of the divisor -/
def sg (n d : Int) : Int := if d < 0 then -(Int.gcd n d : Int) else (Int.gcd n d : Int)
/-- a quotient in lowest terms -/
def rdc (n d : Int) : D := .tup [.int (n.fdiv (sg n d)), .int (d.fdiv (sg n d))]
@[simp] theorem flat_rdc (n d : Int) : flat (rdc n d) = true := by simp [rdc]
theorem sg_ne {n d : Int} (hd : d ≠ 0) : sg n d ≠ 0 := by
  have := Int.gcd_ne_zero_right (a := n) hd
  unfold sg; split <;> omega
theorem sg_divOk {n d : Int} (hd : d ≠ 0) (hb : d.natAbs < 2 ^ 8000) : divOk (sg n d) = true := by
  have h1 : Int.gcd n d ≤ d.natAbs := Nat.le_of_dvd (by omega) (Int.gcd_dvd_natAbs_right n d)
  have h2 : (sg n d).natAbs = Int.gcd n d := by unfold sg; split <;> simp
  have h3 := Int.gcd_ne_zero_right (a := n) hd
  unfold divOk
  simp only [Bool.and_eq_true, decide_eq_true_eq]
  refine ⟨sg_ne hd, ?_⟩
  rw [h2]
  have := (Nat.log2_lt h3).mpr (Nat.lt_of_le_of_lt h1 hb)
  omega
theorem red_pos (n : Nat) {a d : Int} (hd : 0 < d) (hb : d.natAbs < 2 ^ 8000) (h : Hc) : callL (m_law_red (n + 1)) [.int a, .int d] h = .ok (rdc a d) h := by
  refine call_flat (h' := []) (by simp) ?_ (by simp) h
  unfold m_law_red
  rw [runB_s]
  have h3 := Int.gcd_ne_zero_right (a := a) (show d ≠ 0 by omega)
  have h4 := sg_divOk (n := a) (show d ≠ 0 by omega) hb
  have h5 : ¬ d < 0 := by omega
  have h6 : sg a d = (Int.gcd a d : Int) := by unfold sg; rw [if_neg h5]
  rw [h6] at h4
  have h7 : ¬ ((Int.gcd a d : Int) = 0) := by omega
  have h8 : ¬ (a = 0 ∧ d = 0) := by omega
  simp [gcd_ok a d hb, h4, h5, h8, rdc, h6]
theorem red_ok (n : Nat) {a d : Int} (hd : d ≠ 0) (hb : d.natAbs < 2 ^ 8000) (h : Hc) : callL (m_law_red (n + 2)) [.int a, .int d] h = .ok (rdc a d) h := by
  by_cases hp : 0 < d
  · exact red_pos _ hp hb h
  · have hn : 0 < -d := by omega
    refine call_flat (h' := []) (by simp) ?_ (by simp) h
    have e := red_pos n (a := -a) hn (by rwa [Int.natAbs_neg]) []
    have er : rdc (-a) (-d) = rdc a d := by
      unfold rdc sg
      have h1 : ¬ (-d < 0) := by omega
      have h2 : d < 0 := by omega
      rw [if_neg h1, if_pos h2]
      simp only [Int.gcd_neg, Int.neg_gcd]
      rw [← Int.neg_fdiv_neg a, ← Int.neg_fdiv_neg d]; simp
    have h2 : d < 0 := by omega
    unfold m_law_red
    rw [runB_s]
    simp [h2, e, er]
end Mp
/-! PreSpecC: sums of quotients, the same answer, what is handed in. -/
namespace Mp
open PySem PySem.Spec PyProof.Rows L2
/-- a quotient as a value -/
abbrev qv (n d : Int) : D := .tup [.int n, .int d]
/-- a number that is small -/
def sm (m : Nat) (n : Int) : Prop := n.natAbs < 2 ^ m
theorem sm_mul {a b : Nat} {x y : Int} (hx : sm a x) (hy : sm b y) : sm (a + b) (x * y) := by
  unfold sm at *
  rw [Int.natAbs_mul, Nat.pow_add]
  exact Nat.mul_lt_mul'' hx hy
theorem sm_le {a b : Nat} {x : Int} (h : a ≤ b) (hx : sm a x) : sm b x := Nat.lt_of_lt_of_le hx (Nat.pow_le_pow_right (by decide) h)
theorem mulOk_sm {x y : Int} (hx : sm 8000 x) (hy : sm 8000 y) : mulOk x y = true := by
  unfold mulOk
  have l : ∀ {z : Int}, sm 8000 z → z.natAbs.log2 < 8000 := by
    intro z hz
    by_cases h0 : z.natAbs = 0
    · rw [h0]; decide
    · exact (Nat.log2_lt h0).mpr hz
  have := l hx; have := l hy
  simp only [Bool.or_eq_true, decide_eq_true_eq]
  right; omega
theorem law_add_ok {a b c d : Int} (ha : sm 4000 a) (hb : sm 4000 b) (hc : sm 4000 c) (hd : sm 4000 d) (b0 : b ≠ 0) (d0 : d ≠ 0) (h : Hc) : callL m_law_add [qv a b, qv c d] h = .ok (rdc (a * d + c * b) (b * d)) h := by
  refine call_flat (h' := []) (by simp) ?_ (by simp) h
  have s := @sm_le 4000 8000
  have m1 := mulOk_sm (s (by decide) ha) (s (by decide) hd)
  have m2 := mulOk_sm (s (by decide) hc) (s (by decide) hb)
  have m3 := mulOk_sm (s (by decide) hb) (s (by decide) hd)
  have e := red_ok 22 (a := a * d + c * b) (d := b * d) (Int.mul_ne_zero b0 d0) (sm_mul hb hd) []
  unfold m_law_add
  rw [runB_s]
  simp at e
  simp [m1, m2, m3, e]
theorem law_sub_ok {a b c d : Int} (ha : sm 4000 a) (hb : sm 4000 b) (hc : sm 4000 c) (hd : sm 4000 d) (b0 : b ≠ 0) (d0 : d ≠ 0) (h : Hc) : callL m_law_sub [qv a b, qv c d] h = .ok (rdc (a * d - c * b) (b * d)) h := by
  refine call_flat (h' := []) (by simp) ?_ (by simp) h
  have s := @sm_le 4000 8000
  have m1 := mulOk_sm (s (by decide) ha) (s (by decide) hd)
  have m2 := mulOk_sm (s (by decide) hc) (s (by decide) hb)
  have m3 := mulOk_sm (s (by decide) hb) (s (by decide) hd)
  have e := red_ok 22 (a := a * d - c * b) (d := b * d) (Int.mul_ne_zero b0 d0) (sm_mul hb hd) []
  unfold m_law_sub
  rw [runB_s]
  simp at e
  simp [m1, m2, m3, e]
theorem law_mul_ok {a b c d : Int} (ha : sm 4000 a) (hb : sm 4000 b) (hc : sm 4000 c) (hd : sm 4000 d) (b0 : b ≠ 0) (d0 : d ≠ 0) (h : Hc) : callL m_law_mul [qv a b, qv c d] h = .ok (rdc (a * c) (b * d)) h := by
  refine call_flat (h' := []) (by simp) ?_ (by simp) h
  have s := @sm_le 4000 8000
  have m1 := mulOk_sm (s (by decide) ha) (s (by decide) hc)
  have m3 := mulOk_sm (s (by decide) hb) (s (by decide) hd)
  have e := red_ok 22 (a := a * c) (d := b * d) (Int.mul_ne_zero b0 d0) (sm_mul hb hd) []
  unfold m_law_mul
  rw [runB_s]
  simp at e
  simp [m1, m3, e]
theorem law_div_ok {a b c d : Int} (ha : sm 4000 a) (hb : sm 4000 b) (hc : sm 4000 c) (hd : sm 4000 d) (b0 : b ≠ 0) (c0 : c ≠ 0) (h : Hc) : callL m_law_div [qv a b, qv c d] h = .ok (rdc (a * d) (b * c)) h := by
  refine call_flat (h' := []) (by simp) ?_ (by simp) h
  have s := @sm_le 4000 8000
  have m1 := mulOk_sm (s (by decide) ha) (s (by decide) hd)
  have m3 := mulOk_sm (s (by decide) hb) (s (by decide) hc)
  have e := red_ok 22 (a := a * d) (d := b * c) (Int.mul_ne_zero b0 c0) (sm_mul hb hc) []
  unfold m_law_div
  rw [runB_s]
  simp at e
  simp [m1, m3, e]
/-! ### a quotient that is drawn -/
section
variable {row : List Int} (hr : row ≠ [])
include hr
end
/-! ### the same answer -/
def soFit : Nat → D → Bool
  | 0, _ => false
  | n + 1, d => match d with
    | .int _ => true
    | .bl _ => true
    | .str _ => true
    | .non => true
    | .tup xs => decide (xs.length < 1000000) && xs.all (soFit n)
    | _ => false
theorem soFit_flat : ∀ {n : Nat} {d : D}, soFit n d = true → flat d = true
  | 0, d, h => by simp [soFit] at h
  | n + 1, d, h => by
    cases d <;> simp [soFit] at h ⊢
    rename_i xs
    obtain ⟨_, h⟩ := h
    have : ∀ ys : List D, (∀ a ∈ ys, soFit n a = true) → flatL ys = true := by
      intro ys
      induction ys with
      | nil => simp
      | cons x ys ih =>
        intro h
        simp at h ⊢
        exact ⟨soFit_flat h.1, ih h.2⟩
    exact this xs h
theorem so_loop {n : Nat} {xs : List D} (ih : ∀ d h, soFit n d = true → callL (m_law_so n) [d, d] h = .ok (.bl true) h) (hx : ∀ x ∈ xs, soFit n x = true) : ∀ (items : List D) (x2 : Option D), (∀ d ∈ items, ∃ j : Int, d = .int j ∧ 0 ≤ j ∧ j < xs.length) → ∃ y2, fl (fun _ => true) (.n 2) (m_law_so_l1 (m_law_so n)) items [some (.tup xs), some (.tup xs), x2] [] = .nx [some (.tup xs), some (.tup xs), y2] []
  | [], x2, _ => ⟨x2, by simp [fl]⟩
  | d :: r, x2, hi => by
    obtain ⟨j, rfl, j0, j1⟩ := hi d (by simp)
    obtain ⟨y2, e⟩ := so_loop ih hx r (some (.int j)) fun d hd => hi d (by simp [hd])
    refine ⟨y2, ?_⟩
    have hj : j.toNat < xs.length := by omega
    have e2 : atI xs j = some xs[j.toNat] := by rw [atI_of j0 j1]; simp [hj]
    have e3 := ih xs[j.toNat] [] (hx _ (List.getElem_mem hj))
    unfold fl
    simp [m_law_so_l1, e2, e3]
    exact e
theorem so_step {n : Nat} (ih : ∀ d h, soFit n d = true → callL (m_law_so n) [d, d] h = .ok (.bl true) h) (d : D) (h : Hc) (hf : soFit (n + 1) d = true) : callL (m_law_so (n + 1)) [d, d] h = .ok (.bl true) h := by
  have hfl := soFit_flat hf
  refine call_flat (h' := []) (by simp [hfl]) ?_ (by simp) h
  unfold m_law_so
  rw [runB_s]
  cases d <;> simp [soFit] at hf
  · simp
  · simp
  · simp
  · simp
  · rename_i xs
    obtain ⟨hl, hx⟩ := hf
    obtain ⟨y2, e⟩ := so_loop ih hx (upFrom 0 xs.length) none (fun d hd => by
      obtain ⟨j, e, j0, j1⟩ := upFrom_int d hd
      exact ⟨j, e, j0, by omega⟩)
    simp [e, rgOk_nat (show xs.length < 4000000000000000000 by omega)]
theorem so_refl : ∀ (n : Nat) (d : D) (h : Hc), soFit n d = true → callL (m_law_so n) [d, d] h = .ok (.bl true) h := by
  intro n
  induction n with
  | zero => intro d h hf; simp [soFit] at hf
  | succ n ih => exact so_step ih
/-! ### what is handed in -/
/-- a row of two, as a tuple or as a list -/
def pq (b : Bool) (n d : Int) : D := if b then .lst [.int n, .int d] else qv n d
@[simp] theorem flat_pq (b : Bool) (n d : Int) : flat (pq b n d) = true := by cases b <;> simp [pq]
end Mp
/-! QuoSpec: what the program's quotients reckon. -/
namespace Mp
open PySem PySem.Spec PyProof.Rows L2
theorem lowest_ok {n d : Int} (hd : d ≠ 0) (hb : d.natAbs < 2 ^ 8000) (h : Hc) : callL m_lowest [.int n, .int d] h = .ok (rdc n d) h := by
  refine call_flat (h' := []) (by simp) ?_ (by simp) h
  have h4 := sg_divOk (n := n) hd hb
  unfold m_lowest
  rw [runB_s]
  have e : ((n.natAbs.gcd d.natAbs : Nat) : Int) = (Int.gcd n d : Int) := rfl
  by_cases h5 : d < 0
  · have h6 : sg n d = -(Int.gcd n d : Int) := by unfold sg; rw [if_pos h5]
    rw [h6] at h4
    simp [h5, e, h4, rdc, h6]
  · have h6 : sg n d = (Int.gcd n d : Int) := by unfold sg; rw [if_neg h5]
    rw [h6] at h4
    simp [h5, e, h4, rdc, h6]
theorem is_integer_int (i : Int) (h : Hc) : callL m_is_integer [.int i] h = .ok (.bl true) h := by
  refine call_flat (h' := []) (by simp) ?_ (by simp) h
  unfold m_is_integer
  rw [runB_s]
  simp
theorem is_row_pq (b : Bool) (n d : Int) (h : Hc) : callL m_is_row [pq b n d, .int 2, .int 2] h = .ok (.bl true) h := by
  have e : ∀ h, callL m_is_sequence [pq b n d] h = .ok (.bl true) h := fun h => by
    refine call_flat (h' := []) (by simp) ?_ (by simp) h
    unfold m_is_sequence
    rw [runB_s]
    cases b <;> simp [pq]
  refine call_flat (h' := []) (by simp) ?_ (by simp) h
  unfold m_is_row
  rw [runB_s]
  simp [e]
  cases b <;> simp [pq]
@[simp] theorem ix_pq0 (b : Bool) (n d : Int) (h : Hc) : ixF (pq b n d) (.int 0) h = .ok (.int n) h := by cases b <;> simp [pq]
@[simp] theorem ix_pq1 (b : Bool) (n d : Int) (h : Hc) : ixF (pq b n d) (.int 1) h = .ok (.int d) h := by cases b <;> simp [pq]
theorem is_fraction_ok (b : Bool) {n d : Int} (hd : 1 ≤ d) (hg : Int.gcd n d = 1) (h : Hc) : callL m_is_fraction [pq b n d] h = .ok (.bl true) h := by
  have e : n.natAbs.gcd d.natAbs = 1 := hg
  refine call_flat (h' := []) (by simp) ?_ (by simp) h
  unfold m_is_fraction
  rw [runB_s]
  simp [is_row_pq, is_integer_int, hd, e]
section
variable (x y : Bool) {a b c d : Int} (ha : sm 4000 a) (hb : sm 4000 b) (hc : sm 4000 c) (hd : sm 4000 d) (b1 : 1 ≤ b) (gab : Int.gcd a b = 1) (d1 : 1 ≤ d) (gcd_ : Int.gcd c d = 1) (h : Hc)
include ha hb hc hd b1 gab d1 gcd_
end
end Mp
/-! AgeSpec: lives, what they use and pay. -/
namespace Mp
open PySem PySem.Spec PyProof.Rows L2
/-- a row of numbers, as a list or as a tuple -/
def sq (b : Bool) (xs : List Int) : D := if b then .lst (xs.map D.int) else .tup (xs.map D.int)
theorem flatL_of {xs : List D} (h : ∀ x ∈ xs, flat x = true) : flatL xs = true := by
  induction xs with
  | nil => simp
  | cons x xs ih => simp [h x (by simp), ih fun y hy => h y (by simp [hy])]
section
variable {row : List Int} (hr : row ≠ [])
include hr
/-- one of some things -/
theorem pick_ex {k : Int} {i : Nat} {h : Hc} {xs : List D} (hf : ∀ x ∈ xs, flat x = true) (hx : xs ≠ []) (hi : h[i]? = some (.lst [.int k])) (hk : 0 ≤ k) : ∃ v k', v ∈ xs ∧ 0 ≤ k' ∧ callL m_law_pick [.lst (row.map D.int), .ref i, .lst xs] h = .ok v (h.set i (.lst [.int k'])) := by
  have hp : 0 < xs.length := by cases xs <;> simp_all
  obtain ⟨v, k1, a1, b1, c1, e1⟩ := take_ex hr (h := [.lst [.int k]]) (i := 0) (l := (xs.length : Int)) rfl hk (by omega)
  simp at e1
  have hj : v.toNat < xs.length := by omega
  have e2 : atI xs v = some xs[v.toNat] := by rw [atI_of a1 (by omega)]; simp [hj]
  refine ⟨xs[v.toNat], k1, List.getElem_mem hj, c1, call_spot (d0 := xs[v.toNat]) (h' := [.lst [.int k1]]) (by simp) (by simp [flatL_of hf]) hi ?_ rfl fun j => frzD_flat (hf _ (List.getElem_mem hj))⟩
  unfold m_law_pick
  rw [runB_s]
  simp [e1, e2]
end
theorem is_within_int (x lo hi : Int) (h : Hc) : callL m_is_within [.int x, .int lo, .int hi] h = .ok (.bl (decide (lo ≤ x) && decide (x ≤ hi))) h := by
  refine call_flat (h' := []) (by simp) ?_ (by simp) h
  unfold m_is_within
  rw [runB_s]
  by_cases h1 : lo ≤ x <;> simp [is_integer_int, h1]
/-- a life: some days, each with a weight, the last with one -/
structure Life (l : List Int) : Prop where
  ne : l ≠ []
  len : l.length ≤ 12
  w : ∀ x ∈ l, 0 ≤ x ∧ x ≤ 9
  last : ∀ h : l ≠ [], 1 ≤ l.getLast h
theorem setF_ok {n : Nat} {xs : List D} {h : Hc} {i : Int} {x : D} (e : h[n]? = some (.lst xs)) (h0 : 0 ≤ i) (h1 : i < xs.length) : setF (.ref n) (.int i) x h = some (h.set n (.lst (xs.set i.toNat x))) := by
  unfold setF
  simp only [e]
  have : ixN xs.length i = some i.toNat := by unfold ixN; rw [if_pos h0, if_pos h1]
  rw [this]; rfl
section
variable {row : List Int} (hr : row ≠ [])
include hr
end
/-- the days that a life uses, up to an age -/
def usedF (age : Int) : Int → List Int → Int
  | _, [] => 0
  | n, w :: r => w * (if age < n + 1 then age else n + 1) + usedF age (n + 1) r
/-- what a policy pays -/
def paidF (l : List Int) (plan fail : Int) (age : Nat) : Int := fail * (l.take age).sum + plan * (l.sum - (l.take age).sum)
theorem small8000 {z : Int} (h : z.natAbs < 2 ^ 60) : z.natAbs < 2 ^ 8000 := Nat.lt_of_lt_of_le h (Nat.pow_le_pow_right (by decide) (by decide))
/-! ### what the law pays -/
def costF (plan fail age : Int) : Int → List Int → Int
  | _, [] => 0
  | n, w :: r => w * (if n + 1 ≤ age then fail else plan) + costF plan fail age (n + 1) r
def daysF (age : Int) : Int → List Int → Int
  | _, [] => 0
  | n, w :: r => w * (if n + 1 ≤ age then n + 1 else age) + daysF age (n + 1) r
theorem upFrom_range (n : Nat) : upFrom 0 n = (List.range' 0 n).map fun (j : Nat) => D.int (j : Int) := by
  unfold upFrom
  rw [List.range_eq_range']
  simp
end Mp
/-! RdcSpec: quotients in lowest terms are one for each value. -/
namespace Mp
open PySem PySem.Spec PyProof.Rows L2
section
variable {a b c d N M : Int} (hb : 0 < b) (hd : 0 < d) (hM : 0 < M) (sa : sm 4000 a) (sb : sm 4000 b) (sc : sm 4000 c) (sd : sm 4000 d)
include hb hd hM sa sb sc sd
end
end Mp
/-! ChnSpec: chains, shares, what a day makes of them. -/
namespace Mp
open PySem PySem.Spec PyProof.Rows L2
/-! ### sequences of either kind -/
def sqs (b : Bool) (ds : List D) : D := if b then .lst ds else .tup ds
@[simp] theorem seqD_sqs (b : Bool) (xs : List D) (h : Hc) : seqD h (sqs b xs) = some xs := by cases b <;> rfl
@[simp] theorem chkQ_sqs (b : Bool) (xs : List D) : chkQ (sqs b xs) xs = fun _ => true := by cases b <;> simp [sqs]
@[simp] theorem len_sqs (b : Bool) (xs : List D) (h : Hc) : lenF [sqs b xs] h = .ok (.int xs.length) h := by cases b <;> simp [sqs]
theorem ix_sqs (b : Bool) (xs : List D) (i : Int) (h : Hc) : ixF (sqs b xs) (.int i) h = match atI xs i with
    | some d => .ok d h
    | none => .bad := by cases b <;> simp [sqs] <;> rfl
theorem flat_sqs (b : Bool) {xs : List D} (hx : flatL xs = true) : flat (sqs b xs) = true := by cases b <;> simp [sqs, hx]
/-! ### quotients: their two numbers -/
def nm (n d : Int) : Int := n.fdiv (sg n d)
def dn (n d : Int) : Int := d.fdiv (sg n d)
def shD (e : Bool) (a N : Int) : D := pq e (nm a N) (dn a N)
/-! ### one bottom for all -/
def lcmL (a : Int) : List Int → Int
  | [] => a
  | b :: r => lcmL ((Nat.lcm a.natAbs b.natAbs : Nat) : Int) r
/-! ### shares lifted to one bottom -/
section
variable {N L : Int} (hN : 0 < N) (hL : 0 < L) (sN : sm 4000 N) (sL : sm 4000 L) {Z : List (Int × List Int)} (hZ : ∀ z ∈ Z, 0 < z.2.sum ∧ z.2.sum ∣ L ∧ sm 4000 z.1) (hlen : Z.length ≤ 1000)
abbrev bt (N : Int) (z : Int × List Int) : Int := dn z.1 N * z.2.sum
abbrev cbt (N : Int) (Z : List (Int × List Int)) : Int := lcmL 1 (Z.map (bt N))
abbrev fc (N : Int) (Z : List (Int × List Int)) (z : Int × List Int) : Int := nm z.1 N * (cbt N Z).fdiv (bt N z)
include hN hL hZ
include sN sL hlen
end

/-! ### a day -/
def stepZ (L : Int) (Z : List (Int × List Int)) (j : Nat) : Int := (Z.map fun z => z.1 * (L / z.2.sum) * z.2.getD j 0).sum
section
variable {N L : Int} (hN : 0 < N) (hL : 0 < L) (sN : sm 4000 N) (sL : sm 4000 L) {Z : List (Int × List Int)} (hZ : ∀ z ∈ Z, 0 < z.2.sum ∧ z.2.sum ∣ L ∧ sm 4000 z.1) (hlen : Z.length ≤ 1000) {n : Nat} (hn : n ≤ 1000) (hr : ∀ z ∈ Z, z.2.length = n ∧ ∀ x ∈ z.2, 0 ≤ x ∧ x ≤ 9)
include hN hL hZ sN sL hlen hn hr
end

/-! ### chains -/
structure Chn (M : List (List Int)) : Prop where
  lo : 1 ≤ M.length
  hi : M.length ≤ 5
  row : ∀ r ∈ M, r.length = M.length ∧ 0 < r.sum ∧ ∀ x ∈ r, 0 ≤ x ∧ x ≤ 9
def ch (b : Bool) (M : List (List Int)) : D := sqs b (M.map (sq b))
def prodL : List (List Int) → Int
  | [] => 1
  | r :: R => r.sum * prodL R
/-! ### the shares of a day -/
def dayA (M : List (List Int)) (s : Nat) : Nat → List Int
  | 0 => (List.range' 0 M.length).map fun k => if k = s then 1 else 0
  | d + 1 => (List.range' 0 M.length).map fun j => stepZ (prodL M) ((dayA M s d).zip M) j
/-! ### handed in as it is or as lists throughout -/
def lsdN : Nat → D → D
  | 0, d => d
  | n + 1, .tup xs => .lst (xs.map (lsdN n))
  | _ + 1, d => d
def lsFit : Nat → D → Bool
  | 0, _ => false
  | n + 1, .tup xs => decide (xs.length ≤ 1000000) && xs.all (lsFit n)
  | _ + 1, .int _ => true
  | _ + 1, .str _ => true
  | _ + 1, .bl _ => true
  | _ + 1, .non => true
  | _ + 1, _ => false
theorem lsFit_flat : ∀ (n : Nat) (d : D), lsFit n d = true → flat d = true ∧ flat (lsdN n d) = true
  | 0, d, h => by simp [lsFit] at h
  | n + 1, d, h => by
    cases d with
    | tup xs =>
      unfold lsFit at h
      rw [Bool.and_eq_true] at h
      have hx := List.all_eq_true.mp h.2
      refine ⟨by rw [flat_tup]; exact flatL_of fun x hx' => (lsFit_flat n x (hx x hx')).1, ?_⟩
      show flat (.lst (xs.map (lsdN n))) = true
      rw [flat_lst]
      refine flatL_of fun y hy => ?_
      obtain ⟨x, hx', rfl⟩ := List.mem_map.mp hy
      exact (lsFit_flat n x (hx x hx')).2
    | int i => exact ⟨by simp, by simp [lsdN]⟩
    | str i => exact ⟨by simp, by simp [lsdN]⟩
    | bl i => exact ⟨by simp, by simp [lsdN]⟩
    | non => exact ⟨by simp, by simp [lsdN]⟩
    | _ => simp [lsFit] at h
theorem listed_gen : ∀ (n : Nat) (d : D) (h : Hc), lsFit n d = true → callL (m_law_listed n) [d] h = .ok (lsdN n d) h
  | 0, d, h, f => by simp [lsFit] at f
  | n + 1, d, h, f => by
    have ff := lsFit_flat (n + 1) d f
    refine call_flat (h' := []) (by simp [ff.1]) ?_ ff.2 h
    unfold m_law_listed
    rw [runB_s]
    cases d with
    | tup xs =>
      unfold lsFit at f
      rw [Bool.and_eq_true] at f
      have hx := List.all_eq_true.mp f.2
      have hl : xs.length ≤ 1000000 := by simpa using f.1
      have e := lcR_map (chk := fun _ => true) (p := .n 1) (own := [1]) (m := m_law_listed_c1 (m_law_listed n)) (ds := [some (.tup xs), none]) (h := []) (lsdN n) rfl xs [] (by simpa using hl) (fun d hd => ⟨_, bindP_n .., by
        have := fun h => listed_gen n d h (hx d hd)
        simp [m_law_listed_c1, this]⟩)
      simp only [List.nil_append] at e
      simp [e, lsdN]
    | int i => simp [lsdN]
    | str i => simp [lsdN]
    | bl i => simp [lsdN]
    | non => simp [lsdN]
    | _ => simp [lsFit] at f
theorem handed_gen {row : List Int} (hr : row ≠ []) {k : Int} {d : D} {i : Nat} {h : Hc} (f : lsFit 24 d = true) (hi : h[i]? = some (.lst [.int k])) (hk : 0 ≤ k) : ∃ (b : Bool) (k' : Int), 0 ≤ k' ∧ callL m_law_handed [.lst (row.map D.int), .ref i, d] h = .ok (if b then lsdN 24 d else d) (h.set i (.lst [.int k'])) := by
  obtain ⟨v1, k1, a1, b1, c1, e1⟩ := take_ex hr (h := [.lst [.int k]]) (i := 0) (l := 2) rfl hk (by decide)
  simp at e1
  have ff := lsFit_flat 24 d f
  refine ⟨decide (v1 = 0), k1, c1, call_spot (d0 := if decide (v1 = 0) then lsdN 24 d else d) (h' := [.lst [.int k1]]) (by simp) (by simp [ff.1]) hi ?_ rfl fun j => frzD_flat (by split; exact ff.2; exact ff.1)⟩
  unfold m_law_handed
  rw [runB_s]
  have e2 := fun h => listed_gen 24 d h f
  by_cases hv : v1 = 0
  · simp [e1, hv, e2]
  · simp [e1, hv]
/-! ### the start, the law's shares -/
/-! ### drawn chains -/
section
variable {row : List Int} (hr : row ≠ [])
include hr
end
end Mp
/-! words that differ -/
namespace Mp
open PySem PySem.Spec PyProof.Rows L2
@[simp] theorem ne_part_some : ((("part" : Str) = ("some" : Str)) = False) := eq_false (by decide +kernel)
@[simp] theorem ne_all_part : ((("all" : Str) = ("part" : Str)) = False) := eq_false (by decide +kernel)
@[simp] theorem ne_all_any : ((("all" : Str) = ("any" : Str)) = False) := eq_false (by decide +kernel)
@[simp] theorem ne_all_some : ((("all" : Str) = ("some" : Str)) = False) := eq_false (by decide +kernel)
@[simp] theorem ne_any_part : ((("any" : Str) = ("part" : Str)) = False) := eq_false (by decide +kernel)
@[simp] theorem ne_any_all : ((("any" : Str) = ("all" : Str)) = False) := eq_false (by decide +kernel)
@[simp] theorem ne_any_some : ((("any" : Str) = ("some" : Str)) = False) := eq_false (by decide +kernel)
@[simp] theorem ne_some_part : ((("some" : Str) = ("part" : Str)) = False) := eq_false (by decide +kernel)
@[simp] theorem ne_some_all : ((("some" : Str) = ("all" : Str)) = False) := eq_false (by decide +kernel)
@[simp] theorem ne_some_any : ((("some" : Str) = ("any" : Str)) = False) := eq_false (by decide +kernel)
end Mp
/-! StrA: structures as data; names; lists of names without repetition. -/
namespace Mp
open PySem PySem.Spec PyProof.Rows L2
/-! ### while -/
theorem wl_nx {t : SB} {b : SS} {n : Nat} {ds ds' : Sl} {h h1 h' : Hc} (ht : t ds h = .ok true h1) (hb : b ds h1 = .nx ds' h') : wl t b (n + 1) ds h = wl t b n ds' h' := by
  conv => lhs; unfold wl
  rw [ht, sBd_ok, if_pos rfl, hb]
theorem wl_stop {t : SB} {b : SS} {n : Nat} {ds : Sl} {h h1 : Hc} (ht : t ds h = .ok false h1) : wl t b (n + 1) ds h = .nx ds h1 := by
  conv => lhs; unfold wl
  rw [ht, sBd_ok, if_neg (by decide)]
/-! ### comprehensions over mapped lists -/
/-- with a test, over a mapped list -/
theorem lcR_fm {α : Type} {chk : Hc → Bool} {p : Pt} {own : List Nat} {c : SB} {m : SE} {ds : Sl} {h : Hc} (g : α → D) (test : α → Bool) (f : α → D) (hc : chk h = true) : ∀ (xs : List α) (acc : List D), acc.length + xs.length ≤ 1000000 →
    (∀ x ∈ xs, ∃ ds1, bindP h p (g x) (wipeD ds own) = some ds1 ∧ c ds1 h = .ok (test x) h ∧ (test x = true → m ds1 h = .ok (f x) h)) → lcR chk p own c m ds (xs.map g) acc h = .ok (acc ++ (xs.filter test).map f) h
  | [], acc, _, _ => by simp [hc]
  | d :: r, acc, hl, hi => by
    obtain ⟨ds1, e1, e2, e3⟩ := hi d (by simp)
    have : acc.length < 1000000 := by simp at hl; omega
    cases t : test d with
    | true =>
      have ih := lcR_fm g test f hc r (acc ++ [f d]) (by simp at hl ⊢; omega) fun x hx => hi x (by simp [hx])
      simp [hc, e1, e2, t, e3 t, this, ih, List.filter_cons]
    | false =>
      have ih := lcR_fm g test f hc r acc (by simp at hl ⊢; omega) fun x hx => hi x (by simp [hx])
      simp [hc, e1, e2, t, ih, List.filter_cons]
/-- without a test -/
theorem lcR_mm {α : Type} {chk : Hc → Bool} {p : Pt} {own : List Nat} {m : SE} {ds : Sl} {h : Hc} (g f : α → D) (hc : chk h = true) (xs : List α) (hl : xs.length ≤ 1000000)
    (hi : ∀ x ∈ xs, ∃ ds1, bindP h p (g x) (wipeD ds own) = some ds1 ∧ m ds1 h = .ok (f x) h) : lcR chk p own (fun _ h => .ok true h) m ds (xs.map g) [] h = .ok (xs.map f) h := by
  have := lcR_two (chk := chk) (p := p) (own := own) (m := m) (ds := ds) (h := h) hc (xs.map g) (xs.map f) [] (by simpa using hl) (All2.map fun x hx => hi x hx)
  simpa using this
/-! ### lists without repetition -/
section
variable {α : Type} [DecidableEq α]
def uq : List α → List α
  | [] => []
  | x :: r => if x ∈ r then uq r else x :: uq r
theorem mem_uq {x : α} : ∀ {l : List α}, x ∈ uq l ↔ x ∈ l
  | [] => by simp [uq]
  | y :: r => by
    unfold uq
    have ih := mem_uq (x := x) (l := r)
    split
    · rename_i hy
      rw [ih, List.mem_cons]
      exact ⟨.inr, fun h => h.elim (fun e => e ▸ hy) id⟩
    · rw [List.mem_cons, List.mem_cons, ih]
theorem nodup_uq : ∀ l : List α, (uq l).Nodup
  | [] => by simp [uq]
  | y :: r => by
    unfold uq
    split
    · exact nodup_uq r
    · rename_i hy
      exact List.nodup_cons.mpr ⟨fun z => hy (mem_uq.mp z), nodup_uq r⟩
theorem nodup_len {l m : List α} (h : l.Nodup) (s : ∀ x ∈ l, x ∈ m) : l.length ≤ m.length := by
  induction l generalizing m with
  | nil => simp
  | cons x r ih =>
    obtain ⟨h1, h2⟩ := List.nodup_cons.mp h
    have hx : x ∈ m := s x (by simp)
    have := ih (m := m.erase x) h2 fun y hy => by
      have : y ≠ x := fun e => h1 (e ▸ hy)
      exact (List.mem_erase_of_ne this).mpr (s y (by simp [hy]))
    rw [List.length_erase_of_mem hx] at this
    have : 0 < m.length := List.length_pos_of_mem hx
    simp only [List.length_cons]; omega
end
theorem sort_same {l m : List Str} (h1 : l.Nodup) (h2 : m.Nodup) (h : ∀ w, w ∈ l ↔ w ∈ m) : sortS l = sortS m := by
  have p : l.Perm m := (List.perm_ext_iff_of_nodup h1 h2).mpr h
  exact isort_uniq tot_S ((isort_perm leS l).trans p) (isort_pw tot_S l)
/-! ### names -/
structure Nm (w : Str) : Prop where
  lo : 1 ≤ w.cps.toList.length
  hi : w.cps.toList.length ≤ 8
  low : ∀ c ∈ w.cps.toList, 97 ≤ c ∧ c ≤ 122
  nr : w ∉ (["and", "or", "of", "always", "never"] : List Str)
theorem str_len (w : Str) : w.length = w.cps.toList.length := by unfold PySem.Str.length; simp
theorem abc_list : (Str.ofString "abcdefghijklmnopqrstuvwxyz").cps.toList = List.range' 97 26 := by decide +kernel
theorem sgnD_eq (w : Str) : sgnD w = w.cps.toList.map fun c => D.str ⟨#[c]⟩ := rfl
@[simp] theorem eqS_str (a b : Str) : eqS (.str a) (.str b) = (a == b) := rfl
@[simp] theorem scalD_str (a : Str) : scalD (.str a) = true := rfl
theorem any_strs (w : Str) (us : List Str) : (us.map D.str).any (fun y => eqS y (.str w)) = decide (w ∈ us) := by
  induction us with
  | nil => simp
  | cons x r ih =>
    rw [List.map_cons, List.any_cons, ih]
    by_cases e : x = w
    · subst e; simp
    · have e' : ¬ w = x := fun z => e z.symm
      simp [e, e']
theorem all_strs (us : List Str) : (us.map D.str).all scalD = true := by simp
theorem inG_strs (neg : Bool) (w : Str) {U : D} {us : List Str} {h : Hc} (e : seqD h U = some (us.map D.str)) : inG neg (.str w) U h = .ok (.bl (if neg then !decide (w ∈ us) else decide (w ∈ us))) h := by
  have hU : ∀ z, U ≠ .str z := by
    intro z hz; subst hz; simp [seqD] at e
  unfold inG
  split
  · rename_i a b e1
    exact absurd rfl (hU b)
  · simp only [e]
    rw [if_pos ⟨rfl, all_strs us⟩, any_strs]
@[simp] theorem iSgn_s (m : SE) (ds : Sl) (h : Hc) : iSgn m ds h = (m ds h).bd fun d h1 => match d with
  | .str x => .ok ⟨sgnD x, fun _ => true⟩ h1
  | _ => .bad := Eq.trans rfl rfl
theorem inG_abc {c : Nat} (h1 : 97 ≤ c) (h2 : c ≤ 122) (h : Hc) : inG false (.str ⟨#[c]⟩) (.str "abcdefghijklmnopqrstuvwxyz") h = .ok (.bl true) h := by
  have : c ∈ (Str.ofString "abcdefghijklmnopqrstuvwxyz").cps.toList := by
    rw [abc_list, List.mem_range'_1]; omega
  show R.ok (D.bl (decide (c ∈ (Str.ofString "abcdefghijklmnopqrstuvwxyz").cps.toList))) h = _
  rw [decide_eq_true this]
theorem allT {α : Type} (xs : List α) (h : Hc) : allF [.lst (xs.map fun _ => D.bl true)] h = .ok (.bl true) h := by
  have : (xs.map fun _ => D.bl true) = (xs.map fun _ => true).map D.bl := by simp
  rw [this, allF_lst]
  congr 2
  simp
theorem is_name_ok {w : Str} (N : Nm w) (h : Hc) : callL m_is_name [.str w] h = .ok (.bl true) h := by
  have h1 := N.lo
  have h2 := N.hi
  have e1 := lcR_mm (chk := fun _ => true) (p := .n 1) (own := [1]) (m := m_is_name_c1) (ds := [some (.str w), none]) (h := []) (fun c => D.str ⟨#[c]⟩) (fun _ => .bl true) rfl w.cps.toList (by omega)
    (fun c hc => ⟨_, bindP_n .., by
      obtain ⟨a, b⟩ := N.low c hc
      have := fun h => inG_abc a b h
      simp [m_is_name_c1, this]⟩)
  rw [← sgnD_eq] at e1
  have e2 : ∀ h, allF [.lst (w.cps.toList.map fun _ => D.bl true)] h = .ok (.bl true) h := fun h => by
    exact allT w.cps.toList h
  have l : ∀ h, lenF [.str w] h = .ok (.int (w.cps.toList.length : Int)) h := fun h => by
    rw [lenF_str, if_pos (by rw [str_len, lim_eq]; omega), str_len]
  have l0 : ¬ ((w.cps.toList.length : Int) = 0) := by omega
  have l8 : ¬ (8 < (w.cps.toList.length : Int)) := by omega
  have e3 : ∀ h, inG false (.str w) (.tup [.str "and", .str "or", .str "of", .str "always", .str "never"]) h = .ok (.bl false) h := fun h => by
    have := inG_strs false w (U := .tup [.str "and", .str "or", .str "of", .str "always", .str "never"]) (us := ["and", "or", "of", "always", "never"]) (h := h) rfl
    rw [this]
    simp only [Bool.false_eq_true, if_false]
    rw [decide_eq_false N.nr]
  refine call_flat (h' := []) (by simp) ?_ (by simp) h
  unfold m_is_name
  rw [runB_s]
  generalize (w.cps.toList.map fun _ => D.bl true) = BL at *
  generalize w.cps.toList.length = L at *
  have l0' : ¬ L = 0 := by omega
  simp [l, l0', l8, e3, e1, e2]
end Mp
/-! StrB: structures as data; whether a value is one; the names in it. -/
namespace Mp
open PySem PySem.Spec PyProof.Rows L2
inductive Cn where
  | all | any | some (k : Int)
inductive E where
  | part (w : Str) | node (c : Cn) (es : List E)
mutual
def eD (b : Bool) : E → D
  | .part w => sqs b [.str "part", .str w]
  | .node .all es => sqs b [.str "all", sqs b (eDL b es)]
  | .node .any es => sqs b [.str "any", sqs b (eDL b es)]
  | .node (.some k) es => sqs b [.str "some", .int k, sqs b (eDL b es)]
def eDL (b : Bool) : List E → List D
  | [] => []
  | e :: r => eD b e :: eDL b r
end
theorem eDL_map (b : Bool) : ∀ es, eDL b es = es.map (eD b)
  | [] => by simp [eDL]
  | e :: r => by simp [eDL, eDL_map b r]
mutual
@[simp] theorem flat_eD (b : Bool) : ∀ e, flat (eD b e) = true
  | .part w => by unfold eD; exact flat_sqs b (by simp)
  | .node .all es => by unfold eD; exact flat_sqs b (by simp [flat_sqs b (flat_eDL b es)])
  | .node .any es => by unfold eD; exact flat_sqs b (by simp [flat_sqs b (flat_eDL b es)])
  | .node (.some k) es => by unfold eD; exact flat_sqs b (by simp [flat_sqs b (flat_eDL b es)])
@[simp] theorem flat_eDL (b : Bool) : ∀ es, flatL (eDL b es) = true
  | [] => by simp [eDL]
  | e :: r => by simp [eDL, flat_eD b e, flat_eDL b r]
end
@[simp] theorem flat_eDm (b : Bool) (es : List E) : flatL (es.map (eD b)) = true := by rw [← eDL_map]; simp
/-- as the program sees it -/
def cnD (b : Bool) (c : Cn) (x : D) : D := match c with
  | .all => sqs b [.str "all", x]
  | .any => sqs b [.str "any", x]
  | .some k => sqs b [.str "some", .int k, x]
theorem eD_part (b : Bool) (w : Str) : eD b (.part w) = sqs b [.str "part", .str w] := by unfold eD; rfl
theorem eD_node (b : Bool) (c : Cn) (es : List E) : eD b (.node c es) = cnD b c (sqs b (es.map (eD b))) := by
  cases c <;> (unfold eD cnD; rw [eDL_map])
mutual
def sz : E → Nat
  | .part _ => 1
  | .node _ es => 1 + szL es
def szL : List E → Nat
  | [] => 0
  | e :: r => sz e + szL r
end
mutual
def dp : E → Nat
  | .part _ => 1
  | .node _ es => 1 + dpL es
def dpL : List E → Nat
  | [] => 0
  | e :: r => max (dp e) (dpL r)
end
theorem dpL_mem : ∀ {es : List E} {x : E}, x ∈ es → dp x ≤ dpL es
  | e :: r, x, h => by
    unfold dpL
    rcases List.mem_cons.mp h with rfl | h
    · omega
    · have := dpL_mem h; omega
theorem dp_mem {c : Cn} {es : List E} {x : E} (h : x ∈ es) : dp x < dp (.node c es) := by
  have := dpL_mem h
  conv => rhs; unfold dp
  omega
theorem sz_pos (e : E) : 1 ≤ sz e := by cases e <;> (unfold sz; omega)
theorem dp_pos (e : E) : 1 ≤ dp e := by cases e <;> (unfold dp; omega)
def CnOk (c : Cn) (n : Nat) : Prop := match c with
  | .some k => 1 ≤ k ∧ k ≤ n
  | _ => n ≠ 1
mutual
def EOk (ns : List Str) : E → Prop
  | .part w => w ∈ ns
  | .node c es => es.length ≤ 8 ∧ CnOk c es.length ∧ EOkL ns es
def EOkL (ns : List Str) : List E → Prop
  | [] => True
  | e :: r => EOk ns e ∧ EOkL ns r
end
theorem EOkL_iff (ns : List Str) : ∀ {es : List E}, EOkL ns es ↔ ∀ x ∈ es, EOk ns x
  | [] => by simp [EOkL]
  | e :: r => by
    unfold EOkL
    rw [EOkL_iff ns (es := r)]
    simp
theorem EOk_node {ns : List Str} {c : Cn} {es : List E} : EOk ns (.node c es) ↔ es.length ≤ 8 ∧ CnOk c es.length ∧ ∀ x ∈ es, EOk ns x := by
  conv => lhs; unfold EOk
  rw [EOkL_iff]
/-- a structure over names -/
structure SOk (ns : List Str) (e : E) : Prop where
  nm : ∀ w ∈ ns, Nm w
  len : ns.length ≤ 10
  ok : EOk ns e
  sz : sz e ≤ 60
  dp : dp e ≤ 10
/-! ### one member's form -/
theorem ix_cn0 (b : Bool) (c : Cn) (x : D) (h : Hc) : ixF (cnD b c x) (.int 0) h = .ok (.str (match c with | .all => "all" | .any => "any" | .some _ => "some")) h := by
  cases c <;> (unfold cnD; rw [ix_sqs]; simp)
theorem ix_cnl (b : Bool) (c : Cn) (x : D) (h : Hc) : ixF (cnD b c x) (.int (-1)) h = .ok x h := by
  cases c <;> (unfold cnD; rw [ix_sqs, atI_last (by simp)]; simp)
theorem len_cn (b : Bool) (c : Cn) (x : D) (h : Hc) : lenF [cnD b c x] h = .ok (.int (match c with | .some _ => 3 | _ => 2)) h := by
  cases c <;> (unfold cnD; rw [len_sqs]; simp)
theorem is_seq_cn (b : Bool) (c : Cn) {x : D} (f : flat x = true) (h : Hc) : callL m_is_sequence [cnD b c x] h = .ok (.bl true) h := by
  have go : ∀ (xs : List D), flatL xs = true → callL m_is_sequence [sqs b xs] h = .ok (.bl true) h := fun xs f => by
    refine call_flat (h' := []) (by simp [flat_sqs b f]) ?_ (by simp) h
    unfold m_is_sequence
    rw [runB_s]
    cases b <;> simp [sqs]
  cases c <;> (unfold cnD; exact go _ (by simp [f]))
theorem is_row_xs (b : Bool) {xs : List D} (f : flatL xs = true) (lo hi : Int) (h : Hc) : callL m_is_row [sqs b xs, .int lo, .int hi] h = .ok (.bl (decide (lo ≤ xs.length) && decide ((xs.length : Int) ≤ hi))) h := by
  have ff := flat_sqs b f
  have e : ∀ h, callL m_is_sequence [sqs b xs] h = .ok (.bl true) h := fun h => by
    refine call_flat (h' := []) (by simp [ff]) ?_ (by simp) h
    unfold m_is_sequence
    rw [runB_s]
    cases b <;> simp [sqs]
  refine call_flat (h' := []) (by simp [ff]) ?_ (by simp) h
  unfold m_is_row
  rw [runB_s]
  by_cases h1 : lo ≤ (xs.length : Int) <;> simp [e, h1]
theorem outline_part (b : Bool) {w : Str} (N : Nm w) (h : Hc) : callL m_is_outline [eD b (.part w)] h = .ok (.bl true) h := by
  have e1 : ∀ h, callL m_is_sequence [sqs b [.str "part", .str w]] h = .ok (.bl true) h := fun h => by
    refine call_flat (h' := []) (by simp [flat_sqs b]) ?_ (by simp) h
    unfold m_is_sequence
    rw [runB_s]
    cases b <;> simp [sqs]
  have e2 := fun h => ix_sqs b [.str "part", .str w] 0 h
  have e2' := fun h => ix_sqs b [.str "part", .str w] 1 h
  have e3 := fun h => is_name_ok N h
  simp at e2 e2'
  refine call_flat (h' := []) (by simp) ?_ (by simp) h
  rw [eD_part]
  unfold m_is_outline
  rw [runB_s]
  simp [e1, e2, e2', e3]
theorem outline_node (b : Bool) {c : Cn} {xs : List D} (f : flatL xs = true) (h8 : xs.length ≤ 8) (hc : CnOk c xs.length) (h : Hc) : callL m_is_outline [cnD b c (sqs b xs)] h = .ok (.bl true) h := by
  have e1 := fun h => is_seq_cn b c (flat_sqs b f) h
  have e2 := fun h => ix_cn0 b c (sqs b xs) h
  have e3 := fun h => len_cn b c (sqs b xs) h
  have e5 := fun h => is_row_xs b f 0 8 h
  have e6 := fun h => is_row_xs b f 1 8 h
  have l8 : (xs.length : Int) ≤ 8 := by omega
  refine call_flat (h' := []) ?_ ?_ (by simp) h
  · cases c <;> (unfold cnD; simp [flat_sqs b, f])
  unfold m_is_outline
  rw [runB_s]
  cases c with
  | all =>
    have e7 : ∀ h, ixF (cnD b .all (sqs b xs)) (.int 1) h = .ok (sqs b xs) h := fun h => by unfold cnD; rw [ix_sqs]; simp
    have n1 : ¬ ((xs.length : Int) = 1) := by have : xs.length ≠ 1 := hc; omega
    generalize cnD b .all (sqs b xs) = X at *
    simp only [l8, decide_true, Bool.and_true] at e5
    have l0 : (0 : Int) ≤ (xs.length : Int) := by omega
    simp [e1, e2, e3, e5, e7, l0, n1, neF, eqDD]
  | any =>
    have e7 : ∀ h, ixF (cnD b .any (sqs b xs)) (.int 1) h = .ok (sqs b xs) h := fun h => by unfold cnD; rw [ix_sqs]; simp
    have n1 : ¬ ((xs.length : Int) = 1) := by have : xs.length ≠ 1 := hc; omega
    generalize cnD b .any (sqs b xs) = X at *
    simp only [l8, decide_true, Bool.and_true] at e5
    have l0 : (0 : Int) ≤ (xs.length : Int) := by omega
    simp [e1, e2, e3, e5, e7, l0, n1]
  | some k =>
    obtain ⟨k1, k2⟩ := hc
    have e7 : ∀ h, ixF (cnD b (.some k) (sqs b xs)) (.int 1) h = .ok (.int k) h := fun h => by unfold cnD; rw [ix_sqs]; simp
    have e8 : ∀ h, ixF (cnD b (.some k) (sqs b xs)) (.int 2) h = .ok (sqs b xs) h := fun h => by unfold cnD; rw [ix_sqs]; simp
    generalize cnD b (.some k) (sqs b xs) = X at *
    have l1 : (1 : Int) ≤ (xs.length : Int) := by omega
    simp [e1, e2, e3, e6, e7, e8, l8, l1, is_within_int, k1, k2]
end Mp
/-! StrC: is_structure. -/
namespace Mp
open PySem PySem.Spec PyProof.Rows L2
theorem popF_end {n : Nat} {xs : List D} {d : D} {h : Hc} (e : h[n]? = some (.lst (xs ++ [d]))) : popF (.ref n) [] h = .ok d (h.set n (.lst xs)) := by
  unfold popF
  simp [e]
theorem appF_ref {n : Nat} {xs : List D} {d : D} {h : Hc} (e : h[n]? = some (.lst xs)) (hl : xs.length < 1000000) : appF (.ref n) [d] h = .ok .non (h.set n (.lst (xs ++ [d]))) := by
  unfold appF
  simp [e, hl]
theorem kindOk_list {n : Nat} {xs : List D} {h : Hc} (e : h[n]? = some (.lst xs)) : kindOk h "list" (.ref n) = true := by
  simp [kindOk, rdlD, lstD, e]
/-- keys of a dict with names -/
def insW (ws : List Str) (w : Str) : List Str := if w ∈ ws then ws else ws ++ [w]
theorem hasK_inr (ws : List Str) (w : Str) : hasK (ws.map Sum.inr) (.inr w) = decide (w ∈ ws) := by
  unfold hasK
  induction ws with
  | nil => simp
  | cons x r ih =>
    rw [List.map_cons, List.any_cons, ih]
    by_cases e : x = w
    · subst e; simp
    · have e' : ¬ w = x := fun z => e z.symm
      simp [e, e']
theorem putF_name {n : Nat} {ws : List Str} {vs : List D} {w : Str} {x : D} {h : Hc} (e : h[n]? = some (.dct (ws.map Sum.inr) vs)) (hl : ws.length < 1000000) : ∃ vs', putF (.ref n) (.str w) x h = some (h.set n (.dct ((insW ws w).map Sum.inr) vs')) := by
  have hl' : (ws.map (Sum.inr : Str → Key)).length < lim := by simpa using hl
  have : ∃ vs', insD (ws.map Sum.inr) vs (.inr w) x = ((insW ws w).map Sum.inr, vs') := by
    unfold insD insW
    rw [hasK_inr]
    by_cases hw : w ∈ ws
    · simp [hw]
    · simp [hw]
  obtain ⟨vs', e2⟩ := this
  refine ⟨vs', ?_⟩
  show (match h[n]? with
    | some (.dct ks ds) => if ks.length < lim then some (h.set n (.dct (insD ks ds (.inr w) x).1 (insD ks ds (.inr w) x).2)) else none
    | _ => none) = _
  rw [e]
  simp only
  rw [if_pos hl', e2]
theorem lenF_dct {n : Nat} {ks : List Key} {vs : List D} {h : Hc} (e : h[n]? = some (.dct ks vs)) : lenF [.ref n] h = .ok (.int ks.length) h := by
  simp [lenF, seqD, dctD, e]
theorem insW_nd {ws : List Str} (h : ws.Nodup) (w : Str) : (insW ws w).Nodup := by
  unfold insW
  split
  · exact h
  · rename_i hw
    rw [List.nodup_append]
    exact ⟨h, by simp, fun a ha b hb => by
      have : b = w := by simpa using hb
      intro e; subst e; subst this; exact hw ha⟩
theorem insW_mem {ws : List Str} {w x : Str} : x ∈ insW ws w ↔ x ∈ ws ∨ x = w := by
  unfold insW
  split
  · rename_i hw
    exact ⟨.inl, fun h => h.elim id fun e => e ▸ hw⟩
  · simp
abbrev Stk := List (E × Nat)
def stkD (b : Bool) (S : Stk) : List D := S.map fun z => .tup [eD b z.1, .int (z.2 : Int)]
def totS (S : Stk) : Nat := (S.map fun z => sz z.1).sum
theorem totS_app (S T : Stk) : totS (S ++ T) = totS S + totS T := by simp [totS]
theorem totS_push (es : List E) (l : Nat) : totS (es.map fun x => (x, l)) = szL es := by
  induction es with
  | nil => simp [totS, szL]
  | cons x r ih =>
    unfold szL
    rw [← ih]
    simp [totS]
theorem stkD_app (b : Bool) (S T : Stk) : stkD b (S ++ T) = stkD b S ++ stkD b T := by simp [stkD]
theorem len_stk (b : Bool) (S : Stk) : (stkD b S).length ≤ totS S := by
  induction S with
  | nil => simp [stkD, totS]
  | cons z r ih =>
    have := sz_pos z.1
    have e : totS (z :: r) = sz z.1 + totS r := by simp [totS]
    have e2 : (stkD b (z :: r)).length = (stkD b r).length + 1 := by simp [stkD]
    omega
section
variable (b : Bool) (x0 x1 x2 x4 : Option D) (l : Nat) (c0 : C)
theorem push_loop : ∀ (es : List E) (S : Stk) (x6 : Option D), S.length + es.length ≤ 1000 → ∃ y6, fl (fun _ => true) (.n 6) m_is_structure_l1 (es.map (eD b)) [x0, x1, x2, some (.ref 1), x4, some (.int (l : Int)), x6] [c0, .lst (stkD b S)] =
    .nx [x0, x1, x2, some (.ref 1), x4, some (.int (l : Int)), y6] [c0, .lst (stkD b (S ++ es.map fun x => (x, l + 1)))]
  | [], S, x6, hl => ⟨x6, by simp; exact fl_end rfl⟩
  | x :: r, S, x6, hl => by
    obtain ⟨y6, ih⟩ := push_loop r (S ++ [(x, l + 1)]) (some (eD b x)) (by simp at hl ⊢; omega)
    have hL : (stkD b S).length < 1000000 := by simp [stkD] at hl ⊢; omega
    have e1 := kindOk_list (h := [c0, .lst (stkD b S)]) (n := 1) (xs := stkD b S) rfl
    have e2 := appF_ref (h := [c0, .lst (stkD b S)]) (n := 1) (xs := stkD b S) (d := .tup [eD b x, .int ((l : Int) + 1)]) rfl hL
    refine ⟨y6, ?_⟩
    rw [List.map_cons]
    refine Eq.trans (fl_n (b := m_is_structure_l1) (ds' := [x0, x1, x2, some (.ref 1), x4, some (.int (l : Int)), some (eD b x)]) (h' := [c0, .lst (stkD b (S ++ [(x, l + 1)]))]) ?_) (by simpa using ih)
    have e3 : stkD b (S ++ [(x, l + 1)]) = stkD b S ++ [.tup [eD b x, .int ((l : Int) + 1)]] := by simp [stkD]
    rw [e3]
    generalize stkD b S = SD at *
    simp [m_is_structure_l1, e1, e2]
end
structure StkOk (ns : List Str) (S : Stk) : Prop where
  ok : ∀ z ∈ S, EOk ns z.1 ∧ z.2 + dp z.1 ≤ 11
section
variable (b : Bool) {ns : List Str} (hN : ∀ w ∈ ns, Nm w) (hn : ns.length ≤ 10) (x0 : Option D)
include hN hn
theorem str_step {S : Stk} {z : E × Nat} (hS : StkOk ns (S ++ [z])) {ws : List Str} {vs : List D} (hw : ws.Nodup) (hs : ∀ w ∈ ws, w ∈ ns) {cnt : Nat} (hc : cnt + totS (S ++ [z]) ≤ 60) (x4 x5 x6 : Option D) :
    ∃ (S' : Stk) (ws' : List Str) (vs' : List D) (y4 y5 y6 : Option D), StkOk ns S' ∧ ws'.Nodup ∧ (∀ w ∈ ws', w ∈ ns) ∧ totS S' + 1 = totS (S ++ [z]) ∧
      m_is_structure_l2 [x0, some (.ref 0), some (.int (cnt : Int)), some (.ref 1), x4, x5, x6] [.dct (ws.map Sum.inr) vs, .lst (stkD b (S ++ [z]))] =
      .nx [x0, some (.ref 0), some (.int ((cnt + 1 : Nat) : Int)), some (.ref 1), y4, y5, y6] [.dct (ws'.map Sum.inr) vs', .lst (stkD b S')] := by
  obtain ⟨x, l⟩ := z
  obtain ⟨ox, dx⟩ := hS.ok (x, l) (by simp)
  simp only at ox dx
  have px := dp_pos x
  have sx := sz_pos x
  have et : totS (S ++ [(x, l)]) = totS S + sz x := by rw [totS_app]; simp [totS]
  rw [et] at hc
  have hwl : ws.length ≤ 10 := Nat.le_trans (nodup_len hw hs) hn
  have hS' : ∀ z ∈ S, EOk ns z.1 ∧ z.2 + dp z.1 ≤ 11 := fun z hz => hS.ok z (by simp [hz])
  have e1 : stkD b (S ++ [(x, l)]) = stkD b S ++ [.tup [eD b x, .int (l : Int)]] := by simp [stkD]
  have e2 := kindOk_list (h := [.dct (ws.map Sum.inr) vs, .lst (stkD b S ++ [.tup [eD b x, .int (l : Int)]])]) (n := 1) rfl
  have e3 := popF_end (h := [.dct (ws.map Sum.inr) vs, .lst (stkD b S ++ [.tup [eD b x, .int (l : Int)]])]) (n := 1) (xs := stkD b S) (d := .tup [eD b x, .int (l : Int)]) rfl
  have c60 : ¬ ((60 : Int) < (cnt : Int) + 1) := by omega
  have c10 : ¬ ((10 : Int) < (l : Int)) := by omega
  have hcc : ((cnt + 1 : Nat) : Int) = (cnt : Int) + 1 := by omega
  rw [e1, hcc]
  cases x with
  | part w =>
    have hw' : w ∈ ns := by unfold EOk at ox; exact ox
    have e4 := fun h => outline_part b (hN w hw') h
    rw [eD_part] at e2 e3 e4 ⊢
    have i0 := fun h => ix_sqs b [.str "part", .str w] 0 h
    have i1 := fun h => ix_sqs b [.str "part", .str w] 1 h
    simp at i0 i1
    obtain ⟨vs', e5⟩ := putF_name (n := 0) (ws := ws) (vs := vs) (w := w) (x := .bl true) (h := [.dct (ws.map Sum.inr) vs, .lst (stkD b S)]) rfl (by omega)
    simp only [List.set_cons_zero] at e5
    have e6 := lenF_dct (n := 0) (ks := (insW ws w).map Sum.inr) (vs := vs') (h := [.dct ((insW ws w).map Sum.inr) vs', .lst (stkD b S)]) rfl
    have nd := insW_nd hw w
    have sub : ∀ y ∈ insW ws w, y ∈ ns := fun y hy => (insW_mem.mp hy).elim (hs y) fun e => e ▸ hw'
    have hl : (insW ws w).length ≤ 10 := Nat.le_trans (nodup_len nd sub) hn
    have hl' : ¬ ((10 : Int) < (((insW ws w).map (Sum.inr : Str → Key)).length : Int)) := by simp; omega
    refine ⟨S, insW ws w, vs', some (sqs b [.str "part", .str w]), some (.int (l : Int)), x6, ⟨hS'⟩, nd, sub, by rw [et]; rfl, ?_⟩
    generalize sqs b [.str "part", .str w] = PD at *
    generalize stkD b S = SD at *
    generalize ((insW ws w).map (Sum.inr : Str → Key)) = KD at *
    generalize (ws.map (Sum.inr : Str → Key)) = KW at *
    simp at e3
    simp [m_is_structure_l2, e2, e3, c60, c10, e4, i0, i1, e5, e6, hl']
  | node c es =>
    obtain ⟨h8, hc', hx⟩ := EOk_node.mp ox
    have e4 := fun h => outline_node b (c := c) (xs := es.map (eD b)) (flat_eDm b es) (by simpa using h8) (by simpa using hc') h
    rw [eD_node] at e2 e3 ⊢
    have i0 := fun h => ix_cn0 b c (sqs b (es.map (eD b))) h
    have il := fun h => ix_cnl b c (sqs b (es.map (eD b))) h
    have szn : sz (.node c es) = 1 + szL es := by conv => lhs; unfold sz
    have dpn : dp (.node c es) = 1 + dpL es := by conv => lhs; unfold dp
    have hSl : S.length ≤ 60 := by have := len_stk b S; simp [stkD] at this; omega
    obtain ⟨y6, e7⟩ := push_loop b x0 (some (.ref 0)) (some (.int ((cnt : Int) + 1))) (some (cnD b c (sqs b (es.map (eD b))))) l (.dct (ws.map Sum.inr) vs) es S x6 (by omega)
    have e8 : ∀ h, seqD h (sqs b (es.map (eD b))) = some (es.map (eD b)) := fun h => seqD_sqs b _ h
    have e9 : chkQ (sqs b (es.map (eD b))) (es.map (eD b)) = fun _ => true := chkQ_sqs b _
    refine ⟨S ++ es.map fun x => (x, l + 1), ws, vs, some (cnD b c (sqs b (es.map (eD b)))), some (.int (l : Int)), y6, ⟨fun z hz => ?_⟩, hw, hs, ?_, ?_⟩
    · rcases List.mem_append.mp hz with hz | hz
      · exact hS' z hz
      · obtain ⟨x, hx', rfl⟩ := List.mem_map.mp hz
        refine ⟨hx x hx', ?_⟩
        have := dpL_mem hx'
        simp only
        omega
    · rw [totS_app, totS_push, et, szn]; omega
    · generalize stkD b S = SD at *
      generalize (S ++ es.map fun x => (x, l + 1)) = SS at *
      generalize (ws.map (Sum.inr : Str → Key)) = KW at *
      simp at e3
      generalize sqs b (es.map (eD b)) = XD at *
      generalize hCD : cnD b c XD = CD at *
      cases c <;> simp [m_is_structure_l2, e2, e3, c60, c10, e4, i0, il, e8, e9, e7]
theorem str_loop : ∀ (N fuel : Nat) (S : Stk) (ws : List Str) (vs : List D) (cnt : Nat) (x4 x5 x6 : Option D), totS S ≤ N → N < fuel → StkOk ns S → ws.Nodup → (∀ w ∈ ws, w ∈ ns) → cnt + totS S ≤ 60 →
    ∃ (ws' : List Str) (vs' : List D) (y2 y4 y5 y6 : Option D), wl (bTru (eVar 3)) m_is_structure_l2 fuel [x0, some (.ref 0), some (.int (cnt : Int)), some (.ref 1), x4, x5, x6] [.dct (ws.map Sum.inr) vs, .lst (stkD b S)] =
      .nx [x0, some (.ref 0), y2, some (.ref 1), y4, y5, y6] [.dct ((ws' : List Str).map Sum.inr) vs', .lst []]
  | N, 0, S, ws, vs, cnt, x4, x5, x6, h1, h2, _, _, _, _ => by omega
  | N, fuel + 1, S, ws, vs, cnt, x4, x5, x6, h1, h2, hS, hw, hs, hc => by
    rcases List.eq_nil_or_concat S with rfl | ⟨S', z, rfl⟩
    · refine ⟨ws, vs, some (.int (cnt : Int)), x4, x5, x6, ?_⟩
      refine wl_stop (h1 := [.dct (ws.map Sum.inr) vs, .lst []]) ?_
      have := truD_ref (h := [.dct (ws.map (Sum.inr : Str → Key)) vs, .lst []]) (n := 1) (xs := []) rfl
      simp [stkD, this]
    · rw [List.concat_eq_append] at hS hc h1 ⊢
      obtain ⟨S2, ws2, vs2, y4, y5, y6, a1, a2, a3, a4, a5⟩ := str_step b hN hn x0 hS hw hs (vs := vs) hc x4 x5 x6
      obtain ⟨ws', vs', z2, z4, z5, z6, ih⟩ := str_loop (N - 1) fuel S2 ws2 vs2 (cnt + 1) y4 y5 y6 (by omega) (by omega) a1 a2 a3 (by omega)
      refine ⟨ws', vs', z2, z4, z5, z6, Eq.trans (wl_nx (h1 := [.dct (ws.map Sum.inr) vs, .lst (stkD b (S' ++ [z]))]) ?_ a5) ih⟩
      have := truD_ref (h := [.dct (ws.map (Sum.inr : Str → Key)) vs, .lst (stkD b (S' ++ [z]))]) (n := 1) (xs := stkD b (S' ++ [z])) rfl
      have ne : (stkD b (S' ++ [z])).isEmpty = false := by rw [stkD_app]; simp [stkD]
      rw [ne] at this
      simp [this]
end
theorem is_structure_ok (b : Bool) {ns : List Str} {e : E} (O : SOk ns e) (h : Hc) : callL m_is_structure [eD b e] h = .ok (.bl true) h := by
  have hz := O.sz
  have hd := O.dp
  obtain ⟨ws', vs', y2, y4, y5, y6, e1⟩ := str_loop b O.nm O.len (some (eD b e)) 60 100000 [(e, 1)] [] [] 0 none none none (by simp [totS]; omega) (by decide) ⟨fun z hz => by
    have : z = (e, 1) := by simpa using hz
    subst this
    exact ⟨O.ok, by simp only; omega⟩⟩ (by simp) (by simp) (by simp [totS]; omega)
  have e2 : stkD b [(e, 1)] = [.tup [eD b e, .int 1]] := rfl
  rw [e2] at e1
  refine call_flat (h' := [.dct (ws'.map Sum.inr) vs', .lst []]) (by simp) ?_ (by simp) h
  unfold m_is_structure
  rw [runB_s]
  generalize 100000 = FU at *
  have e3 : ((0 : Nat) : Int) = 0 := rfl
  rw [e3, List.map_nil] at e1
  simp [eDct0, e1]
end Mp
/-! StrD: the names in a structure. -/
namespace Mp
open PySem PySem.Spec PyProof.Rows L2
mutual
def nmL : E → List Str
  | .part w => [w]
  | .node _ es => nmLL es
def nmLL : List E → List Str
  | [] => []
  | e :: r => nmL e ++ nmLL r
end
theorem mem_nmLL {w : Str} : ∀ {es : List E}, w ∈ nmLL es ↔ ∃ x ∈ es, w ∈ nmL x
  | [] => by simp [nmLL]
  | e :: r => by
    unfold nmLL
    rw [List.mem_append, mem_nmLL (es := r)]
    simp
theorem mem_node {w : Str} {c : Cn} {es : List E} : w ∈ nmL (.node c es) ↔ ∃ x ∈ es, w ∈ nmL x := by
  conv => lhs; unfold nmL
  exact mem_nmLL
theorem nm_sub {ns : List Str} : ∀ (n : Nat) (e : E), dp e ≤ n → EOk ns e → ∀ w ∈ nmL e, w ∈ ns
  | 0, e, hd, _ => by have := dp_pos e; omega
  | n + 1, .part w, hd, o => by
    intro x hx
    unfold nmL at hx
    have : x = w := by simpa using hx
    subst this
    unfold EOk at o; exact o
  | n + 1, .node c es, hd, o => by
    intro w hw
    obtain ⟨x, hx, hw⟩ := mem_node.mp hw
    have := dp_mem (c := c) hx
    exact nm_sub n x (by omega) ((EOk_node.mp o).2.2 x hx) w hw
/-- the names, sorted -/
def pts (e : E) : List Str := sortS (uq (nmL e))
theorem mem_pts {e : E} {w : Str} : w ∈ pts e ↔ w ∈ nmL e := by unfold pts; rw [isort_mem, mem_uq]
theorem nodup_pts (e : E) : (pts e).Nodup := (isort_perm leS _).nodup_iff.mpr (nodup_uq _)
theorem sort_pts {ks : List Str} {e : E} (h : ks.Nodup) (hm : ∀ w, w ∈ ks ↔ w ∈ nmL e) : sortS ks = pts e := sort_same h (nodup_uq _) fun w => (hm w).trans mem_uq.symm
theorem pts_len {ns : List Str} {e : E} (o : EOk ns e) : (pts e).length ≤ ns.length := nodup_len (nodup_pts e) fun w hw => nm_sub (dp e) e (Nat.le_refl _) o w (mem_pts.mp hw)
abbrev totE (S : List E) : Nat := (S.map sz).sum
theorem totE_szL (es : List E) : totE es = szL es := by
  induction es with
  | nil => simp [szL, totE]
  | cons x r ih => simp only [totE, List.map_cons, List.sum_cons] at ih ⊢; rw [ih]; simp [szL]
theorem len_totE (S : List E) : S.length ≤ totE S := by
  induction S with
  | nil => simp
  | cons x r ih =>
    have := sz_pos x
    simp only [totE, List.map_cons, List.sum_cons, List.length_cons] at ih ⊢
    omega
section
variable (b : Bool) (x0 x1 x3 : Option D) (c0 : C)
theorem npush_loop : ∀ (es S : List E) (x4 : Option D), S.length + es.length ≤ 1000 → ∃ y4, fl (fun _ => true) (.n 4) m_names_in_l1 (es.map (eD b)) [x0, x1, some (.ref 1), x3, x4] [c0, .lst (S.map (eD b))] =
    .nx [x0, x1, some (.ref 1), x3, y4] [c0, .lst ((S ++ es).map (eD b))]
  | [], S, x4, hl => ⟨x4, by simp; exact fl_end rfl⟩
  | x :: r, S, x4, hl => by
    obtain ⟨y4, ih⟩ := npush_loop r (S ++ [x]) (some (eD b x)) (by simp at hl ⊢; omega)
    have hL : (S.map (eD b)).length < 1000000 := by simp at hl ⊢; omega
    have e1 := kindOk_list (h := [c0, .lst (S.map (eD b))]) (n := 1) (xs := S.map (eD b)) rfl
    have e2 := appF_ref (h := [c0, .lst (S.map (eD b))]) (n := 1) (xs := S.map (eD b)) (d := eD b x) rfl hL
    refine ⟨y4, ?_⟩
    rw [List.map_cons]
    refine Eq.trans (fl_n (b := m_names_in_l1) (ds' := [x0, x1, some (.ref 1), x3, some (eD b x)]) (h' := [c0, .lst ((S ++ [x]).map (eD b))]) ?_) (by simpa using ih)
    have e3 : (S ++ [x]).map (eD b) = S.map (eD b) ++ [eD b x] := by simp
    rw [e3]
    generalize S.map (eD b) = SD at *
    simp [m_names_in_l1, e1, e2]
end
section
variable (b : Bool) {ns : List Str} (hn : ns.length ≤ 10) (x0 : Option D)
include hn
theorem nin_step {S : List E} {x : E} (hS : ∀ z ∈ S ++ [x], EOk ns z) {ws : List Str} {vs : List D} (hw : ws.Nodup) (hs : ∀ w ∈ ws, w ∈ ns) (ht : totE (S ++ [x]) ≤ 60) (x3 x4 : Option D) :
    ∃ (S' : List E) (ws' : List Str) (vs' : List D) (y3 y4 : Option D), (∀ z ∈ S', EOk ns z) ∧ ws'.Nodup ∧ (∀ w ∈ ws', w ∈ ns) ∧ totE S' + 1 = totE (S ++ [x]) ∧ (∀ w, (w ∈ ws' ∨ ∃ z ∈ S', w ∈ nmL z) ↔ (w ∈ ws ∨ ∃ z ∈ S ++ [x], w ∈ nmL z)) ∧
      m_names_in_l2 [x0, some (.ref 0), some (.ref 1), x3, x4] [.dct (ws.map Sum.inr) vs, .lst ((S ++ [x]).map (eD b))] =
      .nx [x0, some (.ref 0), some (.ref 1), y3, y4] [.dct (ws'.map Sum.inr) vs', .lst (S'.map (eD b))] := by
  have ox := hS x (by simp)
  have hS' : ∀ z ∈ S, EOk ns z := fun z hz => hS z (by simp [hz])
  have hwl : ws.length ≤ 10 := Nat.le_trans (nodup_len hw hs) hn
  have et : totE (S ++ [x]) = totE S + sz x := by simp [totE]
  have e1 : (S ++ [x]).map (eD b) = S.map (eD b) ++ [eD b x] := by simp
  have e2 := kindOk_list (h := [.dct (ws.map Sum.inr) vs, .lst (S.map (eD b) ++ [eD b x])]) (n := 1) rfl
  have e3 := popF_end (h := [.dct (ws.map Sum.inr) vs, .lst (S.map (eD b) ++ [eD b x])]) (n := 1) (xs := S.map (eD b)) (d := eD b x) rfl
  rw [e1]
  have sx := sz_pos x
  cases x with
  | part w =>
    have hw' : w ∈ ns := by unfold EOk at ox; exact ox
    rw [eD_part] at e2 e3 ⊢
    have i0 := fun h => ix_sqs b [.str "part", .str w] 0 h
    have i1 := fun h => ix_sqs b [.str "part", .str w] 1 h
    simp at i0 i1
    obtain ⟨vs', e5⟩ := putF_name (n := 0) (ws := ws) (vs := vs) (w := w) (x := .bl true) (h := [.dct (ws.map Sum.inr) vs, .lst (S.map (eD b))]) rfl (by omega)
    simp only [List.set_cons_zero] at e5
    refine ⟨S, insW ws w, vs', some (sqs b [.str "part", .str w]), x4, hS', insW_nd hw w, fun y hy => (insW_mem.mp hy).elim (hs y) fun e => e ▸ hw', by rw [et]; rfl, fun y => ?_, ?_⟩
    · rw [insW_mem]
      constructor
      · rintro ((h | rfl) | ⟨z, hz, h⟩)
        · exact .inl h
        · exact .inr ⟨.part y, by simp, by simp [nmL]⟩
        · exact .inr ⟨z, by simp [hz], h⟩
      · rintro (h | ⟨z, hz, h⟩)
        · exact .inl (.inl h)
        · rcases List.mem_append.mp hz with hz | hz
          · exact .inr ⟨z, hz, h⟩
          · have : z = .part w := by simpa using hz
            subst this
            unfold nmL at h
            exact .inl (.inr (by simpa using h))
    · generalize sqs b [.str "part", .str w] = PD at *
      generalize S.map (eD b) = SD at *
      generalize ((insW ws w).map (Sum.inr : Str → Key)) = KD at *
      generalize (ws.map (Sum.inr : Str → Key)) = KW at *
      simp at e3
      simp [m_names_in_l2, e2, e3, i0, i1, e5]
  | node c es =>
    obtain ⟨h8, hc', hx⟩ := EOk_node.mp ox
    rw [eD_node] at e2 e3 ⊢
    have i0 := fun h => ix_cn0 b c (sqs b (es.map (eD b))) h
    have il := fun h => ix_cnl b c (sqs b (es.map (eD b))) h
    have szn : sz (.node c es) = 1 + szL es := by conv => lhs; unfold sz
    have hSl : S.length ≤ 60 := by have := len_totE S; omega
    obtain ⟨y4, e7⟩ := npush_loop b x0 (some (.ref 0)) (some (cnD b c (sqs b (es.map (eD b))))) (.dct (ws.map Sum.inr) vs) es S x4 (by omega)
    have e8 : ∀ h, seqD h (sqs b (es.map (eD b))) = some (es.map (eD b)) := fun h => seqD_sqs b _ h
    have e9 : chkQ (sqs b (es.map (eD b))) (es.map (eD b)) = fun _ => true := chkQ_sqs b _
    refine ⟨S ++ es, ws, vs, some (cnD b c (sqs b (es.map (eD b)))), y4, fun z hz => ?_, hw, hs, ?_, fun y => ?_, ?_⟩
    · rcases List.mem_append.mp hz with hz | hz
      · exact hS' z hz
      · exact hx z hz
    · have := totE_szL es
      have e4 : totE (S ++ es) = totE S + totE es := by simp [totE]
      omega
    · constructor
      · rintro (h | ⟨z, hz, h⟩)
        · exact .inl h
        · rcases List.mem_append.mp hz with hz | hz
          · exact .inr ⟨z, by simp [hz], h⟩
          · exact .inr ⟨.node c es, by simp, mem_node.mpr ⟨z, hz, h⟩⟩
      · rintro (h | ⟨z, hz, h⟩)
        · exact .inl h
        · rcases List.mem_append.mp hz with hz | hz
          · exact .inr ⟨z, by simp [hz], h⟩
          · have : z = .node c es := by simpa using hz
            subst this
            obtain ⟨z, hz, h⟩ := mem_node.mp h
            exact .inr ⟨z, by simp [hz], h⟩
    · generalize S.map (eD b) = SD at *
      generalize (S ++ es).map (eD b) = SS at *
      generalize (ws.map (Sum.inr : Str → Key)) = KW at *
      simp at e3
      generalize sqs b (es.map (eD b)) = XD at *
      generalize hCD : cnD b c XD = CD at *
      cases c <;> simp [m_names_in_l2, e2, e3, i0, il, e8, e9, e7]
theorem nin_loop : ∀ (N fuel : Nat) (S : List E) (ws : List Str) (vs : List D) (x3 x4 : Option D), totE S ≤ N → N < fuel → totE S ≤ 60 → (∀ z ∈ S, EOk ns z) → ws.Nodup → (∀ w ∈ ws, w ∈ ns) →
    ∃ (ws' : List Str) (vs' : List D) (y3 y4 : Option D), ws'.Nodup ∧ (∀ w, w ∈ ws' ↔ (w ∈ ws ∨ ∃ z ∈ S, w ∈ nmL z)) ∧ (∀ w ∈ ws', w ∈ ns) ∧ wl (bTru (eVar 2)) m_names_in_l2 fuel [x0, some (.ref 0), some (.ref 1), x3, x4] [.dct (ws.map Sum.inr) vs, .lst (S.map (eD b))] =
      .nx [x0, some (.ref 0), some (.ref 1), y3, y4] [.dct ((ws' : List Str).map Sum.inr) vs', .lst []]
  | N, 0, S, ws, vs, x3, x4, h1, h2, _, _, _, _ => by omega
  | N, fuel + 1, S, ws, vs, x3, x4, h1, h2, h60, hS, hw, hs => by
    rcases List.eq_nil_or_concat S with rfl | ⟨S', z, rfl⟩
    · refine ⟨ws, vs, x3, x4, hw, fun w => by simp, hs, ?_⟩
      refine wl_stop (h1 := [.dct (ws.map Sum.inr) vs, .lst []]) ?_
      have := truD_ref (h := [.dct (ws.map (Sum.inr : Str → Key)) vs, .lst []]) (n := 1) (xs := []) rfl
      simp [this]
    · rw [List.concat_eq_append] at hS h1 h60 ⊢
      obtain ⟨S2, ws2, vs2, y3, y4, a1, a2, a3, a4, a5, a6⟩ := nin_step b hn x0 hS hw hs (vs := vs) h60 x3 x4
      obtain ⟨ws', vs', z3, z4, c1, c2, c3, ih⟩ := nin_loop (N - 1) fuel S2 ws2 vs2 y3 y4 (by omega) (by omega) (by omega) a1 a2 a3
      refine ⟨ws', vs', z3, z4, c1, fun w => (c2 w).trans (a5 w), c3, Eq.trans (wl_nx (h1 := [.dct (ws.map Sum.inr) vs, .lst ((S' ++ [z]).map (eD b))]) ?_ a6) ih⟩
      have := truD_ref (h := [.dct (ws.map (Sum.inr : Str → Key)) vs, .lst ((S' ++ [z]).map (eD b))]) (n := 1) (xs := (S' ++ [z]).map (eD b)) rfl
      have ne : ((S' ++ [z]).map (eD b)).isEmpty = false := by simp
      rw [ne] at this
      generalize (S' ++ [z]).map (eD b) = SD at *
      simp [this]
end
@[simp] theorem keysS_inr : ∀ ws : List Str, keysS (ws.map Sum.inr) = some ws
  | [] => rfl
  | w :: r => by simp [keysS, keysS_inr r]
theorem sortX_dct {n : Nat} {ws : List Str} {vs : List D} {h : Hc} (e : h[n]? = some (.dct (ws.map Sum.inr) vs)) (hl : ws.length < 64) : sortX h (.ref n) = some ((sortS ws).map D.str) := by
  unfold sortX
  simp [rdlD, lstD, e, dctD, hl]
theorem sortX_cell {n : Nat} {ws : List Str} {h : Hc} (e : h[n]? = some (.lst (ws.map D.str))) (hl : ws.length < 64) : sortX h (.ref n) = some ((sortS ws).map D.str) := by
  unfold sortX
  simp [rdlD, lstD, e, hl]
theorem names_in_ok (b : Bool) {ns : List Str} {e : E} (O : SOk ns e) (h : Hc) : callL m_names_in [eD b e] h = .ok (.tup ((pts e).map D.str)) h := by
  have hz := O.sz
  obtain ⟨ws', vs', y3, y4, c1, c2, c3, e1⟩ := nin_loop b O.len (some (eD b e)) 60 100000 [e] [] [] none none (by simp [totE]; omega) (by decide) (by simp [totE]; omega) (by simpa using O.ok) (by simp) (by simp)
  have e2 : sortS ws' = pts e := sort_pts c1 fun w => by rw [c2]; simp
  have hl : ws'.length < 64 := by have := nodup_len c1 c3; have := O.len; omega
  have e3 := sortX_dct (n := 0) (ws := ws') (vs := vs') (h := [.dct (ws'.map Sum.inr) vs', .lst []]) rfl hl
  rw [e2] at e3
  refine call_flat (h' := [.dct (ws'.map Sum.inr) vs', .lst []]) (by simp) ?_ (by simp) h
  unfold m_names_in
  rw [runB_s]
  generalize 100000 = FU at *
  simp only [List.map_nil, List.map_cons] at e1
  simp [eDct0, e1, sortF, e3, tupleF]
end Mp
/-! StrE: the law's names; whether a structure works. -/
namespace Mp
open PySem PySem.Spec PyProof.Rows L2
theorem ix_last (c : Cn) (x : D) (h : Hc) : ixF (cnD false c x) (.int ((match c with | .some _ => 3 | _ => 2) - 1)) h = .ok x h := by
  cases c <;> (unfold cnD; rw [ix_sqs]; simp)
def insM (ws us : List Str) : List Str := us.foldl insW ws
theorem insM_nd : ∀ {us ws : List Str}, ws.Nodup → (insM ws us).Nodup
  | [], _, h => h
  | u :: r, ws, h => insM_nd (us := r) (insW_nd h u)
theorem insM_mem {w : Str} : ∀ {us ws : List Str}, w ∈ insM ws us ↔ w ∈ ws ∨ w ∈ us
  | [], ws => by simp [insM]
  | u :: r, ws => by
    show w ∈ insM (insW ws u) r ↔ _
    rw [insM_mem (us := r), insW_mem, List.mem_cons, or_assoc]
section
variable {ns : List Str} (hn : ns.length ≤ 10) (n : Nat) (x0 x2 : Option D)
include hn
theorem lp_l1 : ∀ (us ws : List Str) (x3 : Option D), ws.Nodup → (∀ w ∈ ws, w ∈ ns) → (∀ w ∈ us, w ∈ ns) → ∃ y3, fl (fun _ => true) (.n 3) (m_law_parts_l1 (m_law_parts n)) (us.map D.str) [x0, some (.ref 0), x2, x3] [.lst (ws.map D.str)] =
    .nx [x0, some (.ref 0), x2, y3] [.lst ((insM ws us).map D.str)]
  | [], ws, x3, _, _, _ => ⟨x3, by simp [insM]; exact fl_end rfl⟩
  | u :: r, ws, x3, hw, hs, hu => by
    have hwl : ws.length ≤ 10 := Nat.le_trans (nodup_len hw hs) hn
    obtain ⟨y3, ih⟩ := lp_l1 r (insW ws u) (some (.str u)) (insW_nd hw u) (fun y hy => (insW_mem.mp hy).elim (hs y) fun e => e ▸ hu u (by simp)) fun y hy => hu y (by simp [hy])
    have e1 := kindOk_list (h := [.lst (ws.map D.str)]) (n := 0) rfl
    have e2 := appF_ref (h := [.lst (ws.map D.str)]) (n := 0) (xs := ws.map D.str) (d := .str u) rfl (by simp; omega)
    have e3 := inG_strs true u (U := .ref 0) (us := ws) (h := [.lst (ws.map D.str)]) rfl
    refine ⟨y3, ?_⟩
    rw [List.map_cons]
    refine Eq.trans (fl_n (b := m_law_parts_l1 (m_law_parts n)) (ds' := [x0, some (.ref 0), x2, some (.str u)]) (h' := [.lst ((insW ws u).map D.str)]) ?_) ih
    unfold insW
    by_cases hm : u ∈ ws
    · rw [if_pos hm]
      simp only [hm, decide_true, Bool.not_true, if_true] at e3
      generalize ws.map D.str = WS at *
      simp [m_law_parts_l1, e3]
    · rw [if_neg hm, List.map_append, List.map_cons, List.map_nil]
      simp only [hm, decide_false, Bool.not_false, if_true] at e3
      generalize ws.map D.str = WS at *
      simp [m_law_parts_l1, e1, e2, e3]
theorem lp_l2 (ih : ∀ x h, dp x ≤ n → EOk ns x → callL (m_law_parts n) [eD false x] h = .ok (.lst ((pts x).map D.str)) h) : ∀ (es : List E) (ws : List Str) (x2 x3 : Option D), ws.Nodup → (∀ w ∈ ws, w ∈ ns) → (∀ x ∈ es, dp x ≤ n ∧ EOk ns x) →
    ∃ (ws' : List Str) (y2 y3 : Option D), ws'.Nodup ∧ (∀ w, w ∈ ws' ↔ (w ∈ ws ∨ ∃ x ∈ es, w ∈ nmL x)) ∧ fl (fun _ => true) (.n 2) (m_law_parts_l2 (m_law_parts n)) (es.map (eD false)) [x0, some (.ref 0), x2, x3] [.lst (ws.map D.str)] =
    .nx [x0, some (.ref 0), y2, y3] [.lst (ws'.map D.str)]
  | [], ws, x2, x3, hw, _, _ => ⟨ws, x2, x3, hw, by simp, fl_end rfl⟩
  | x :: r, ws, x2, x3, hw, hs, hx => by
    obtain ⟨dx, ox⟩ := hx x (by simp)
    have sub : ∀ w ∈ pts x, w ∈ ns := fun w hw => nm_sub (dp x) x (Nat.le_refl _) ox w (mem_pts.mp hw)
    obtain ⟨y3, e1⟩ := lp_l1 hn n x0 (some (eD false x)) (pts x) ws x3 hw hs sub
    obtain ⟨ws', z2, z3, c1, c2, e2⟩ := lp_l2 ih r (insM ws (pts x)) (some (eD false x)) y3 (insM_nd hw) (fun y hy => (insM_mem.mp hy).elim (hs y) (sub y)) fun y hy => hx y (by simp [hy])
    have e3 := fun h => ih x h dx ox
    refine ⟨ws', z2, z3, c1, fun w => ?_, ?_⟩
    · rw [c2, insM_mem, mem_pts]
      simp only [List.mem_cons, exists_eq_or_imp, or_assoc]
    · rw [List.map_cons]
      refine Eq.trans (fl_n (b := m_law_parts_l2 (m_law_parts n)) (ds' := [x0, some (.ref 0), some (eD false x), y3]) (h' := [.lst ((insM ws (pts x)).map D.str)]) ?_) e2
      generalize (pts x).map D.str = PX at *
      generalize (insM ws (pts x)).map D.str = MX at *
      generalize ws.map D.str = WS at *
      simp [m_law_parts_l2, e3, e1]
end
theorem law_parts_ok {ns : List Str} (hn : ns.length ≤ 10) : ∀ (n : Nat) (e : E) (h : Hc), dp e ≤ n → EOk ns e → callL (m_law_parts n) [eD false e] h = .ok (.lst ((pts e).map D.str)) h
  | 0, e, h, hd, o => by have := dp_pos e; omega
  | n + 1, .part w, h, hd, o => by
    have e1 : pts (.part w) = [w] := by simp [pts, nmL, uq, isort, insO]
    rw [e1]
    refine call_flat (h' := []) (by simp) ?_ (by simp) h
    unfold m_law_parts
    rw [runB_s]
    simp [eD_part, sqs]
  | n + 1, .node c es, h, hd, o => by
    obtain ⟨h8, hc, hx⟩ := EOk_node.mp o
    have hx' : ∀ x ∈ es, dp x ≤ n ∧ EOk ns x := fun x hx1 => ⟨by have := dp_mem (c := c) hx1; omega, hx x hx1⟩
    obtain ⟨ws', y2, y3, c1, c2, e1⟩ := lp_l2 hn n (some (eD false (.node c es))) (fun x h => law_parts_ok hn n x h) es [] none none (by simp) (by simp) hx'
    have e2 : sortS ws' = pts (.node c es) := sort_pts c1 fun w => by rw [c2, mem_node]; simp
    have sub : ∀ w ∈ ws', w ∈ ns := fun w hw => by
      obtain ⟨x, hx1, hw⟩ := ((c2 w).mp hw).resolve_left (by simp)
      exact nm_sub (dp x) x (Nat.le_refl _) (hx x hx1) w hw
    have hl : ws'.length < 64 := by have := nodup_len c1 sub; omega
    have e3 := sortX_cell (n := 0) (ws := ws') (h := [.lst (ws'.map D.str)]) rfl hl
    rw [e2] at e3
    refine call_flat (h' := [.lst (ws'.map D.str)]) (by simp) ?_ (by simp) h
    rw [eD_node] at e1 ⊢
    have i0 := fun h => ix_cn0 false c (sqs false (es.map (eD false))) h
    have il := fun h => ix_last c (sqs false (es.map (eD false))) h
    have ll := fun h => len_cn false c (sqs false (es.map (eD false))) h
    have e8 : ∀ h, seqD h (sqs false (es.map (eD false))) = some (es.map (eD false)) := fun h => seqD_sqs false _ h
    have e9 : chkQ (sqs false (es.map (eD false))) (es.map (eD false)) = fun _ => true := chkQ_sqs false _
    unfold m_law_parts
    rw [runB_s]
    simp only [List.map_nil] at e1
    generalize sqs false (es.map (eD false)) = XD at *
    generalize hCD : cnD false c XD = CD at *
    generalize (pts (.node c es)).map D.str = PD at *
    generalize ws'.map D.str = WD at *
    cases c <;> simp [i0] <;> simp at il ll <;> simp [il, ll, e8, e9, e1, sortF, e3]
/-! ### whether it works -/
def thr (c : Cn) (cnt len : Nat) : Bool := match c with
  | .all => decide (cnt = len)
  | .any => decide (0 < cnt)
  | .some k => decide (k ≤ (cnt : Int))
mutual
def wk (us : List Str) : E → Bool
  | .part w => decide (w ∈ us)
  | .node c es => thr c (cntW us es) es.length
def cntW (us : List Str) : List E → Nat
  | [] => 0
  | e :: r => (if wk us e = true then 1 else 0) + cntW us r
end
theorem cntW_filter (us : List Str) : ∀ es : List E, cntW us es = (es.filter (wk us)).length
  | [] => by simp [cntW]
  | e :: r => by
    unfold cntW
    rw [cntW_filter us r]
    by_cases h : wk us e = true
    · simp [h]; omega
    · simp [h]
/-- a list of names, as a def sees it -/
inductive UpC (us : List Str) : D → Hc → Prop
  | tup : UpC us (.tup (us.map D.str)) []
  | lst : UpC us (.lst (us.map D.str)) []
  | ref : UpC us (.ref 0) [.lst (us.map D.str)]
/-- as a caller has it -/
inductive UpV (us : List Str) : D → Hc → Prop
  | tup (h : Hc) : UpV us (.tup (us.map D.str)) h
  | lst (h : Hc) : UpV us (.lst (us.map D.str)) h
  | ref {i : Nat} {h : Hc} (e : h[i]? = some (.lst (us.map D.str))) : UpV us (.ref i) h
theorem UpC.v {us : List Str} {U : D} {h : Hc} (u : UpC us U h) : UpV us U h := by
  cases u
  · exact .tup _
  · exact .lst _
  · exact .ref rfl
theorem UpV.seq {us : List Str} {U : D} {h : Hc} (u : UpV us U h) : seqD h U = some (us.map D.str) := by
  cases u with
  | tup => rfl
  | lst => rfl
  | ref e => simp [e]
theorem call_up {m : Fn} {us : List Str} {x r : D} (fx : flat x = true) (fr : flat r = true) (key : ∀ U h, UpC us U h → m [x, U] h = .ok r h) {U : D} {h : Hc} (u : UpV us U h) : callL m [x, U] h = .ok r h := by
  cases u with
  | tup => exact call_flat (h' := []) (by simp [fx]) (key _ _ .tup) fr h
  | lst => exact call_flat (h' := []) (by simp [fx]) (key _ _ .lst) fr h
  | @ref i _ e =>
    have hr : refsOf [x, D.ref i] = [i] := by
      cases x <;> first | rfl | (simp at fx)
    have hren : renL [i] [x, D.ref i] = some [x, .ref 0] := by
      have h1 : renD [i] x = some x := by
        cases x <;> first | (unfold renD; simp [fx]; done) | (simp at fx; done)
      have h2 : renD [i] (.ref i) = some (.ref 0) := by unfold renD; simp [List.findIdx?_cons]
      unfold renL
      rw [h1]
      unfold renL
      rw [h2]
      rfl
    have := call_ref1 (m := m) (as := [x, .ref i]) (as' := [x, .ref 0]) (i := i) (c := .lst (us.map D.str)) (c' := .lst (us.map D.str)) (h := h) (h' := [.lst (us.map D.str)]) hr hren e (by simp) (key _ _ .ref) rfl (by simp) (frzD_flat fr)
    rw [this]
    obtain ⟨hi, e'⟩ := List.getElem?_eq_some_iff.mp e
    rw [← e']
    simp
def cn1 (c : Cn) (x : D) : D := match c with
  | .some k => .int k
  | _ => x
theorem ix_cn1 (b : Bool) (c : Cn) (x : D) (h : Hc) : ixF (cnD b c x) (.int 1) h = .ok (cn1 c x) h := by
  cases c <;> (unfold cnD; rw [ix_sqs]; simp [cn1])
theorem law_works_ok (us : List Str) {ns : List Str} : ∀ (n : Nat) (e : E), dp e ≤ n → EOk ns e → ∀ U h, UpV us U h → callL (m_law_works n) [eD false e, U] h = .ok (.bl (wk us e)) h
  | 0, e, hd, o => by have := dp_pos e; omega
  | n + 1, .part w, hd, o => fun U h u => by
    refine call_up (by simp) (by simp) (fun U h u => ?_) u
    have e1 := inG_strs false w (h := h) u.v.seq
    have ew : wk us (.part w) = decide (w ∈ us) := by unfold wk; rfl
    rw [ew]
    unfold m_law_works
    rw [runB_s, eD_part]
    simp [sqs, e1]
  | n + 1, .node c es, hd, o => fun U h u => by
    refine call_up (by simp) (by simp) (fun U h u => ?_) u
    obtain ⟨h8, hc, hx⟩ := EOk_node.mp o
    have ih : ∀ x ∈ es, callL (m_law_works n) [eD false x, U] h = .ok (.bl (wk us x)) h := fun x hx1 => law_works_ok us n x (by have := dp_mem (c := c) hx1; omega) (hx x hx1) U h u.v
    rw [eD_node]
    have i0 := fun h => ix_cn0 false c (sqs false (es.map (eD false))) h
    have il := fun h => ix_last c (sqs false (es.map (eD false))) h
    have ll := fun h => len_cn false c (sqs false (es.map (eD false))) h
    have e8 : ∀ h, seqD h (sqs false (es.map (eD false))) = some (es.map (eD false)) := fun h => seqD_sqs false _ h
    have e9 : chkQ (sqs false (es.map (eD false))) (es.map (eD false)) = fun _ => true := chkQ_sqs false _
    have e1 := lcR_fm (chk := fun _ => true) (p := .n 3) (own := [3]) (c := m_law_works_t1 (m_law_works n)) (m := m_law_works_c1 (m_law_works n)) (ds := [some (cnD false c (sqs false (es.map (eD false)))), some U, none, none]) (h := h) (eD false) (wk us) (eD false) rfl es [] (by simp; omega)
      (fun x hx1 => ⟨_, bindP_n .., by simp [m_law_works_t1, ih x hx1], by simp [m_law_works_c1]⟩)
    simp only [List.nil_append] at e1
    have e2 : ∀ h, lenF [.lst ((es.filter (wk us)).map (eD false))] h = .ok (.int (cntW us es : Nat)) h := fun h => by
      rw [cntW_filter, lenF_lst, List.length_map]
    have ew : wk us (.node c es) = thr c (cntW us es) es.length := by conv => lhs; unfold wk
    have el : ∀ h, lenF [sqs false (es.map (eD false))] h = .ok (.int (es.length : Int)) h := fun h => by rw [len_sqs]; simp
    have l1 := fun h => ix_cn1 false c (sqs false (es.map (eD false))) h
    rw [ew]
    unfold m_law_works
    rw [runB_s]
    generalize sqs false (es.map (eD false)) = XD at *
    generalize ((es.filter (wk us)).map (eD false)) = FD at *
    generalize hCD : cnD false c XD = CD at *
    cases c with
    | all =>
      simp at il ll
      simp [i0, il, ll, e8, e9, e1, e2, el, l1, cn1, thr]
      omega
    | any =>
      simp at il ll
      simp [i0, il, ll, e8, e9, e1, e2, el, l1, cn1, thr]
    | some k =>
      simp at il ll
      simp [i0, il, ll, e8, e9, e1, e2, el, l1, cn1, thr]
end Mp
/-! StrF: drawn letters and names. -/
namespace Mp
open PySem PySem.Spec PyProof.Rows L2
def chS (c : Nat) : Str := ⟨#[c]⟩
theorem app_list (a b : Str) : (a ++ b).cps.toList = a.cps.toList ++ b.cps.toList := by
  show (a.cps ++ b.cps).toList = _
  simp
theorem ch_list (c : Nat) : (chS c).cps.toList = [c] := rfl
theorem abc_ix {v : Int} (h0 : 0 ≤ v) (h1 : v < 26) (h : Hc) : ixF (.str "abcdefghijklmnopqrstuvwxyz") (.int v) h = .ok (.str (chS (97 + v.toNat))) h := by
  have hl : (Str.ofString "abcdefghijklmnopqrstuvwxyz").length ≤ lim := by decide +kernel
  unfold ixF
  simp only
  rw [if_pos hl, abc_list, atI_of h0 (by simp; omega)]
  rw [List.getElem?_range' (by omega)]
  simp [chS]
structure LowN (lo hi : Nat) (w : Str) : Prop where
  lo : lo ≤ w.cps.toList.length
  hi : w.cps.toList.length ≤ hi
  low : ∀ c ∈ w.cps.toList, 97 ≤ c ∧ c ≤ 122
section
variable {row : List Int} (hr : row ≠ [])
include hr
theorem letters_loop (x2 : Option D) : ∀ (items : List D) (w : Str) (n : Nat) (x4 : Option D) (k : Int), 0 ≤ k → LowN n n w → n + items.length ≤ 1000 → ∃ w' y4 k', 0 ≤ k' ∧ LowN (n + items.length) (n + items.length) w' ∧
    fl (fun _ => true) (.n 4) m_law_letters_l1 items [some (.lst (row.map D.int)), some (.ref 0), x2, some (.str w), x4] [.lst [.int k]] = .nx [some (.lst (row.map D.int)), some (.ref 0), x2, some (.str w'), y4] [.lst [.int k']]
  | [], w, n, x4, k, hk, L, _ => ⟨w, x4, k, hk, L, fl_end rfl⟩
  | d :: r, w, n, x4, k, hk, L, hl => by
    obtain ⟨v, k1, v0, v1, hk1, e1⟩ := take_ex hr (h := [.lst [.int k]]) (i := 0) (k := k) (l := 26) rfl hk (by decide)
    simp only [List.set_cons_zero] at e1
    have hl' : n + r.length + 1 ≤ 1000 := by simpa [Nat.add_assoc] using hl
    have L1 : LowN (n + 1) (n + 1) (w ++ chS (97 + v.toNat)) := by
      have a := L.lo
      have b := L.hi
      refine ⟨?_, ?_, ?_⟩
      · rw [app_list, ch_list]; simp at a ⊢; omega
      · rw [app_list, ch_list]; simp at b ⊢; omega
      · intro c hc
        rw [app_list, ch_list] at hc
        rcases List.mem_append.mp hc with hc | hc
        · exact L.low c hc
        · have : c = 97 + v.toNat := by simpa using hc
          omega
    obtain ⟨w', y4, k', hk', L', ih⟩ := letters_loop x2 r _ (n + 1) (some d) k1 hk1 L1 (by omega)
    have e2 := fun h => abc_ix v0 v1 h
    have hlen : w.length + (chS (97 + v.toNat)).length ≤ 1000000 := by
      rw [str_len, str_len, ch_list]
      have := L.hi
      simp at this ⊢; omega
    refine ⟨w', y4, k', hk', ?_, ?_⟩
    · have : n + (d :: r).length = n + 1 + r.length := by simp; omega
      rw [this]; exact L'
    · refine Eq.trans (fl_n (b := m_law_letters_l1) (ds' := [some (.lst (row.map D.int)), some (.ref 0), x2, some (.str (w ++ chS (97 + v.toNat))), some d]) (h' := [.lst [.int k1]]) ?_) ih
      simp [m_law_letters_l1, e1, e2, hlen]
theorem letters_ex {many : Nat} (hm : many ≤ 900) {k : Int} {i : Nat} {h : Hc} (hi : h[i]? = some (.lst [.int k])) (hk : 0 ≤ k) : ∃ w k', LowN many many w ∧ 0 ≤ k' ∧ callL m_law_letters [.lst (row.map D.int), .ref i, .int (many : Int)] h = .ok (.str w) (h.set i (.lst [.int k'])) := by
  obtain ⟨w, y4, k', hk', L, e⟩ := letters_loop hr (some (.int (many : Int))) (upFrom 0 many) "" 0 none k hk ⟨by simp, by decide +kernel, by
    have : (Str.ofString "").cps.toList = [] := by decide +kernel
    rw [this]; simp⟩ (by rw [upFrom_len]; omega)
  rw [upFrom_len, Nat.zero_add] at L
  have g1 : rgOk (many : Int) = true := rgOk_nat (by omega)
  refine ⟨w, k', L, hk', call_spot (d0 := .str w) (h' := [.lst [.int k']]) (by simp) (by simp) hi ?_ rfl fun j => frzD_flat (by simp)⟩
  unfold m_law_letters
  rw [runB_s]
  simp [g1, e]
end
/-! ### names -/
def nxt (w : Str) (c : Nat) : Str := ⟨(w.cps.toList.take 7 ++ [97 + c]).toArray⟩
theorem nxt_list (w : Str) (c : Nat) : (nxt w c).cps.toList = w.cps.toList.take 7 ++ [97 + c] := by simp [nxt]
def att (u : Nat) (w : Str) : Nat → Str
  | 0 => w
  | k + 1 => nxt (att u w k) ((k * 7 + u) % 26)
theorem att_shape {u : Nat} {w : Str} (L : LowN 1 8 w) : ∀ k, LowN 1 8 (att u w k)
  | 0 => L
  | k + 1 => by
    have L' := att_shape (u := u) L k
    refine ⟨?_, ?_, fun c hc => ?_⟩
    · unfold att; rw [nxt_list]; simp
    · unfold att; rw [nxt_list]; simp; omega
    · unfold att at hc
      rw [nxt_list] at hc
      rcases List.mem_append.mp hc with hc | hc
      · exact L'.low c (List.mem_of_mem_take hc)
      · have : c = 97 + (k * 7 + u) % 26 := by simpa using hc
        omega
theorem att_ne {u : Nat} {w : Str} {i j : Nat} (hi : 1 ≤ i) (hij : i < j) (hj : j ≤ 21) : att u w i ≠ att u w j := by
  intro e
  obtain ⟨a, rfl⟩ : ∃ a, i = a + 1 := ⟨i - 1, by omega⟩
  obtain ⟨b, rfl⟩ : ∃ b, j = b + 1 := ⟨j - 1, by omega⟩
  have e2 : (att u w (a + 1)).cps.toList.getLast? = (att u w (b + 1)).cps.toList.getLast? := by rw [e]
  unfold att at e2
  rw [nxt_list, nxt_list] at e2
  simp at e2
  omega
theorem att_good (u : Nat) (w : Str) (B : List Str) (hB : B.length ≤ 20) : ∃ j, j ≤ 21 ∧ att u w j ∉ B := by
  refine Classical.byContradiction fun hno => ?_
  have all : ∀ j, j ≤ 21 → att u w j ∈ B := fun j hj => Classical.byContradiction fun h => hno ⟨j, hj, h⟩
  have nd : ((List.range' 1 21).map (att u w)).Nodup := by
    refine List.pairwise_map.mpr ?_
    refine List.Pairwise.imp_of_mem ?_ (List.pairwise_lt_range' (s := 1) (n := 21))
    intro a b ha hb hab
    have ha' := List.mem_range'_1.mp ha
    have hb' := List.mem_range'_1.mp hb
    exact att_ne ha'.1 hab (by omega)
  have := nodup_len nd (m := B) fun x hx => by
    obtain ⟨j, hj, rfl⟩ := List.mem_map.mp hx
    have := List.mem_range'_1.mp hj
    exact all j (by omega)
  simp at this
  omega

abbrev resv : List Str := ["and", "or", "of", "always", "never"]
theorem reserved_ok (h : Hc) : callL m_law_reserved [] h = .ok (.lst (resv.map D.str)) h := by
  refine call_flat (h' := []) (by simp) ?_ (by simp) h
  unfold m_law_reserved
  rw [runB_s]
  simp
theorem sl7 (w : Str) (hw : w.cps.toList.length ≤ 8) (h : Hc) : slF (.str w) none (some 7) h = .ok (.str ⟨(w.cps.toList.take 7).toArray⟩) h := by
  unfold slF
  simp only
  rw [if_pos (by rw [str_len, lim_eq]; omega)]
  unfold cutD
  simp [HT.sIx]
section
variable (row : List D) (used : List Str) (hu : used.length ≤ 15) {w : Str} (L : LowN 1 8 w)
include hu L
theorem name_step {k : Nat} (hk : k ≤ 20) (hb : att used.length w k ∈ used ++ resv) (q : Int) : m_law_name_l1 [some (.lst row), some (.ref 0), some (.ref 1), some (.str (att used.length w k)), some (.int (k : Int))] [.lst [.int q], .lst (used.map D.str)] =
    .nx [some (.lst row), some (.ref 0), some (.ref 1), some (.str (att used.length w (k + 1))), some (.int (k : Int))] [.lst [.int q], .lst (used.map D.str)] := by
  have A := att_shape (u := used.length) L k
  have e1 := inG_strs true (att used.length w k) (U := .ref 1) (us := used) (h := [.lst [.int q], .lst (used.map D.str)]) rfl
  have e2 := fun h => inG_strs true (att used.length w k) (U := .lst (resv.map D.str)) (us := resv) (h := h) rfl
  have e3 := fun h => reserved_ok h
  have e4 := fun h => sl7 (att used.length w k) A.hi h
  have e5 := lenF_ref [.lst [.int q], .lst (used.map D.str)] (n := 1) (xs := used.map D.str) rfl
  have e6 := fun h => abc_ix (v := ((k * 7 + used.length : Nat) : Int) % 26) (by omega) (by omega) h
  have en : (((k * 7 + used.length : Nat) : Int) % 26).toNat = (k * 7 + used.length) % 26 := by omega
  rw [en] at e6
  have ek : ((k * 7 + used.length : Nat) : Int) = (k : Int) * 7 + (used.length : Int) := by omega
  rw [ek] at e6
  have ea : (⟨((att used.length w k).cps.toList.take 7).toArray⟩ : Str) ++ chS (97 + (k * 7 + used.length) % 26) = att used.length w (k + 1) := by
    apply str_ext
    rw [app_list, ch_list]
    conv => rhs; unfold att
    rw [nxt_list]
  have hlen : (⟨((att used.length w k).cps.toList.take 7).toArray⟩ : Str).length + (chS (97 + (k * 7 + used.length) % 26)).length ≤ 1000000 := by
    rw [str_len, str_len, ch_list]
    simp; omega
  have k20 : ¬ (20 < (k : Int)) := by omega
  have d26 : divOk 26 = true := divOk_of _ (by decide) (by decide) (by decide)
  have m7 : mulOk (k : Int) 7 = true := mulOk_r _ _ (by decide) (by decide)
  have hb' : att used.length w k ∈ used ∨ att used.length w k ∈ resv := List.mem_append.mp hb
  generalize (k * 7 + used.length) % 26 = M at *
  generalize hS7 : (⟨((att used.length w k).cps.toList.take 7).toArray⟩ : Str) = S7 at *
  generalize att used.length w (k + 1) = A1 at *
  generalize att used.length w k = A0 at *
  simp only [if_true] at e1 e2
  by_cases h1 : A0 ∈ used
  · simp only [h1, decide_true, Bool.not_true] at e1
    rw [List.length_map] at e5
    generalize used.map D.str = US at *
    generalize used.length = UL at *
    simp [m_law_name_l1, e1, e3, e4, e5, e6, d26, m7, hlen, ea, k20]
  · have h2 : A0 ∈ resv := hb'.resolve_left h1
    simp only [h1, decide_false, Bool.not_false] at e1
    simp only [h2, decide_true, Bool.not_true] at e2
    rw [List.length_map] at e5
    generalize used.map D.str = US at *
    generalize used.length = UL at *
    generalize resv.map D.str = RS at *
    simp [m_law_name_l1, e1, e2, e3, e4, e5, e6, d26, m7, hlen, ea, k20]
theorem name_stop {k : Nat} (hb : att used.length w k ∉ used ++ resv) (q : Int) : m_law_name_l1 [some (.lst row), some (.ref 0), some (.ref 1), some (.str (att used.length w k)), some (.int (k : Int))] [.lst [.int q], .lst (used.map D.str)] =
    .bk [some (.lst row), some (.ref 0), some (.ref 1), some (.str (att used.length w k)), some (.int (k : Int))] [.lst [.int q], .lst (used.map D.str)] := by
  have e1 := inG_strs true (att used.length w k) (U := .ref 1) (us := used) (h := [.lst [.int q], .lst (used.map D.str)]) rfl
  have e2 := fun h => inG_strs true (att used.length w k) (U := .lst (resv.map D.str)) (us := resv) (h := h) rfl
  have e3 := fun h => reserved_ok h
  have h1 : att used.length w k ∉ used := fun h => hb (List.mem_append_left _ h)
  have h2 : att used.length w k ∉ resv := fun h => hb (List.mem_append_right _ h)
  simp only [if_true] at e1 e2
  simp only [h1, decide_false, Bool.not_false] at e1
  simp only [h2, decide_false, Bool.not_false] at e2
  generalize used.map D.str = US at *
  generalize resv.map D.str = RS at *
  simp [m_law_name_l1, e1, e2, e3]
theorem name_loop (q : Int) : ∀ (t k m : Nat) (x4 : Option D), k + t ≤ 21 → t < m → att used.length w (k + t) ∉ used ++ resv → ∃ j y4, att used.length w j ∉ used ++ resv ∧
    fl (fun _ => true) (.n 4) m_law_name_l1 ((List.range' k m).map fun (j : Nat) => D.int (j : Int)) [some (.lst row), some (.ref 0), some (.ref 1), some (.str (att used.length w k)), x4] [.lst [.int q], .lst (used.map D.str)] =
      .nx [some (.lst row), some (.ref 0), some (.ref 1), some (.str (att used.length w j)), y4] [.lst [.int q], .lst (used.map D.str)]
  | t, k, 0, x4, h1, h2, hg => by omega
  | t, k, m + 1, x4, h1, h2, hg => by
    rw [List.range'_succ, List.map_cons]
    by_cases hb : att used.length w k ∈ used ++ resv
    · cases t with
      | zero => exact absurd hb hg
      | succ t =>
        obtain ⟨j, y4, hj, ih⟩ := name_loop q t (k + 1) m (some (.int (k : Int))) (by omega) (by omega) (by rw [show k + 1 + t = k + (t + 1) by omega]; exact hg)
        refine ⟨j, y4, hj, Eq.trans (fl_n (b := m_law_name_l1) ?_) ih⟩
        exact name_step row used hu L (by omega) hb q
    · refine ⟨k, some (.int (k : Int)), hb, ?_⟩
      exact fl_bk rfl (bindP_n ..) (name_stop row used hu L hb q)
end
theorem call_ref2 {m : Fn} {R : List D} {i j : Nat} {c1 c2 c1' c2' : C} {h h' : Hc} {d : D} (hR : flatL R = true) (hij : i ≠ j) (hi : h[i]? = some c1) (hj : h[j]? = some c2) (f1 : flatC c1 = true) (f2 : flatC c2 = true)
    (hm : m [.lst R, .ref 0, .ref 1] [c1, c2] = .ok d (c1' :: c2' :: h')) (g1 : flatC c1' = true) (g2 : flatC c2' = true) (fd : flat d = true) : callL m [.lst R, .ref i, .ref j] h = .ok d ((h.set i c1').set j c2') := by
  have e1 : refsOf [D.lst R, .ref i, .ref j] = [i, j] := by
    show refsOf [D.ref i, .ref j] = [i, j]
    unfold refsOf
    have : refsOf [D.ref j] = [j] := rfl
    rw [this]
    simp [hij]
  have e2 : renL [i, j] [D.lst R, .ref i, .ref j] = some [.lst R, .ref 0, .ref 1] := by
    have a1 : renD [i, j] (.lst R) = some (.lst R) := by unfold renD; simp [hR]
    have a2 : renD [i, j] (.ref i) = some (.ref 0) := by unfold renD; simp [List.findIdx?_cons]
    have a3 : renD [i, j] (.ref j) = some (.ref 1) := by
      unfold renD
      have : (i == j) = false := by simp [hij]
      simp [List.findIdx?_cons, this]
    unfold renL
    rw [a1]
    unfold renL
    rw [a2]
    unfold renL
    rw [a3]
    rfl
  unfold callL
  rw [e1, e2]
  simp only [cellsAt, hi, hj]
  simp only [List.all_cons, List.all_nil, f1, f2, Bool.and_true, if_true, hm, frzD_flat fd]
  simp [wb, g1, g2]
section
variable {row : List Int} (hr : row ≠ [])
include hr
theorem name_ex {used : List Str} (hu : used.length ≤ 15) {k : Int} {i j : Nat} {h : Hc} (hij : i ≠ j) (hi : h[i]? = some (.lst [.int k])) (hj : h[j]? = some (.lst (used.map D.str))) (hk : 0 ≤ k) : ∃ w k', Nm w ∧ w ∉ used ∧ 0 ≤ k' ∧
    callL m_law_name [.lst (row.map D.int), .ref i, .ref j] h = .ok (.str w) ((h.set i (.lst [.int k'])).set j (.lst ((used ++ [w]).map D.str))) := by
  obtain ⟨v1, k1, a1, b1, hk1, e1⟩ := take_ex hr (h := [.lst [.int k], .lst (used.map D.str)]) (i := 0) (k := k) (l := 4) rfl hk (by decide)
  simp only [List.set_cons_zero] at e1
  obtain ⟨v2, k2, a2, b2, hk2, e2⟩ : ∃ v2 k2, 0 ≤ v2 ∧ v2 < 8 ∧ 0 ≤ k2 ∧ callL m_law_take [.lst (row.map D.int), .ref 0, .int (if 0 < v1 then 2 else 8)] [.lst [.int k1], .lst (used.map D.str)] = .ok (.int v2) [.lst [.int k2], .lst (used.map D.str)] := by
    obtain ⟨v2, k2, a, b, c, e⟩ := take_ex hr (h := [.lst [.int k1], .lst (used.map D.str)]) (i := 0) (k := k1) (l := if 0 < v1 then 2 else 8) rfl hk1 (by split <;> decide)
    simp only [List.set_cons_zero] at e
    exact ⟨v2, k2, a, by split at b <;> omega, c, e⟩
  obtain ⟨w, k3, L, hk3, e3⟩ := letters_ex hr (many := (1 + v2).toNat) (by omega) (h := [.lst [.int k2], .lst (used.map D.str)]) (i := 0) (k := k2) rfl hk2
  simp only [List.set_cons_zero] at e3
  rw [show (((1 + v2).toNat : Nat) : Int) = 1 + v2 by omega] at e3
  have L8 : LowN 1 8 w := ⟨by have := L.lo; omega, by have := L.hi; omega, L.low⟩
  obtain ⟨t, ht, hg⟩ := att_good used.length w (used ++ resv) (by simp; omega)
  obtain ⟨j', y4, hj', e4⟩ := name_loop (row.map D.int) used hu L8 k3 t 0 40 none (by omega) (by omega) (by rw [Nat.zero_add]; exact hg)
  rw [← upFrom_range] at e4
  have A := att_shape (u := used.length) L8 j'
  have h1 : att used.length w j' ∉ used := fun h => hj' (List.mem_append_left _ h)
  have h2 : att used.length w j' ∉ resv := fun h => hj' (List.mem_append_right _ h)
  refine ⟨att used.length w j', k3, ⟨A.lo, A.hi, A.low, h2⟩, h1, hk3, call_ref2 (h' := []) (by simp) hij hi hj (by simp) (by simp) ?_ (by simp) (by simp) (by simp)⟩
  have e5 := kindOk_list (h := [.lst [.int k3], .lst (used.map D.str)]) (n := 1) rfl
  have e6 := appF_ref (h := [.lst [.int k3], .lst (used.map D.str)]) (n := 1) (xs := used.map D.str) (d := .str (att used.length w j')) rfl (by simp; omega)
  have e7 : (used ++ [att used.length w j']).map D.str = used.map D.str ++ [.str (att used.length w j')] := by simp
  rw [e7]
  have ew : att used.length w 0 = w := rfl
  rw [ew] at e4
  generalize att used.length w j' = AJ at *
  generalize used.map D.str = US at *
  unfold m_law_name
  rw [runB_s]
  by_cases hv : 0 < v1
  · simp only [hv, if_true] at e2
    simp [e1, hv, e2, e3, e4, e5, e6]
  · simp only [hv, if_false] at e2
    simp [e1, hv, e2, e3, e4, e5, e6]
theorem names_loop (x2 : Option D) : ∀ (items : List D) (used : List Str) (x4 : Option D) (k : Int), used.length + items.length ≤ 15 → 0 ≤ k → used.Nodup → (∀ w ∈ used, Nm w) → ∃ (used' : List Str) (y4 : Option D) (k' : Int), 0 ≤ k' ∧ used'.Nodup ∧ (∀ w ∈ used', Nm w) ∧ used'.length = used.length + items.length ∧
    fl (fun _ => true) (.n 4) m_law_names_l1 items [some (.lst (row.map D.int)), some (.ref 0), x2, some (.ref 1), x4] [.lst [.int k], .lst (used.map D.str)] = .nx [some (.lst (row.map D.int)), some (.ref 0), x2, some (.ref 1), y4] [.lst [.int k'], .lst (used'.map D.str)]
  | [], used, x4, k, hl, hk, hn, hN => ⟨used, x4, k, hk, hn, hN, by simp, fl_end rfl⟩
  | d :: r, used, x4, k, hl, hk, hn, hN => by
    obtain ⟨w, k1, N, hw, hk1, e1⟩ := name_ex hr (used := used) (by simp at hl; omega) (h := [.lst [.int k], .lst (used.map D.str)]) (i := 0) (j := 1) (by decide) rfl rfl hk
    simp only [List.set_cons_zero, List.set_cons_succ] at e1
    obtain ⟨used', y4, k', hk', n', N', l', ih⟩ := names_loop x2 r (used ++ [w]) (some d) k1 (by simp at hl ⊢; omega) hk1 (by
      rw [List.nodup_append]
      exact ⟨hn, by simp, fun a ha b hb => by
        have : b = w := by simpa using hb
        intro e; subst e; subst this; exact hw ha⟩) (fun x hx => by
      rcases List.mem_append.mp hx with hx | hx
      · exact hN x hx
      · have : x = w := by simpa using hx
        exact this ▸ N)
    refine ⟨used', y4, k', hk', n', N', by simp at l' ⊢; omega, Eq.trans (fl_n (b := m_law_names_l1) (ds' := [some (.lst (row.map D.int)), some (.ref 0), x2, some (.ref 1), some d]) (h' := [.lst [.int k1], .lst ((used ++ [w]).map D.str)]) ?_) ih⟩
    generalize (used ++ [w]).map D.str = UW at *
    generalize used.map D.str = US at *
    simp [m_law_names_l1, e1]
/-- drawn names -/
theorem names_ex {many : Nat} (hm : many ≤ 15) {k : Int} {i : Nat} {h : Hc} (hi : h[i]? = some (.lst [.int k])) (hk : 0 ≤ k) : ∃ (ns : List Str) (k' : Int), ns.Nodup ∧ (∀ w ∈ ns, Nm w) ∧ ns.length = many ∧ sortS ns = ns ∧ 0 ≤ k' ∧
    callL m_law_names [.lst (row.map D.int), .ref i, .int (many : Int)] h = .ok (.lst (ns.map D.str)) (h.set i (.lst [.int k'])) := by
  obtain ⟨used, y4, k', hk', hn, hN, hl, e⟩ := names_loop hr (some (.int (many : Int))) (upFrom 0 many) [] none k (by rw [upFrom_len]; simpa using hm) hk (by simp) (by simp)
  rw [upFrom_len] at hl
  simp only [List.length_nil, Nat.zero_add] at hl
  have g1 : rgOk (many : Int) = true := rgOk_nat (by omega)
  have e3 := sortX_cell (n := 1) (ws := used) (h := [.lst [.int k'], .lst (used.map D.str)]) rfl (by omega)
  refine ⟨sortS used, k', (isort_perm leS _).nodup_iff.mpr hn, fun w hw => hN w (isort_mem.mp hw), by rw [isort_len]; exact hl, (isort_uniq tot_S (List.Perm.refl _) (isort_pw tot_S _)).symm, hk', call_spot (d0 := .lst ((sortS used).map D.str)) (h' := [.lst [.int k'], .lst (used.map D.str)]) (by simp) (by simp) hi ?_ rfl fun j => frzD_flat (by simp)⟩
  unfold m_law_names
  rw [runB_s]
  simp only [List.map_nil] at e
  generalize (sortS used).map D.str = SU at *
  generalize used.map D.str = US at *
  simp [g1, e, sortF, e3]
end
end Mp
/-! StrG: drawn structures. -/
namespace Mp
open PySem PySem.Spec PyProof.Rows L2
/-- how large a drawn tree is -/
def szB : Nat → Nat → Nat
  | 0, _ => 1
  | 1, _ => 1
  | d + 2, m => 1 + m * szB (d + 1) m
structure TOk (ns : List Str) (d m : Nat) (e : E) : Prop where
  ok : EOk ns e
  dp : dp e ≤ d
  sz : sz e ≤ szB d m
theorem szL_le {n : Nat} : ∀ {es : List E}, (∀ x ∈ es, sz x ≤ n) → szL es ≤ es.length * n
  | [], _ => by simp [szL]
  | x :: r, h => by
    have a := h x (by simp)
    have b := szL_le (es := r) fun y hy => h y (by simp [hy])
    unfold szL
    rw [List.length_cons, Nat.succ_mul]; omega
theorem dpL_le {n : Nat} : ∀ {es : List E}, (∀ x ∈ es, dp x ≤ n) → dpL es ≤ n
  | [], _ => by simp [dpL]
  | x :: r, h => by
    have a := h x (by simp)
    have b := dpL_le (es := r) fun y hy => h y (by simp [hy])
    unfold dpL
    omega
theorem szB_pos (d m : Nat) : 1 ≤ szB d m := by
  match d with
  | 0 => exact Nat.le_refl _
  | 1 => exact Nat.le_refl _
  | d + 2 => unfold szB; omega
theorem TOk.leaf {ns : List Str} {d m : Nat} {e : E} (o : EOk ns e) (hd : Mp.dp e = 1) (hs : Mp.sz e = 1) (h1 : 1 ≤ d) : TOk ns d m e :=
  ⟨o, by omega, by have := szB_pos d m; omega⟩
section
variable {row : List Int} (hr : row ≠ []) {ns : List Str} (hn : ns ≠ [])
include hr hn
theorem tree_loop {n d m m' : Nat} (x0 x2 x5 x6 : Option D) (hx0 : x0 = some (.lst (row.map D.int))) (hx2 : x2 = some (.lst (ns.map D.str)))
    (hm' : (if 2 < (d : Int) + 1 then D.int (m : Int) else D.int 3) = D.int (m' : Int))
    (ih : ∀ (k : Int) (i : Nat) (h : Hc), h[i]? = some (.lst [.int k]) → 0 ≤ k → ∃ e k', TOk ns d m' e ∧ 0 ≤ k' ∧ callL (m_law_tree n) [.lst (row.map D.int), .ref i, .lst (ns.map D.str), .int (d : Int), .int (m' : Int)] h = .ok (eD false e) (h.set i (.lst [.int k']))) :
    ∀ (items : List D) (es : List E) (x8 : Option D) (k : Int), es.length + items.length ≤ 1000 → 0 ≤ k → (∀ x ∈ es, TOk ns d m' x) → ∃ (es' : List E) (y8 : Option D) (k' : Int), 0 ≤ k' ∧ (∀ x ∈ es', TOk ns d m' x) ∧ es'.length = es.length + items.length ∧
      fl (fun _ => true) (.n 8) (m_law_tree_l1 (m_law_tree n)) items [x0, some (.ref 0), x2, some (.int ((d : Int) + 1)), some (.int (m : Int)), x5, x6, some (.ref 1), x8] [.lst [.int k], .lst (es.map (eD false))] =
        .nx [x0, some (.ref 0), x2, some (.int ((d : Int) + 1)), some (.int (m : Int)), x5, x6, some (.ref 1), y8] [.lst [.int k'], .lst (es'.map (eD false))]
  | [], es, x8, k, _, hk, he => ⟨es, x8, k, hk, he, by simp, fl_end rfl⟩
  | it :: r, es, x8, k, hl, hk, he => by
    subst hx0
    subst hx2
    obtain ⟨e, k1, T, hk1, e1⟩ := ih k 0 [.lst [.int k], .lst (es.map (eD false))] rfl hk
    simp only [List.set_cons_zero] at e1
    obtain ⟨es', y8, k', hk', he', hl', e2⟩ := tree_loop (some (.lst (row.map D.int))) (some (.lst (ns.map D.str))) x5 x6 rfl rfl hm' ih r (es ++ [e]) (some it) k1 (by simp at hl ⊢; omega) hk1 (fun x hx => by
      rcases List.mem_append.mp hx with hx | hx
      · exact he x hx
      · have : x = e := by simpa using hx
        exact this ▸ T)
    refine ⟨es', y8, k', hk', he', by simp at hl' ⊢; omega, Eq.trans (fl_n (b := m_law_tree_l1 (m_law_tree n)) (ds' := [some (.lst (row.map D.int)), some (.ref 0), some (.lst (ns.map D.str)), some (.int ((d : Int) + 1)), some (.int (m : Int)), x5, x6, some (.ref 1), some it]) (h' := [.lst [.int k1], .lst ((es ++ [e]).map (eD false))]) ?_) e2⟩
    have k3 := kindOk_list (h := [.lst [.int k], .lst (es.map (eD false))]) (n := 1) rfl
    have a3 := appF_ref (h := [.lst [.int k1], .lst (es.map (eD false))]) (n := 1) (xs := es.map (eD false)) (d := eD false e) rfl (by simp at hl ⊢; omega)
    have em : (es ++ [e]).map (eD false) = es.map (eD false) ++ [eD false e] := by simp
    have hd1 : (d : Int) + 1 - 1 = d := by omega
    rw [em]
    generalize es.map (eD false) = ES at *
    generalize ns.map D.str = NS at *
    by_cases c2 : 2 < (d : Int) + 1
    · simp only [c2, if_true, D.int.injEq] at hm'
      simp [m_law_tree_l1, k3, a3, hd1, c2, hm', e1]
    · simp only [c2, if_false, D.int.injEq] at hm'
      rw [← hm'] at e1
      simp [m_law_tree_l1, k3, a3, hd1, c2, e1]
theorem tree_ex : ∀ (d n m : Nat) (k : Int) (i : Nat) (h : Hc), d + 1 ≤ n → 2 ≤ m → m ≤ 8 → (d ≤ 1 ∨ m ≤ 3) → h[i]? = some (.lst [.int k]) → 0 ≤ k →
    ∃ e k', TOk ns (d + 1) m e ∧ 0 ≤ k' ∧ callL (m_law_tree n) [.lst (row.map D.int), .ref i, .lst (ns.map D.str), .int ((d : Int) + 1), .int (m : Int)] h = .ok (eD false e) (h.set i (.lst [.int k']))
  | d, 0, m, k, i, h, h1, m2, m8, hdm, hi, hk => by omega
  | d, n + 1, m, k, i, h, h1, m2, m8, hdm, hi, hk => by
    have fN : flatL (ns.map D.str) = true := flatL_strs ns
    obtain ⟨v, k1, v0, v1, hk1, e1⟩ := take_ex hr (h := [.lst [.int k]]) (i := 0) (k := k) (l := 10) rfl hk (by decide)
    simp only [List.set_cons_zero] at e1
    -- a leaf
    have leaf : (d = 0 ∨ v ≤ 2) → ∃ e k', TOk ns (d + 1) m e ∧ 0 ≤ k' ∧ callL (m_law_tree (n + 1)) [.lst (row.map D.int), .ref i, .lst (ns.map D.str), .int ((d : Int) + 1), .int (m : Int)] h = .ok (eD false e) (h.set i (.lst [.int k'])) := fun hleaf => by
      have ht : ((d : Int) + 1 ≤ 1 ∨ v ≤ 2) := hleaf.imp (by omega) id
      obtain ⟨u, k2, u0, u1, hk2, e2⟩ := take_ex hr (h := [.lst [.int k1]]) (i := 0) (k := k1) (l := 3) rfl hk1 (by decide)
      obtain ⟨t, k3, t0, t1, hk3, e3⟩ := take_ex hr (h := [.lst [.int k2]]) (i := 0) (k := k2) (l := 2) rfl hk2 (by decide)
      simp only [List.set_cons_zero] at e2 e3
      have pk : ∀ q, 0 ≤ q → ∃ w q', w ∈ ns ∧ 0 ≤ q' ∧ callL m_law_pick [.lst (row.map D.int), .ref 0, .lst (ns.map D.str)] [.lst [.int q]] = .ok (.str w) [.lst [.int q']] := fun q hq => by
        obtain ⟨x, q', hx, hq', e⟩ := pick_ex hr (xs := ns.map D.str) (k := q) (h := [.lst [.int q]]) (i := 0) (fun x hx => by
          obtain ⟨w, _, rfl⟩ := List.mem_map.mp hx
          simp) (by simpa using hn) rfl hq
        obtain ⟨w, hw, rfl⟩ := List.mem_map.mp hx
        simp only [List.set_cons_zero] at e
        exact ⟨w, q', hw, hq', e⟩
      by_cases c0 : v = 0
      · by_cases c1 : u = 0
        · by_cases c2 : t = 0
          · refine ⟨.node .all [], k3, .leaf (EOk_node.mpr ⟨by simp, by simp [CnOk], by simp⟩) (by simp [dp, dpL]) (by simp [sz, szL]) (by omega), hk3, call_spot (d0 := eD false (.node .all [])) (h' := [.lst [.int k3]]) (by simp) (by simp) hi ?_ rfl fun j => frzD_flat (by simp)⟩
            unfold m_law_tree
            rw [runB_s]
            by_cases c3 : (d : Int) + 1 ≤ 1 <;> simp [e1, c3, c0, e2, c1, e3, c2, eD, eDL, sqs]
          · refine ⟨.node .any [], k3, .leaf (EOk_node.mpr ⟨by simp, by simp [CnOk], by simp⟩) (by simp [dp, dpL]) (by simp [sz, szL]) (by omega), hk3, call_spot (d0 := eD false (.node .any [])) (h' := [.lst [.int k3]]) (by simp) (by simp) hi ?_ rfl fun j => frzD_flat (by simp)⟩
            unfold m_law_tree
            rw [runB_s]
            by_cases c3 : (d : Int) + 1 ≤ 1 <;> simp [e1, c3, c0, e2, c1, e3, c2, eD, eDL, sqs]
        · obtain ⟨w, q', hw, hq', e4⟩ := pk k2 hk2
          refine ⟨.part w, q', .leaf (by unfold EOk; exact hw) (by simp [dp]) (by simp [sz]) (by omega), hq', call_spot (d0 := eD false (.part w)) (h' := [.lst [.int q']]) (by simp) (by simp) hi ?_ rfl fun j => frzD_flat (by simp)⟩
          unfold m_law_tree
          rw [runB_s]
          generalize ns.map D.str = NS at *
          by_cases c3 : (d : Int) + 1 ≤ 1 <;> simp [e1, c3, c0, e2, c1, e4, eD, sqs]
      · obtain ⟨w, q', hw, hq', e4⟩ := pk k1 hk1
        refine ⟨.part w, q', .leaf (by unfold EOk; exact hw) (by simp [dp]) (by simp [sz]) (by omega), hq', call_spot (d0 := eD false (.part w)) (h' := [.lst [.int q']]) (by simp) (by simp) hi ?_ rfl fun j => frzD_flat (by simp)⟩
        unfold m_law_tree
        rw [runB_s]
        generalize ns.map D.str = NS at *
        by_cases c3 : (d : Int) + 1 ≤ 1
        · simp [e1, c3, c0, e4, eD, sqs]
        · have c4 : v ≤ 2 := ht.resolve_left c3
          simp [e1, c3, c4, c0, e4, eD, sqs]
    by_cases hl : d = 0 ∨ v ≤ 2
    · exact leaf hl
    · clear leaf
      obtain ⟨d, rfl⟩ : ∃ c, d = c + 1 := ⟨d - 1, by omega⟩
      have nd1 : ¬ (((d + 1 : Nat) : Int) + 1 ≤ 1) := by omega
      have nv : ¬ (v ≤ 2) := fun z => hl (.inr z)
      -- how many
      obtain ⟨u, k2, u0, u1, hk2, e2⟩ := take_ex hr (h := [.lst [.int k1]]) (i := 0) (k := k1) (l := (m : Int) - 1) rfl hk1 (by omega)
      obtain ⟨t, k3, t0, t1, hk3, e3⟩ := take_ex hr (h := [.lst [.int k2]]) (i := 0) (k := k2) (l := (m : Int)) rfl hk2 (by omega)
      simp only [List.set_cons_zero] at e2 e3
      -- the members
      let m' : Nat := if 2 < ((d + 1 : Nat) : Int) + 1 then m else 3
      have hm' : (if 2 < ((d + 1 : Nat) : Int) + 1 then D.int (m : Int) else D.int 3) = D.int (m' : Int) := by
        show _ = D.int ((if 2 < ((d + 1 : Nat) : Int) + 1 then m else 3 : Nat) : Int)
        split <;> rfl
      have m'b : 2 ≤ m' ∧ m' ≤ 8 ∧ (d ≤ 1 ∨ m' ≤ 3) := by
        show 2 ≤ (if 2 < ((d + 1 : Nat) : Int) + 1 then m else 3) ∧ (if 2 < ((d + 1 : Nat) : Int) + 1 then m else 3) ≤ 8 ∧ (d ≤ 1 ∨ (if 2 < ((d + 1 : Nat) : Int) + 1 then m else 3) ≤ 3)
        split <;> omega
      have hsz : szB (d + 1) m' = szB (d + 1) m := by
        cases d with
        | zero => rfl
        | succ d =>
          have : m' = m := by
            show (if 2 < ((d + 1 + 1 : Nat) : Int) + 1 then m else 3) = m
            rw [if_pos (by omega)]
          rw [this]
      generalize m' = M at hm' m'b hsz
      have ih := fun (k : Int) (i : Nat) (h : Hc) hi hk => tree_ex d n M k i h (by omega) m'b.1 m'b.2.1 m'b.2.2 hi hk
      simp only [← Int.natCast_succ] at ih
      -- the end: any number of members
      have fin : ∀ (many : Nat) (q : Int), 1 ≤ many → many ≤ m → 0 ≤ q → ∃ (es : List E) (y8 : Option D) (q' : Int), 0 ≤ q' ∧ (∀ x ∈ es, TOk ns (d + 1) M x) ∧ es.length = many ∧
          fl (fun _ => true) (.n 8) (m_law_tree_l1 (m_law_tree n)) (upFrom 0 many) [some (.lst (row.map D.int)), some (.ref 0), some (.lst (ns.map D.str)), some (.int (((d + 1 : Nat) : Int) + 1)), some (.int (m : Int)), some (.int v), some (.int (many : Int)), some (.ref 1), none] [.lst [.int q], .lst []] =
          .nx [some (.lst (row.map D.int)), some (.ref 0), some (.lst (ns.map D.str)), some (.int (((d + 1 : Nat) : Int) + 1)), some (.int (m : Int)), some (.int v), some (.int (many : Int)), some (.ref 1), y8] [.lst [.int q'], .lst (es.map (eD false))] := fun many q hm1 hm2 hq => by
        obtain ⟨es, y8, q', a, b, c, e⟩ := tree_loop hr hn (n := n) (d := d + 1) (m := m) (m' := M) (some (.lst (row.map D.int))) (some (.lst (ns.map D.str))) (some (.int v)) (some (.int (many : Int))) rfl rfl hm' ih (upFrom 0 many) [] none q (by rw [upFrom_len]; simp; omega) hq (by simp)
        rw [upFrom_len] at c
        exact ⟨es, y8, q', a, b, by simpa using c, e⟩
      have good : ∀ (c : Cn) (es : List E), (∀ x ∈ es, TOk ns (d + 1) M x) → es.length ≤ m → CnOk c es.length → TOk ns (d + 1 + 1) m (.node c es) := fun c es he hl hc => by
        refine ⟨EOk_node.mpr ⟨by omega, hc, fun x hx => (he x hx).ok⟩, ?_, ?_⟩
        · have := dpL_le (n := d + 1) fun x hx => (he x hx).dp
          conv => lhs; unfold dp
          omega
        · have s := szL_le (n := szB (d + 1) M) fun x hx => (he x hx).sz
          rw [hsz] at s
          have : es.length * szB (d + 1) m ≤ m * szB (d + 1) m := Nat.mul_le_mul_right _ hl
          conv => lhs; unfold sz
          conv => rhs; unfold szB
          omega
      by_cases c7 : 7 ≤ v
      · obtain ⟨many, hmany⟩ : ∃ many : Nat, (many : Int) = 1 + t := ⟨(1 + t).toNat, by omega⟩
        obtain ⟨es, y8, q', hq', he, hl', e5⟩ := fin many k3 (by omega) (by omega) hk3
        rw [hmany] at e5
        obtain ⟨s, k5, s0, s1, hk5, e6⟩ := take_ex hr (h := [.lst [.int q'], .lst (es.map (eD false))]) (i := 0) (k := q') (l := 1 + t) rfl hq' (by omega)
        simp only [List.set_cons_zero] at e6
        refine ⟨.node (.some (1 + s)) es, k5, good _ es he (by omega) ⟨by omega, by omega⟩, hk5, call_spot (d0 := eD false (.node (.some (1 + s)) es)) (h' := [.lst [.int k5], .lst (es.map (eD false))]) (by simp) (by simp) hi ?_ rfl fun j => frzD_flat (by simp)⟩
        have g1 : rgOk (1 + t) = true := rgOk_of (by omega) (by omega)
        have um : (1 + t).toNat = many := by omega
        rw [eD_node]
        generalize es.map (eD false) = ES at *
        generalize ns.map D.str = NS at *
        have n4 : ¬ v ≤ 4 := by omega
        have n6 : ¬ v ≤ 6 := by omega
        generalize ((d + 1 : Nat) : Int) = DI at *
        unfold m_law_tree
        rw [runB_s]
        simp [e1, nd1, nv, e2, e3, c7, g1, um, e5, n4, n6, e6, tupleF, cnD, sqs]
      · obtain ⟨many, hmany⟩ : ∃ many : Nat, (many : Int) = 2 + u := ⟨(2 + u).toNat, by omega⟩
        obtain ⟨es, y8, q', hq', he, hl', e5⟩ := fin many k2 (by omega) (by omega) hk2
        rw [hmany] at e5
        have g1 : rgOk (2 + u) = true := rgOk_of (by omega) (by omega)
        have um : (2 + u).toNat = many := by omega
        by_cases c4 : v ≤ 4
        · refine ⟨.node .all es, q', good _ es he (by omega) (by simp [CnOk]; omega), hq', call_spot (d0 := eD false (.node .all es)) (h' := [.lst [.int q'], .lst (es.map (eD false))]) (by simp) (by simp) hi ?_ rfl fun j => frzD_flat (by simp)⟩
          rw [eD_node]
          generalize es.map (eD false) = ES at *
          generalize ns.map D.str = NS at *
          generalize ((d + 1 : Nat) : Int) = DI at *
          unfold m_law_tree
          rw [runB_s]
          simp [e1, nd1, nv, e2, c7, g1, um, e5, c4, tupleF, cnD, sqs]
        · have c6 : v ≤ 6 := by omega
          refine ⟨.node .any es, q', good _ es he (by omega) (by simp [CnOk]; omega), hq', call_spot (d0 := eD false (.node .any es)) (h' := [.lst [.int q'], .lst (es.map (eD false))]) (by simp) (by simp) hi ?_ rfl fun j => frzD_flat (by simp)⟩
          rw [eD_node]
          generalize es.map (eD false) = ES at *
          generalize ns.map D.str = NS at *
          generalize ((d + 1 : Nat) : Int) = DI at *
          unfold m_law_tree
          rw [runB_s]
          simp [e1, nd1, nv, e2, c7, g1, um, e5, c4, c6, tupleF, cnD, sqs]
end
end Mp
/-! StrH: flat structures, drawn structures. -/
namespace Mp
open PySem PySem.Spec PyProof.Rows L2
section
variable {row : List Int} (hr : row ≠ []) {ns : List Str} (hn : ns ≠ [])
include hr hn
/-! ### handed in -/
end
theorem soF_tup {n : Nat} {xs : List D} : soFit (n + 1) (.tup xs) = (decide (xs.length < 1000000) && xs.all (soFit n)) := rfl
theorem soF_str {n : Nat} {x : Str} : soFit (n + 1) (.str x) = true := rfl
theorem soF_int {n : Nat} {x : Int} : soFit (n + 1) (.int x) = true := rfl
theorem lsd_eD : ∀ (n : Nat) (e : E), dp e ≤ n → (∀ ns, EOk ns e → lsFit (n + n + 2) (eD false e) = true ∧ lsdN (n + n + 2) (eD false e) = eD true e ∧ soFit (n + n + 2) (eD false e) = true)
  | 0, e, hd => by have := dp_pos e; omega
  | n + 1, .part w, hd => fun ns o => by
    rw [eD_part, eD_part]
    refine ⟨?_, ?_, ?_⟩
    · simp [sqs, lsFit]
    · simp [sqs, lsdN]
    · rfl
  | n + 1, .node c es, hd => fun ns o => by
    obtain ⟨h8, hc, hx⟩ := EOk_node.mp o
    have ih := fun x hx1 => lsd_eD n x (by have := dp_mem (c := c) (es := es) hx1; omega) ns (hx x hx1)
    have en : n + 1 + (n + 1) + 2 = n + n + 2 + 1 + 1 := by omega
    rw [en, eD_node, eD_node]
    have f1 : lsFit (n + n + 2 + 1) (sqs false (es.map (eD false))) = true := by
      show lsFit (n + n + 2 + 1) (.tup (es.map (eD false))) = true
      unfold lsFit
      rw [Bool.and_eq_true]
      refine ⟨by simp; omega, List.all_eq_true.mpr fun x hx' => ?_⟩
      obtain ⟨y, hy, rfl⟩ := List.mem_map.mp hx'
      exact (ih y hy).1
    have f2 : lsdN (n + n + 2 + 1) (sqs false (es.map (eD false))) = sqs true (es.map (eD true)) := by
      show D.lst ((es.map (eD false)).map (lsdN (n + n + 2))) = D.lst _
      rw [List.map_map]
      congr 1
      exact List.map_congr_left fun y hy => (ih y hy).2.1
    have f3 : soFit (n + n + 2 + 1) (sqs false (es.map (eD false))) = true := by
      show (decide ((es.map (eD false)).length < 1000000) && (es.map (eD false)).all (soFit (n + n + 2))) = true
      rw [Bool.and_eq_true]
      refine ⟨by simp; omega, List.all_eq_true.mpr fun x hx' => ?_⟩
      obtain ⟨y, hy, rfl⟩ := List.mem_map.mp hx'
      exact (ih y hy).2.2
    generalize sqs false (es.map (eD false)) = X at *
    generalize sqs true (es.map (eD true)) = Y at *
    have s1 : ∀ z : Str, lsdN (n + n + 2 + 1) (.str z) = .str z := fun _ => rfl
    have s2 : ∀ z : Int, lsdN (n + n + 2 + 1) (.int z) = .int z := fun _ => rfl
    cases c with
    | all => exact ⟨by simp [cnD, sqs, lsFit, f1], by simp [cnD, sqs, lsdN, f2], by show soFit (n + n + 2 + 1 + 1) (.tup [.str "all", X]) = true; rw [soF_tup]; simp [soF_str, f3]⟩
    | any => exact ⟨by simp [cnD, sqs, lsFit, f1], by simp [cnD, sqs, lsdN, f2], by show soFit (n + n + 2 + 1 + 1) (.tup [.str "any", X]) = true; rw [soF_tup]; simp [soF_str, f3]⟩
    | some k => exact ⟨by simp [cnD, sqs, lsFit, f1], by simp [cnD, sqs, lsdN, f2], by show soFit (n + n + 2 + 1 + 1) (.tup [.str "some", .int k, X]) = true; rw [soF_tup]; simp [soF_str, soF_int, f3]⟩
end Mp
/-! EqFit: == of values with themselves. -/
namespace Mp
open PySem PySem.Spec PyProof.Rows L2
def eqFit : Nat → D → Bool
  | _, .int _ => true
  | _, .bl _ => true
  | _, .non => true
  | _, .str z => PyData.strOk z
  | n + 1, .tup xs => xs.all (eqFit n)
  | n + 1, .lst xs => xs.all (eqFit n)
  | n + 1, .scr xs => xs.all (eqFit n)
  | _, _ => false
end Mp
/-! StrI: structures handed in; equality. -/
namespace Mp
open PySem PySem.Spec PyProof.Rows L2
theorem handed_eD {row : List Int} (hr : row ≠ []) {ns : List Str} {e : E} (O : SOk ns e) {k : Int} {i : Nat} {h : Hc} (hi : h[i]? = some (.lst [.int k])) (hk : 0 ≤ k) : ∃ (b : Bool) (k' : Int), 0 ≤ k' ∧ callL m_law_handed [.lst (row.map D.int), .ref i, eD false e] h = .ok (eD b e) (h.set i (.lst [.int k'])) := by
  obtain ⟨h1, h2, _⟩ := lsd_eD 11 e (by have := O.dp; omega) ns O.ok
  obtain ⟨b, k', hk', e1⟩ := handed_gen hr h1 hi hk
  refine ⟨b, k', hk', ?_⟩
  rw [e1]
  cases b
  · rfl
  · simp only [if_true]
    exact congrArg (R.ok · _) h2
end Mp
/-! BitSpec: tables of structures. -/
namespace Mp
open PySem PySem.Spec PyProof.Rows L2
theorem band_n (a b : Nat) : Builtin.bitAnd (a : Int) (b : Int) = ((a &&& b : Nat) : Int) := by
  rw [bitAnd_pp (Int.natCast_nonneg a) (Int.natCast_nonneg b), Int.toNat_natCast, Int.toNat_natCast]
theorem bor_n (a b : Nat) : Builtin.bitOr (a : Int) (b : Int) = ((a ||| b : Nat) : Int) := by
  rw [bitOr_nn (Int.natCast_nonneg a) (Int.natCast_nonneg b), Int.toNat_natCast, Int.toNat_natCast]
def evN (n : Nat) : Nat := 2 ^ 2 ^ n - 1
def colN (p n : Nat) : Nat := evN n / (2 ^ 2 ^ p + 1) * 2 ^ 2 ^ p
theorem ev_bit {n m : Nat} : (evN n).testBit m = decide (m < 2 ^ n) := by unfold evN; exact Nat.testBit_two_pow_sub_one ..
theorem col_bits : ∀ n, n ≤ 6 → ∀ p, p < n → colN p n < 2 ^ 2 ^ n ∧ ∀ m, m < 2 ^ n → (colN p n).testBit m = m.testBit p := by decide +kernel
theorem ev_lt (n : Nat) : evN n < 2 ^ 2 ^ n := by unfold evN; have := Nat.two_pow_pos (2 ^ n); omega
theorem pow26 {n : Nat} (hn : n ≤ 6) : 2 ^ n ≤ 64 ∧ 2 ^ 2 ^ n ≤ 2 ^ 64 := by
  have h1 : 2 ^ n ≤ 2 ^ 6 := Nat.pow_le_pow_right (by decide) hn
  exact ⟨h1, Nat.pow_le_pow_right (by decide) h1⟩
theorem shl_ok {i j : Nat} (hi : i < 2 ^ 64) (hj : j ≤ 1000000) (h : Hc) : shlF (.int (i : Int)) (.int (j : Int)) h = .ok (.int ((i * 2 ^ j : Nat) : Int)) h := by
  have c : (decide ((0 : Int) ≤ (j : Int)) && decide ((j : Int) ≤ 1000000) && decide ((i : Int).natAbs.log2 < 4096)) = true := by
    simp only [Bool.and_eq_true, decide_eq_true_eq, Int.natAbs_natCast]
    refine ⟨⟨by omega, by omega⟩, ?_⟩
    by_cases h0 : i = 0
    · subst h0; decide
    · exact Nat.lt_of_lt_of_le ((Nat.log2_lt h0).mpr hi) (by decide)
  show (if _ = true then R.ok (D.int ((i : Int) * 2 ^ ((j : Int).toNat))) h else .bad) = _
  rw [if_pos c, Int.toNat_natCast]
  congr 2
theorem everywhere_ok {n : Nat} (hn : n ≤ 6) (h : Hc) : callL m_everywhere [.int (n : Int)] h = .ok (.int (evN n : Nat)) h := by
  obtain ⟨h1, h2⟩ := pow26 hn
  have e1 := fun h => shl_ok (i := 1) (j := n) (by decide) (by omega) h
  have e2 := fun h => shl_ok (i := 1) (j := 2 ^ n) (by decide) (by omega) h
  rw [Nat.one_mul] at e1 e2
  have p := Nat.two_pow_pos (2 ^ n)
  have e3 : ((2 ^ 2 ^ n : Nat) : Int) - 1 = (evN n : Nat) := by unfold evN; omega
  have e1' : ∀ h, shlF (.int 1) (.int (n : Int)) h = .ok (.int ((2 ^ n : Nat) : Int)) h := e1
  have e2' : ∀ h, shlF (.int 1) (.int ((2 ^ n : Nat) : Int)) h = .ok (.int ((2 ^ 2 ^ n : Nat) : Int)) h := e2
  refine call_flat (h' := []) (by simp) ?_ (by simp) h
  unfold m_everywhere
  rw [runB_s]
  generalize shlF = SF at *
  generalize ((2 ^ 2 ^ n : Nat) : Int) = A at *
  generalize ((2 ^ n : Nat) : Int) = B at *
  simp [e1', e2', e3]
theorem column_ok {p n : Nat} (hn : n ≤ 6) (hp : p < n) (h : Hc) : callL m_column [.int (p : Int), .int (n : Int)] h = .ok (.int (colN p n : Nat)) h := by
  obtain ⟨h1, h2⟩ := pow26 hn
  obtain ⟨h3, h4⟩ := pow26 (n := p) (by omega)
  have e1 : ∀ h, shlF (.int 1) (.int (p : Int)) h = .ok (.int ((2 ^ p : Nat) : Int)) h := fun h => by
    have := shl_ok (i := 1) (j := p) (by decide) (by omega) h
    rw [Nat.one_mul] at this; exact this
  have e2 : ∀ h, shlF (.int 1) (.int ((2 ^ p : Nat) : Int)) h = .ok (.int ((2 ^ 2 ^ p : Nat) : Int)) h := fun h => by
    have := shl_ok (i := 1) (j := 2 ^ p) (by decide) (by omega) h
    rw [Nat.one_mul] at this; exact this
  have e3 := fun h => everywhere_ok hn h
  have pp := Nat.two_pow_pos (2 ^ p)
  have dv : divOk (((2 ^ 2 ^ p : Nat) : Int) + 1) = true := by
    have : ((2 ^ 2 ^ p : Nat) : Int) + 1 = ((2 ^ 2 ^ p + 1 : Nat) : Int) := by omega
    rw [this]
    refine divOk_nat (by omega) ?_
    have : (2 : Nat) ^ 65 ≤ 2 ^ 8000 := Nat.pow_le_pow_right (by decide) (by decide)
    have : (2 : Nat) ^ 65 = 2 ^ 64 + 2 ^ 64 := by decide
    have : (1 : Nat) < 2 ^ 64 := by decide
    omega
  have e4 : ((evN n : Nat) : Int).fdiv (((2 ^ 2 ^ p : Nat) : Int) + 1) = ((evN n / (2 ^ 2 ^ p + 1) : Nat) : Int) := by
    rw [Int.fdiv_eq_ediv_of_nonneg _ (by omega), Int.natCast_ediv]
    rfl
  have e5 : ∀ h, shlF (.int ((evN n / (2 ^ 2 ^ p + 1) : Nat) : Int)) (.int ((2 ^ p : Nat) : Int)) h = .ok (.int (colN p n : Nat)) h := fun h =>
    shl_ok (i := evN n / (2 ^ 2 ^ p + 1)) (j := 2 ^ p) (Nat.lt_of_le_of_lt (Nat.div_le_self _ _) (Nat.lt_of_lt_of_le (ev_lt n) h2)) (by omega) h
  refine call_flat (h' := []) (by simp) ?_ (by simp) h
  unfold m_column
  rw [runB_s]
  generalize shlF = SF at *
  generalize ((evN n / (2 ^ 2 ^ p + 1) : Nat) : Int) = Q at *
  generalize ((2 ^ 2 ^ p : Nat) : Int) = A at *
  generalize ((2 ^ p : Nat) : Int) = B at *
  simp [e1, e2, e3, dv, e4, e5]
/-! ### the set of a mask -/
def setOf (L : List Str) (m : Nat) : List Str := match L with
  | [] => []
  | w :: r => if m.testBit 0 then w :: setOf r (m / 2) else setOf r (m / 2)
theorem mem_setOf : ∀ {L : List Str} {m : Nat} {w : Str}, L.Nodup → (w ∈ setOf L m ↔ ∃ k, k < L.length ∧ L[k]? = some w ∧ m.testBit k = true)
  | [], m, w, _ => by simp [setOf]
  | x :: r, m, w, nd => by
    obtain ⟨n1, n2⟩ := List.nodup_cons.mp nd
    have ih := mem_setOf (L := r) (m := m / 2) (w := w) n2
    unfold setOf
    have key : (∃ k, k < (x :: r).length ∧ (x :: r)[k]? = some w ∧ m.testBit k = true) ↔ (x = w ∧ m.testBit 0 = true) ∨ ∃ k, k < r.length ∧ r[k]? = some w ∧ (m / 2).testBit k = true := by
      constructor
      · rintro ⟨k, hk, hw, hb⟩
        cases k with
        | zero => exact .inl ⟨by simpa using hw, hb⟩
        | succ k => exact .inr ⟨k, by simpa using hk, by simpa using hw, by rw [Nat.testBit_div_two]; exact hb⟩
      · rintro (⟨e, hb⟩ | ⟨k, hk, hw, hb⟩)
        · exact ⟨0, by simp, by simp [e], hb⟩
        · exact ⟨k + 1, by simpa using hk, by simpa using hw, by rw [Nat.testBit_div_two] at hb; exact hb⟩
    rw [key, ← ih]
    by_cases hb : m.testBit 0 = true
    · rw [if_pos hb, List.mem_cons]
      exact ⟨fun h => h.elim (fun e => .inl ⟨e.symm, hb⟩) .inr, fun h => h.elim (fun e => .inl e.1.symm) .inr⟩
    · rw [if_neg hb]
      exact ⟨.inr, fun h => h.elim (fun e => absurd e.2 hb) id⟩
/-! ### tables -/
structure Tb (n T : Nat) (f : Nat → Bool) : Prop where
  lt : T < 2 ^ 2 ^ n
  bit : ∀ m, m < 2 ^ n → T.testBit m = f m
theorem Tb.and {n A B : Nat} {f g : Nat → Bool} (a : Tb n A f) (b : Tb n B g) : Tb n (A &&& B) (fun m => f m && g m) :=
  ⟨Nat.and_lt_two_pow _ b.lt, fun m hm => by rw [Nat.testBit_and, a.bit m hm, b.bit m hm]⟩
theorem Tb.or {n A B : Nat} {f g : Nat → Bool} (a : Tb n A f) (b : Tb n B g) : Tb n (A ||| B) (fun m => f m || g m) :=
  ⟨Nat.or_lt_two_pow a.lt b.lt, fun m hm => by rw [Nat.testBit_or, a.bit m hm, b.bit m hm]⟩
theorem Tb.ev (n : Nat) : Tb n (evN n) (fun _ => true) := ⟨ev_lt n, fun m hm => by rw [ev_bit]; simpa using hm⟩
theorem Tb.zero (n : Nat) : Tb n 0 (fun _ => false) := ⟨Nat.two_pow_pos _, fun m _ => Nat.zero_testBit m⟩
theorem Tb.congr {n A : Nat} {f g : Nat → Bool} (a : Tb n A f) (h : ∀ m, m < 2 ^ n → f m = g m) : Tb n A g := ⟨a.lt, fun m hm => by rw [a.bit m hm, h m hm]⟩
/-- how many of the tables have a mask -/
def cntT (fs : List (Nat → Bool)) (m : Nat) : Nat := (fs.filter fun f => f m).length
end Mp
/-! BitSpecB: enough of the tables; the table of a structure. -/
namespace Mp
open PySem PySem.Spec PyProof.Rows L2
@[simp] theorem iRg3_s (as : SA) (ds : Sl) (h : Hc) : iRg3 as ds h = (as ds h).bd rg3F := Eq.trans rfl rfl
theorem rep1 {α : Type} (x : α) : ∀ k : Nat, (List.replicate k [x]).flatten = List.replicate k x
  | 0 => rfl
  | k + 1 => by rw [List.replicate_succ, List.flatten_cons, rep1 x k]; rfl
theorem Tb.uniq {n A B : Nat} {f : Nat → Bool} (a : Tb n A f) (b : Tb n B f) : A = B := by
  refine Nat.eq_of_testBit_eq fun i => ?_
  by_cases hi : i < 2 ^ n
  · rw [a.bit i hi, b.bit i hi]
  · rw [Nat.testBit_lt_two_pow (Nat.lt_of_lt_of_le a.lt (Nat.pow_le_pow_right (by decide) (Nat.le_of_not_lt hi))), Nat.testBit_lt_two_pow (Nat.lt_of_lt_of_le b.lt (Nat.pow_le_pow_right (by decide) (Nat.le_of_not_lt hi)))]
open Classical in
noncomputable def tb (n : Nat) (f : Nat → Bool) : Nat := if h : ∃ T, Tb n T f then h.choose else 0
theorem tb_eq {n A : Nat} {f : Nat → Bool} (a : Tb n A f) : tb n f = A := by
  unfold tb
  rw [dif_pos ⟨A, a⟩]
  exact (Exists.choose_spec (⟨A, a⟩ : ∃ T, Tb n T f)).uniq a
theorem rset {n k : Nat} (hk : k < n) (F : Nat → D) (x : D) : ((List.range' 0 n).map F).set k x = (List.range' 0 n).map fun j => if j = k then x else F j := by
  refine List.ext_getElem (by simp) fun i h1 h2 => ?_
  simp only [List.getElem_set, List.getElem_map, List.getElem_range']
  by_cases h : k = i
  · subst h; simp
  · have : ¬ i = k := fun e => h e.symm
    simp [h, this]
def rchD (R : Nat → Nat) (k : Nat) : List D := (List.range' 0 (k + 1)).map fun j => D.int (R j : Nat)
def rnew (R : Nat → Nat) (T : Nat) (j : Nat) : Nat := if j = 0 then R 0 else R j ||| (R (j - 1) &&& T)
def rmix (R : Nat → Nat) (T i j : Nat) : Nat := if i < j then rnew R T j else R j
theorem rch_ix (R : Nat → Nat) {k j : Nat} (hj : j ≤ k) : ixF (.ref 0) (.int (j : Int)) [C.lst (rchD R k)] = .ok (.int (R j : Nat)) [C.lst (rchD R k)] := by
  rw [ixF_ref _ _ (xs := rchD R k) rfl, atI_nat' (by simp [rchD]; omega)]
  simp [rchD, show j < k + 1 by omega]
theorem enough_l1 (x0 x1 x2 : Option D) (R : Nat → Nat) (T k : Nat) : ∀ (i : Nat) (x5 : Option D), i ≤ k → ∃ y5, fl (fun _ => true) (.n 5) m_enough_l1 ((List.range i).map fun (t : Nat) => D.int ((i : Int) + (t : Int) * (-1))) [x0, x1, x2, some (.ref 0), some (.int (T : Nat)), x5] [.lst (rchD (rmix R T i) k)] =
    .nx [x0, x1, x2, some (.ref 0), some (.int (T : Nat)), y5] [.lst (rchD (rmix R T 0) k)]
  | 0, x5, _ => ⟨x5, fl_end rfl⟩
  | i + 1, x5, hi => by
    obtain ⟨y5, ih⟩ := enough_l1 x0 x1 x2 R T k i (some (.int ((i + 1 : Nat) : Int))) (by omega)
    have em : (List.range (i + 1)).map (fun (t : Nat) => D.int (((i + 1 : Nat) : Int) + (t : Int) * (-1))) = D.int ((i + 1 : Nat) : Int) :: (List.range i).map fun (t : Nat) => D.int ((i : Int) + (t : Int) * (-1)) := by
      rw [List.range_succ_eq_map, List.map_cons, List.map_map]
      refine List.cons_eq_cons.mpr ⟨?_, ?_⟩
      · have : ((i + 1 : Nat) : Int) + ((0 : Nat) : Int) * (-1) = ((i + 1 : Nat) : Int) := by omega
        rw [this]
      · refine List.map_congr_left fun t _ => ?_
        have : ((i + 1 : Nat) : Int) + ((t + 1 : Nat) : Int) * (-1) = (i : Int) + (t : Int) * (-1) := by omega
        simp only [Function.comp, Nat.succ_eq_add_one, this]
    have e1 := rch_ix (rmix R T (i + 1)) (k := k) (j := i + 1) hi
    have e2 := rch_ix (rmix R T (i + 1)) (k := k) (j := i) (by omega)
    have v1 : rmix R T (i + 1) (i + 1) = R (i + 1) := by unfold rmix; rw [if_neg (by omega)]
    have v2 : rmix R T (i + 1) i = R i := by unfold rmix; rw [if_neg (by omega)]
    rw [v1] at e1
    rw [v2] at e2
    have e3 := setF_ok (n := 0) (xs := rchD (rmix R T (i + 1)) k) (h := [.lst (rchD (rmix R T (i + 1)) k)]) (i := ((i + 1 : Nat) : Int)) (x := .int ((R (i + 1) ||| (R i &&& T) : Nat) : Int)) rfl (by omega) (by simp [rchD]; omega)
    have e4 : (rchD (rmix R T (i + 1)) k).set (i + 1) (.int ((R (i + 1) ||| (R i &&& T) : Nat) : Int)) = rchD (rmix R T i) k := by
      unfold rchD
      rw [rset (by omega)]
      refine List.map_congr_left fun j _ => ?_
      by_cases hj : j = i + 1
      · subst hj
        rw [if_pos rfl]
        unfold rmix rnew
        rw [if_pos (by omega), if_neg (by omega), Nat.add_sub_cancel]
      · rw [if_neg hj]
        unfold rmix
        by_cases h2 : i < j
        · rw [if_pos h2, if_pos (by omega)]
        · rw [if_neg h2, if_neg (by omega)]
    rw [Int.toNat_natCast, e4, List.set_cons_zero] at e3
    have b1 := band_n (R i) T
    have b2 := bor_n (R (i + 1)) (R i &&& T)
    have hc : ((i + 1 : Nat) : Int) - 1 = (i : Int) := by omega
    refine ⟨y5, ?_⟩
    rw [em]
    refine Eq.trans (fl_n (b := m_enough_l1) ?_) ih
    generalize rchD (rmix R T (i + 1)) k = RK at *
    generalize rchD (rmix R T i) k = RI at *
    generalize ((i + 1 : Nat) : Int) = I1 at *
    simp [m_enough_l1, e1, hc, e2, b1, b2, e3]
/-- behind some tables -/
structure Rch (n : Nat) (R : Nat → Nat) (c : Nat → Nat) : Prop where
  t : ∀ j, Tb n (R j) (fun m => decide (j ≤ c m))
theorem Rch.next {n T : Nat} {R : Nat → Nat} {c : Nat → Nat} {f : Nat → Bool} (r : Rch n R c) (t : Tb n T f) : Rch n (rnew R T) (fun m => c m + (if f m then 1 else 0)) := ⟨fun j => by
  unfold rnew
  by_cases hj : j = 0
  · rw [if_pos hj]
    subst hj
    exact (r.t 0).congr fun m _ => by simp
  · rw [if_neg hj]
    refine ((r.t j).or ((r.t (j - 1)).and t)).congr fun m _ => ?_
    cases f m
    · simp
    · simp
      by_cases h1 : j ≤ c m <;> by_cases h2 : j ≤ c m + 1 <;> simp [h1, h2] <;> omega⟩
theorem cntT_cons (f : Nat → Bool) (r : List (Nat → Bool)) (m : Nat) : cntT (f :: r) m = (if f m then 1 else 0) + cntT r m := by
  unfold cntT
  by_cases h : f m = true
  · simp [h]; omega
  · simp [h]
theorem enough_l2 (x0 x2 : Option D) {n k : Nat} (hk : k ≤ 1000) : ∀ (fs : List (Nat → Bool)) (R : Nat → Nat) (c : Nat → Nat) (x4 x5 : Option D), Rch n R c → (∀ f ∈ fs, Tb n (tb n f) f) → ∃ R' y4 y5, Rch n R' (fun m => c m + cntT fs m) ∧
    fl (fun _ => true) (.n 4) m_enough_l2 (fs.map fun f => D.int (tb n f : Nat)) [x0, some (.int (k : Int)), x2, some (.ref 0), x4, x5] [.lst (rchD R k)] = .nx [x0, some (.int (k : Int)), x2, some (.ref 0), y4, y5] [.lst (rchD R' k)]
  | [], R, c, x4, x5, r, _ => ⟨R, x4, x5, ⟨fun j => (r.t j).congr fun m _ => decide_eq_decide.mpr (by simp [cntT])⟩, fl_end rfl⟩
  | f :: fs, R, c, x4, x5, r, ht => by
    have tf := ht f (by simp)
    obtain ⟨y5, e1⟩ := enough_l1 x0 (some (.int (k : Int))) x2 R (tb n f) k k x5 (Nat.le_refl _)
    have m0 : rchD (rmix R (tb n f) 0) k = rchD (rnew R (tb n f)) k := by
      unfold rchD
      refine List.map_congr_left fun j _ => ?_
      congr 2
      unfold rmix
      by_cases hj : j = 0
      · subst hj; rw [if_neg (by omega)]; unfold rnew; rw [if_pos rfl]
      · rw [if_pos (by omega)]
    have mk : rchD (rmix R (tb n f) k) k = rchD R k := by
      unfold rchD
      refine List.map_congr_left fun j hj => ?_
      have := List.mem_range'_1.mp hj
      congr 2
      unfold rmix
      rw [if_neg (by omega)]
    rw [m0, mk] at e1
    obtain ⟨R', z4, z5, r', e2⟩ := enough_l2 x0 x2 hk fs (rnew R (tb n f)) _ (some (.int (tb n f : Nat))) y5 (r.next tf) fun g hg => ht g (by simp [hg])
    have e3 : ∀ h, rg3F [.int (k : Int), .int 0, .int (-1)] h = .ok ⟨(List.range k).map fun (t : Nat) => D.int ((k : Int) + (t : Int) * (-1)), fun _ => true⟩ h := fun h => by
      rw [rg3_down (by omega) (by omega) (by omega) (by omega)]
      have : ((k : Int) - 0).toNat = k := by omega
      rw [this]
      rfl
    refine ⟨R', z4, z5, ⟨fun j => (r'.t j).congr fun m _ => by rw [cntT_cons, Nat.add_assoc]⟩, ?_⟩
    rw [List.map_cons]
    refine Eq.trans (fl_n (b := m_enough_l2) ?_) e2
    generalize rchD (rnew R (tb n f)) k = R1 at *
    generalize rchD R k = R0 at *
    generalize ((List.range k).map fun (t : Nat) => D.int ((k : Int) + (t : Int) * (-1))) = IT at *
    simp [m_enough_l2, e3, e1]
theorem enough_ok {n k : Nat} (hk : k ≤ 1000) (fs : List (Nat → Bool)) (ht : ∀ f ∈ fs, Tb n (tb n f) f) (h : Hc) : callL m_enough [.lst (fs.map fun f => D.int (tb n f : Nat)), .int (k : Int), .int (evN n : Nat)] h = .ok (.int (tb n (fun m => decide (k ≤ cntT fs m)) : Nat)) h ∧ Tb n (tb n (fun m => decide (k ≤ cntT fs m))) (fun m => decide (k ≤ cntT fs m)) := by
  have r0 : Rch n (fun j => if j = 0 then evN n else 0) (fun _ => 0) := ⟨fun j => by
    by_cases hj : j = 0
    · subst hj
      rw [if_pos rfl]
      exact (Tb.ev n).congr fun m _ => (decide_eq_true (by simp)).symm
    · rw [if_neg hj]
      exact (Tb.zero n).congr fun m _ => (decide_eq_false (by omega)).symm⟩
  obtain ⟨R', y4, y5, r', e⟩ := enough_l2 (some (.lst (fs.map fun f => D.int (tb n f : Nat)))) (some (.int (evN n : Nat))) hk fs _ _ none none r0 ht
  have tk : Tb n (R' k) (fun m => decide (k ≤ cntT fs m)) := (r'.t k).congr fun m _ => decide_eq_decide.mpr (by simp)
  rw [tb_eq tk]
  refine ⟨?_, tk⟩
  have ei : rchD (fun j => if j = 0 then evN n else 0) k = [.int (evN n : Nat)] ++ repD k [.int 0] := by
    unfold rchD repD
    rw [List.range'_succ, List.map_cons]
    show D.int (evN n : Nat) :: _ = D.int (evN n : Nat) :: _
    congr 1
    rw [rep1]
    refine List.ext_getElem (by simp) fun i h1 h2 => ?_
    simp
  have e2 := rch_ix R' (k := k) (j := k) (Nat.le_refl _)
  have fl1 : flatL (fs.map fun f => D.int (tb n f : Nat)) = true := flatL_map _ (fun f => by simp) fs
  have lr : (repD k [D.int 0]).length = k := by
    have := congrArg List.length ei
    simp [rchD] at this
    omega
  refine call_flat (h' := [.lst (rchD R' k)]) (by simp [fl1]) ?_ (by simp) h
  rw [ei] at e
  unfold m_enough
  rw [runB_s]
  generalize (fs.map fun f => D.int (tb n f : Nat)) = FS at *
  generalize rchD R' k = RK at *
  have hm : ∀ h, mulF (.lst [.int 0]) (.int (k : Int)) h = .ok (.lst (repD k [.int 0])) h := fun h => by
    unfold mulF
    simp [lstD]
    omega
  generalize repD k [D.int 0] = RP at *
  have l2 : ¬ (1000000 < RP.length + 1) := by omega
  have ha : ∀ h, addC (.lst [.int (evN n : Nat)]) (.lst RP) h = .ok (.ref h.length) (h ++ [.lst ([.int (evN n : Nat)] ++ RP)]) := fun h => by
    unfold addC
    simp [lstD]
    omega
  simp at ha e
  simp [hm, ha, e, e2]
end Mp
/-! BitSpecC: the table of a structure. -/
namespace Mp
open PySem PySem.Spec PyProof.Rows L2
theorem lkD_at : ∀ {L : List Str} {ds : List D} {p : Nat} {w : Str}, L.Nodup → L.length = ds.length → L[p]? = some w → lkD (L.map Sum.inr) ds (.inr w) = ds[p]?
  | [], ds, p, w, _, _, h => by simp at h
  | x :: r, [], p, w, _, hl, _ => by simp at hl
  | x :: r, d :: ds, p, w, nd, hl, h => by
    obtain ⟨n1, n2⟩ := List.nodup_cons.mp nd
    rw [List.map_cons]
    unfold lkD
    cases p with
    | zero =>
      have : x = w := by simpa using h
      subst this
      simp
    | succ p =>
      have hw : r[p]? = some w := by simpa using h
      have ne : ¬ x = w := fun e => n1 (e ▸ List.mem_of_getElem? hw)
      rw [if_neg (by simpa using ne), lkD_at n2 (by simpa using hl) hw]
      simp
theorem nodup_ix {L : List Str} (nd : L.Nodup) {i j : Nat} {w : Str} (hi : L[i]? = some w) (hj : L[j]? = some w) : i = j := by
  obtain ⟨h1, e1⟩ := List.getElem?_eq_some_iff.mp hi
  obtain ⟨h2, e2⟩ := List.getElem?_eq_some_iff.mp hj
  have pw := List.pairwise_iff_getElem.mp nd
  rcases Nat.lt_trichotomy i j with h | h | h
  · exact absurd (e1.trans e2.symm) (pw i j h1 h2 h)
  · exact h
  · exact absurd (e2.trans e1.symm) (pw j i h2 h1 h)
def colsD (n : Nat) : List D := (List.range' 0 n).map fun p => D.int (colN p n : Nat)
theorem wk_part {L : List Str} (nd : L.Nodup) {p : Nat} {w : Str} (hp : L[p]? = some w) (m : Nat) : wk (setOf L m) (.part w) = m.testBit p := by
  unfold wk
  rw [Bool.eq_iff_iff, decide_eq_true_iff, mem_setOf nd]
  obtain ⟨hl, e⟩ := List.getElem?_eq_some_iff.mp hp
  constructor
  · rintro ⟨k, hk, hw, hb⟩
    obtain ⟨hk', e'⟩ := List.getElem?_eq_some_iff.mp hw
    have : k = p := nodup_ix nd hw hp
    exact this ▸ hb
  · intro hb
    exact ⟨p, hl, hp, hb⟩
theorem cnt_cntW (L : List Str) (es : List E) (m : Nat) : cntT (es.map fun e m => wk (setOf L m) e) m = cntW (setOf L m) es := by
  induction es with
  | nil => simp [cntT, cntW]
  | cons x r ih =>
    rw [List.map_cons, cntT_cons, ih]
    conv => rhs; unfold cntW
section
variable {L : List Str} (nd : L.Nodup) (hn : L.length ≤ 6)
include nd hn
theorem and_loop (n : Nat) (x0 x1 x2 x3 x6 : Option D) : ∀ (fs : List (Nat → Bool)) (A : Nat) (g : Nat → Bool) (x5 : Option D), Tb L.length A g → (∀ f ∈ fs, Tb L.length (tb L.length f) f) → ∃ A' y5, Tb L.length A' (fun m => g m && fs.all fun f => f m) ∧
    fl (fun _ => true) (.n 5) (m_joined_l1 (m_joined n)) (fs.map fun f => D.int (tb L.length f : Nat)) [x0, x1, x2, x3, some (.int (A : Nat)), x5, x6] [] = .nx [x0, x1, x2, x3, some (.int (A' : Nat)), y5, x6] []
  | [], A, g, x5, t, _ => ⟨A, x5, t.congr fun m _ => by simp, fl_end rfl⟩
  | f :: fs, A, g, x5, t, h => by
    obtain ⟨A', y5, t', e⟩ := and_loop n x0 x1 x2 x3 x6 fs _ _ (some (.int (tb L.length f : Nat))) (t.and (h f (by simp))) fun g hg => h g (by simp [hg])
    have b := band_n A (tb L.length f)
    refine ⟨A', y5, t'.congr fun m _ => by simp [Bool.and_assoc], ?_⟩
    rw [List.map_cons]
    refine Eq.trans (fl_n (b := m_joined_l1 (m_joined n)) ?_) e
    simp [m_joined_l1, b]
theorem or_loop (n : Nat) (x0 x1 x2 x3 x6 : Option D) : ∀ (fs : List (Nat → Bool)) (A : Nat) (g : Nat → Bool) (x5 : Option D), Tb L.length A g → (∀ f ∈ fs, Tb L.length (tb L.length f) f) → ∃ A' y5, Tb L.length A' (fun m => g m || fs.any fun f => f m) ∧
    fl (fun _ => true) (.n 5) (m_joined_l2 (m_joined n)) (fs.map fun f => D.int (tb L.length f : Nat)) [x0, x1, x2, x3, some (.int (A : Nat)), x5, x6] [] = .nx [x0, x1, x2, x3, some (.int (A' : Nat)), y5, x6] []
  | [], A, g, x5, t, _ => ⟨A, x5, t.congr fun m _ => by simp, fl_end rfl⟩
  | f :: fs, A, g, x5, t, h => by
    obtain ⟨A', y5, t', e⟩ := or_loop n x0 x1 x2 x3 x6 fs _ _ (some (.int (tb L.length f : Nat))) (t.or (h f (by simp))) fun g hg => h g (by simp [hg])
    have b := bor_n A (tb L.length f)
    refine ⟨A', y5, t'.congr fun m _ => by simp [Bool.or_assoc], ?_⟩
    rw [List.map_cons]
    refine Eq.trans (fl_n (b := m_joined_l2 (m_joined n)) ?_) e
    simp [m_joined_l2, b]
abbrev wkT (L : List Str) (e : E) : Nat → Bool := fun m => wk (setOf L m) e
theorem joined_ok (b : Bool) : ∀ (n : Nat) (e : E), dp e ≤ n → EOk L e → Tb L.length (tb L.length (wkT L e)) (wkT L e) ∧
    ∀ h, callL (m_joined n) [eD b e, .dct (L.map Sum.inr) (colsD L.length), .int (evN L.length : Nat)] h = .ok (.int (tb L.length (wkT L e) : Nat)) h
  | 0, e, hd, o => by have := dp_pos e; omega
  | n + 1, .part w, hd, o => by
    have hw : w ∈ L := by unfold EOk at o; exact o
    obtain ⟨p, hp, e0⟩ := List.getElem_of_mem hw
    have hp' : L[p]? = some w := List.getElem?_eq_some_iff.mpr ⟨hp, e0⟩
    obtain ⟨c1, c2⟩ := col_bits L.length hn p hp
    have t : Tb L.length (colN p L.length) (wkT L (.part w)) := ⟨c1, fun m hm => by rw [c2 m hm]; exact (wk_part nd hp' m).symm⟩
    rw [tb_eq t]
    refine ⟨t, fun h => ?_⟩
    have fc : flatL (colsD L.length) = true := flatL_map _ (fun _ => by simp) _
    have i0 := fun h => ix_sqs b [.str "part", .str w] 0 h
    have i1 := fun h => ix_sqs b [.str "part", .str w] 1 h
    simp at i0 i1
    have lk : lkD (L.map Sum.inr) (colsD L.length) (.inr w) = some (.int (colN p L.length : Nat)) := by
      rw [lkD_at nd (by simp [colsD]) hp']
      simp [colsD, hp]
    have dg : ∀ h, dgF (.dct (L.map Sum.inr) (colsD L.length)) (.str w) h = .ok (.int (colN p L.length : Nat)) h := fun h => by
      unfold dgF
      simp [dctD, keyD, lk]
    refine call_flat (h' := []) (by simp [flat, fc]) ?_ (by simp) h
    unfold m_joined
    rw [runB_s, eD_part]
    simp [i0, i1, dg]
  | n + 1, .node c es, hd, o => by
    obtain ⟨h8, hc, hx⟩ := EOk_node.mp o
    have ih := fun x hx1 => joined_ok b n x (by have := dp_mem (c := c) (es := es) hx1; omega) (hx x hx1)
    have fc : flatL (colsD L.length) = true := flatL_map _ (fun _ => by simp) _
    have tfs : ∀ f ∈ es.map (wkT L), Tb L.length (tb L.length f) f := fun f hf => by
      obtain ⟨x, hx', rfl⟩ := List.mem_map.mp hf
      exact (ih x hx').1
    have i0 := fun h => ix_cn0 b c (sqs b (es.map (eD b))) h
    have il := fun h => ix_cnl b c (sqs b (es.map (eD b))) h
    have i1 := fun h => ix_cn1 b c (sqs b (es.map (eD b))) h
    have e8 : ∀ h, seqD h (sqs b (es.map (eD b))) = some (es.map (eD b)) := fun h => seqD_sqs b _ h
    have e9 : chkQ (sqs b (es.map (eD b))) (es.map (eD b)) = fun _ => true := chkQ_sqs b _
    have e1 := lcR_mm (chk := fun _ => true) (p := .n 6) (own := [6]) (m := m_joined_c1 (m_joined n)) (ds := [some (cnD b c (sqs b (es.map (eD b)))), some (.dct (L.map Sum.inr) (colsD L.length)), some (.int (evN L.length : Nat)), none, none, none, none]) (h := []) (eD b) (fun x => .int (tb L.length (wkT L x) : Nat)) rfl es (by omega)
      (fun x hx1 => ⟨_, bindP_n .., by simp [m_joined_c1, (ih x hx1).2]⟩)
    have em : (es.map fun x => D.int (tb L.length (wkT L x) : Nat)) = (es.map (wkT L)).map fun f => D.int (tb L.length f : Nat) := by rw [List.map_map]; rfl
    rw [em] at e1
    have hall : ∀ m, ((es.map (wkT L)).all fun f => f m) = decide (cntW (setOf L m) es = es.length) := fun m => by
      rw [List.all_map, cntW_filter]
      rw [Bool.eq_iff_iff, decide_eq_true_iff, List.length_filter_eq_length_iff, List.all_eq_true]
      rfl
    have hany : ∀ m, ((es.map (wkT L)).any fun f => f m) = decide (0 < cntW (setOf L m) es) := fun m => by
      rw [List.any_map, cntW_filter]
      rw [Bool.eq_iff_iff, decide_eq_true_iff, List.length_filter_pos_iff, List.any_eq_true]
      rfl
    -- what comes out
    have fin : ∃ T, Tb L.length T (wkT L (.node c es)) ∧ ∀ h, callL (m_joined (n + 1)) [eD b (.node c es), .dct (L.map Sum.inr) (colsD L.length), .int (evN L.length : Nat)] h = .ok (.int (T : Nat)) h := by
      rw [eD_node]
      have fl0 : flat (cnD b c (sqs b (es.map (eD b)))) = true := by rw [← eD_node]; simp
      generalize hX : sqs b (es.map (eD b)) = XD at *
      cases c with
      | all =>
        obtain ⟨A', y5, t', e3⟩ := and_loop nd hn n (some (cnD b .all XD)) (some (.dct (L.map Sum.inr) (colsD L.length))) (some (.int (evN L.length : Nat))) (some (.lst ((es.map (wkT L)).map fun f => D.int (tb L.length f : Nat)))) none (es.map (wkT L)) _ _ none (Tb.ev L.length) tfs
        refine ⟨A', t'.congr fun m _ => by simp only [Bool.true_and]; rw [hall]; simp [wkT, wk, thr], fun h => call_flat (h' := []) (by simp [fl0, flat, fc]) ?_ (by simp) h⟩
        unfold m_joined
        rw [runB_s]
        generalize ((es.map (wkT L)).map fun f => D.int (tb L.length f : Nat)) = FS at *
        generalize D.dct (L.map Sum.inr) (colsD L.length) = CD at *
        generalize hQ : cnD b .all XD = QD at *
        simp [i0, il, e8, e9, e1, e3]
      | any =>
        obtain ⟨A', y5, t', e3⟩ := or_loop nd hn n (some (cnD b .any XD)) (some (.dct (L.map Sum.inr) (colsD L.length))) (some (.int (evN L.length : Nat))) (some (.lst ((es.map (wkT L)).map fun f => D.int (tb L.length f : Nat)))) none (es.map (wkT L)) _ _ none (Tb.zero L.length) tfs
        refine ⟨A', t'.congr fun m _ => by simp only [Bool.false_or]; rw [hany]; simp [wkT, wk, thr], fun h => call_flat (h' := []) (by simp [fl0, flat, fc]) ?_ (by simp) h⟩
        unfold m_joined
        rw [runB_s]
        generalize ((es.map (wkT L)).map fun f => D.int (tb L.length f : Nat)) = FS at *
        generalize D.dct (L.map Sum.inr) (colsD L.length) = CD at *
        generalize hQ : cnD b .any XD = QD at *
        have e3' : fl (fun _ => true) (.n 5) (m_joined_l2 (m_joined n)) FS [some QD, some CD, some (.int (evN L.length : Nat)), some (.lst FS), some (.int 0), none, none] [] = .nx [some QD, some CD, some (.int (evN L.length : Nat)), some (.lst FS), some (.int (A' : Nat)), y5, none] [] := e3
        simp [i0, il, e8, e9, e1, e3']
      | some k =>
        obtain ⟨k1, k2⟩ := hc
        obtain ⟨kn, rfl⟩ : ∃ kn : Nat, k = (kn : Int) := ⟨k.toNat, by omega⟩
        have e3 := fun h => enough_ok (n := L.length) (k := kn) (by omega) (es.map (wkT L)) tfs h
        refine ⟨_, (e3 []).2.congr fun m _ => ?_, fun h => call_flat (h' := []) (by simp [fl0, flat, fc]) ?_ (by simp) h⟩
        · have := cnt_cntW L es m
          simp only [wkT, wk, thr] at this ⊢
          rw [this]
          simp
        · have e3' := fun h => (e3 h).1
          unfold m_joined
          rw [runB_s]
          generalize ((es.map (wkT L)).map fun f => D.int (tb L.length f : Nat)) = FS at *
          generalize D.dct (L.map Sum.inr) (colsD L.length) = CD at *
          generalize hQ : cnD b (.some (kn : Int)) XD = QD at *
          simp [i0, il, i1, cn1, e8, e9, e1, e3']
    obtain ⟨T, t, e⟩ := fin
    rw [tb_eq t]
    exact ⟨t, e⟩
end
/-! ### columns by name -/
@[simp] theorem eDc_s (mi : SI) (p : Pt) (own : List Nat) (c : SB) (mk mv : SE) (ds : Sl) (h : Hc) : eDc mi p own c mk mv ds h = (mi ds h).bd fun it h1 => (dcR it.chk p own c mk mv ds it.items [] [] h1).bd fun xs h2 => .ok (.dct xs.1 xs.2) h2 := Eq.trans rfl rfl
theorem insD_new {ks : List Key} {ds : List D} {j : Key} {x : D} (h : hasK ks j = false) : insD ks ds j x = (ks ++ [j], ds ++ [x]) := by
  unfold insD; rw [h]; rfl
theorem cols_loop (x0 x1 x3 : Option D) {n : Nat} (hn : n ≤ 6) : ∀ (R : List Str) (i : Nat) (ws : List Str) (acc : List D), (ws ++ R).Nodup → i + R.length = n → ws.length + R.length ≤ 1000 →
    dcR (fun _ => true) (.t ((.n 4) :: ((.n 5) :: []))) [4, 5] (fun _ h => .ok true h) m_table_k1 m_table_v1 [x0, x1, some (.int (n : Int)), x3, none, none] (enumD i (R.map D.str)) (ws.map Sum.inr) acc [] =
      .ok ((ws ++ R).map Sum.inr, acc ++ (List.range' i R.length).map fun p => D.int (colN p n : Nat)) []
  | [], i, ws, acc, nd, hi, hw => by
    unfold dcR
    simp
  | w :: R, i, ws, acc, nd, hi, hw => by
    have hk : hasK (ws.map Sum.inr) (.inr w) = false := by
      rw [hasK_inr]
      refine decide_eq_false fun hm => ?_
      rw [List.nodup_append] at nd
      exact nd.2.2 w hm w (by simp) rfl
    have hi' : i < n := by rw [List.length_cons] at hi; omega
    have e1 := column_ok (p := i) hn hi'
    have ih := cols_loop x0 x1 x3 hn R (i + 1) (ws ++ [w]) (acc ++ [.int (colN i n : Nat)]) (by simpa using nd) (by rw [List.length_cons] at hi; omega) (by rw [List.length_cons] at hw; rw [List.length_append, List.length_singleton]; omega)
    rw [List.map_cons, enumD_cons]
    unfold dcR
    have hl : (ws.map (Sum.inr : Str → Key)).length < lim := by simp; omega
    have em : (ws ++ [w]).map (Sum.inr : Str → Key) = ws.map Sum.inr ++ [.inr w] := by simp
    rw [em] at ih
    have en : (ws ++ w :: R).map (Sum.inr : Str → Key) = (ws ++ [w] ++ R).map Sum.inr := by simp
    rw [en, List.length_cons, List.range'_succ, List.map_cons]
    have ea : acc ++ (D.int (colN i n : Nat)) :: (List.range' (i + 1) R.length).map (fun p => D.int (colN p n : Nat)) = acc ++ [D.int (colN i n : Nat)] ++ (List.range' (i + 1) R.length).map (fun p => D.int (colN p n : Nat)) := by simp
    rw [ea, ← ih]
    simp [m_table_k1, m_table_v1, e1, keyD, insD_new hk]
    omega
theorem enF_sqs (b : Bool) (xs : List D) (h : Hc) : enF [sqs b xs] h = .ok ⟨enumD 0 xs, fun _ => true⟩ h := by cases b <;> simp [sqs]
theorem table_ok (b c : Bool) {L : List Str} (nd : L.Nodup) (hn : L.length ≤ 6) {e : E} (hd : dp e ≤ 24) (o : EOk L e) (h : Hc) : callL m_table [eD b e, sqs c (L.map D.str)] h = .ok (.int (tb L.length (wkT L e) : Nat)) h := by
  have e1 := cols_loop (some (eD b e)) (some (sqs c (L.map D.str))) none hn L 0 [] [] (by simpa using nd) (by simp) (by rw [List.length_nil]; omega)
  have e2 := fun h => (joined_ok nd hn b 24 e hd o).2 h
  have e3 := fun h => everywhere_ok hn h
  have e4 := fun h => enF_sqs c (L.map D.str) h
  have e5 : ∀ h, lenF [sqs c (L.map D.str)] h = .ok (.int (L.length : Int)) h := fun h => by rw [len_sqs]; simp
  refine call_flat (h' := []) (by simp [flat_sqs c]) ?_ (by simp) h
  simp only [List.nil_append, List.map_nil] at e1
  have e1' : (List.range' 0 L.length).map (fun p => D.int (colN p L.length : Nat)) = colsD L.length := rfl
  rw [e1'] at e1
  unfold m_table
  rw [runB_s]
  generalize sqs c (L.map D.str) = ND at *
  generalize colsD L.length = CD at *
  generalize L.map (Sum.inr : Str → Key) = KD at *
  generalize enumD 0 (L.map D.str) = ED at *
  simp [e5, e4, e1, e3, e2]
end Mp
/-! SetSpec: all sets of names; the others. -/
namespace Mp
open PySem PySem.Spec PyProof.Rows L2
def sL (s : List Str) : D := .lst (s.map D.str)
@[simp] theorem flat_sL (s : List Str) : flat (sL s) = true := by simp [sL]
def setsL : List (List Str) → List Str → List (List Str)
  | acc, [] => acc
  | acc, u :: r => setsL (acc ++ acc.map (· ++ [u])) r
theorem setsL_len : ∀ (us : List Str) (acc : List (List Str)), (setsL acc us).length = acc.length * 2 ^ us.length
  | [], acc => by simp [setsL]
  | u :: r, acc => by
    unfold setsL
    rw [setsL_len r]
    simp only [List.length_append, List.length_map, List.length_cons, Nat.pow_succ]
    rw [← Nat.two_mul]; ac_rfl
theorem addF_l {x y : D} {h : Hc} {xs ys : List D} (e1 : lstD h x = some xs) (e2 : lstD h y = some ys) (hl : xs.length + ys.length ≤ 1000000) : addF x y h = .ok (.lst (xs ++ ys)) h := by
  have n1 : ∀ i, x ≠ .int i := by intro i z; subst z; simp [lstD] at e1
  have n2 : ∀ i, x ≠ .str i := by intro i z; subst z; simp [lstD] at e1
  have n3 : ∀ i, x ≠ .tup i := by intro i z; subst z; simp [lstD] at e1
  unfold addF
  split
  · exact absurd rfl (n1 _)
  · exact absurd rfl (n2 _)
  · exact absurd rfl (n3 _)
  · simp only [e1, e2]
    rw [if_pos (by rw [lim_eq]; exact hl)]
theorem sets_loop (x0 : Option D) : ∀ (us : List Str) (M : D) (acc : List (List Str)) (x2 : Option D), lstD [.lst [.lst []]] M = some (acc.map sL) → acc.length * 2 ^ us.length ≤ 1000000 → (∀ s ∈ acc, s.length + us.length ≤ 1000) → ∃ M' y2, (us = [] → M' = M) ∧ (us ≠ [] → M' = .lst ((setsL acc us).map sL)) ∧
    fl (fun _ => true) (.n 2) m_law_sets_l1 (us.map D.str) [x0, some M, x2, none] [.lst [.lst []]] = .nx [x0, some M', y2, none] [.lst [.lst []]]
  | [], M, acc, x2, hM, _, _ => ⟨M, x2, fun _ => rfl, fun h => absurd rfl h, fl_end rfl⟩
  | u :: r, M, acc, x2, hM, hl, hb => by
    have hl2 : (acc ++ acc.map (· ++ [u])).length * 2 ^ r.length ≤ 1000000 := by
      simp only [List.length_append, List.length_map]
      rw [List.length_cons, Nat.pow_succ] at hl
      have : (acc.length + acc.length) * 2 ^ r.length = acc.length * (2 ^ r.length * 2) := by rw [← Nat.two_mul]; ac_rfl
      omega
    have hlen : acc.length + acc.length ≤ 1000000 := by
      have p := Nat.two_pow_pos r.length
      simp only [List.length_append, List.length_map] at hl2
      calc acc.length + acc.length = (acc.length + acc.length) * 1 := by omega
        _ ≤ (acc.length + acc.length) * 2 ^ r.length := Nat.mul_le_mul_left _ p
        _ ≤ _ := hl2
    have hs : ∀ h, h = [C.lst [D.lst []]] → seqD h M = some (acc.map sL) := fun h eh => by
      subst eh
      cases M <;> simp [lstD, seqD] at hM ⊢ <;> exact hM
    have hs' := hs _ rfl
    have hck : chkQ M (acc.map sL) [.lst [.lst []]] = true := chkQ_of hs'
    have e1 := lcR_mm (chk := chkQ M (acc.map sL)) (p := .n 3) (own := [3]) (m := m_law_sets_c1) (ds := [x0, some M, some (.str u), none]) (h := [.lst [.lst []]]) sL (fun s => sL (s ++ [u])) hck acc (by omega)
      (fun s hs' => ⟨_, bindP_n .., by
        have hq := hb s hs'
        have : addF (sL s) (.lst [.str u]) [C.lst [D.lst []]] = .ok (sL (s ++ [u])) [C.lst [D.lst []]] := by
          rw [addF_l (xs := s.map D.str) (ys := [.str u]) rfl rfl (by simp at hq ⊢; omega)]
          simp [sL]
        simp [m_law_sets_c1, this]⟩)
    obtain ⟨M', y2, g1, g2, ih⟩ := sets_loop x0 r (.lst ((acc ++ acc.map (· ++ [u])).map sL)) (acc ++ acc.map (· ++ [u])) (some (.str u)) rfl hl2 (fun s hs => by
      rcases List.mem_append.mp hs with hs | hs
      · have := hb s hs
        simp at this; omega
      · obtain ⟨s', hs', rfl⟩ := List.mem_map.mp hs
        have := hb s' hs'
        simp at this ⊢; omega)
    refine ⟨M', y2, fun h => by simp at h, fun _ => ?_, ?_⟩
    · by_cases hr : r = []
      · subst hr
        rw [g1 rfl]; rfl
      · rw [g2 hr]; rfl
    · rw [List.map_cons]
      refine Eq.trans (fl_n (b := m_law_sets_l1) (ds' := [x0, some (.lst ((acc ++ acc.map (· ++ [u])).map sL)), some (.str u), none]) (h' := [.lst [.lst []]]) ?_) ih
      have e2 : addF M (.lst (acc.map fun s => sL (s ++ [u]))) [.lst [.lst []]] = .ok (.lst ((acc ++ acc.map (· ++ [u])).map sL)) [.lst [.lst []]] := by
        rw [addF_l (xs := acc.map sL) (ys := acc.map fun s => sL (s ++ [u])) hM rfl (by simpa using hlen)]
        simp
      generalize (acc.map fun s => sL (s ++ [u])) = LL at *
      generalize acc.map sL = AL at *
      simp [m_law_sets_l1, hs', e1, e2]
theorem law_sets_ok (b : Bool) {us : List Str} (hu : us.length ≤ 10) (h : Hc) : callL m_law_sets [sqs b (us.map D.str)] h = .ok (.lst ((setsL [[]] us).map sL)) h := by
  have p2 : 2 ^ us.length ≤ 2 ^ 10 := Nat.pow_le_pow_right (by decide) hu
  obtain ⟨M', y2, g1, g2, e⟩ := sets_loop (some (sqs b (us.map D.str))) us (.ref 0) [[]] none rfl (by rw [List.length_singleton]; omega) (fun s hs => by
    have : s = [] := by simpa using hs
    subst this; simp; omega)
  have f : flatL ((setsL [[]] us).map sL) = true := flatL_map _ (fun s => flat_sL s) _
  have e8 : ∀ h, seqD h (sqs b (us.map D.str)) = some (us.map D.str) := fun h => seqD_sqs b _ h
  have e9 : chkQ (sqs b (us.map D.str)) (us.map D.str) = fun _ => true := chkQ_sqs b _
  refine call_pure (d0 := M') (h' := [.lst [.lst []]]) (by rw [flatL_cons, flat_sqs b (flatL_strs us)]; rfl) ?_ ?_ h
  · generalize us.map D.str = US at *
    unfold m_law_sets
    rw [runB_s]
    simp [e8, e9, e]
  · by_cases hr : us = []
    · subst hr
      rw [g1 rfl]
      exact frz_cell (rs := []) (n := 6) (h := [.lst [.lst []]]) (i := 0) (xs := [.lst []]) (Nat.zero_le _) rfl rfl
    · rw [g2 hr]
      exact frzD_flat (by simp [f])
theorem law_others_ok (b : Bool) {ns us : List Str} (hn : ns.length ≤ 1000) {U : D} {h : Hc} (u : UpV us U h) : callL m_law_others [sqs b (ns.map D.str), U] h = .ok (.lst ((ns.filter fun w => decide (w ∉ us)).map D.str)) h := by
  refine call_up (flat_sqs b (by simp)) (by simp) (fun U h u => ?_) u
  have e8 : ∀ h, seqD h (sqs b (ns.map D.str)) = some (ns.map D.str) := fun h => seqD_sqs b _ h
  have e9 : chkQ (sqs b (ns.map D.str)) (ns.map D.str) = fun _ => true := chkQ_sqs b _
  have e1 := lcR_fm (chk := fun _ => true) (p := .n 2) (own := [2]) (c := m_law_others_t1) (m := m_law_others_c1) (ds := [some (sqs b (ns.map D.str)), some U, none]) (h := h) D.str (fun w => decide (w ∉ us)) D.str rfl ns [] (by simp; omega)
    (fun w hw => ⟨_, bindP_n .., by
      have := inG_strs true w u.v.seq
      simp [m_law_others_t1, this], by simp [m_law_others_c1]⟩)
  simp only [List.nil_append] at e1
  unfold m_law_others
  rw [runB_s]
  generalize ((ns.filter fun w => decide (w ∉ us)).map D.str) = FD at *
  generalize hX : sqs b (ns.map D.str) = XD at *
  simp [e8, e9, e1]
end Mp
/-! CasA: the other way round; masks. -/
namespace Mp
open PySem PySem.Spec PyProof.Rows L2
theorem mod_bit (x : Nat) : x % 2 = (x.testBit 0).toNat := by
  rw [Nat.testBit_zero]
  rcases Nat.mod_two_eq_zero_or_one x with p | p <;> simp [p]
theorem xor_id : ∀ (a b : Nat), (a ^^^ b) + 2 * (a &&& b) = a + b := by
  intro a
  induction a using Nat.strongRecOn with
  | ind a ih =>
    intro b
    by_cases ha : a = 0
    · subst ha; simp
    · have h := ih (a / 2) (by omega) (b / 2)
      have x1 : (a ^^^ b) / 2 = a / 2 ^^^ b / 2 := Nat.xor_div_two
      have x2 : (a &&& b) / 2 = a / 2 &&& b / 2 := Nat.and_div_two
      have m1 := mod_bit (a ^^^ b)
      have m2 := mod_bit (a &&& b)
      have m3 := mod_bit a
      have m4 := mod_bit b
      rw [Nat.testBit_xor] at m1
      rw [Nat.testBit_and] at m2
      cases ba : a.testBit 0 <;> cases bb : b.testBit 0 <;> rw [ba, bb] at m1 m2 <;> rw [ba] at m3 <;> rw [bb] at m4 <;>
        simp only [Bool.xor_false, Bool.false_xor, Bool.xor_self, Bool.xor_true, Bool.not_false, Bool.not_true, Bool.and_true, Bool.and_false, Bool.true_and, Bool.false_and, Bool.and_self, Bool.toNat_true, Bool.toNat_false] at m1 m2 m3 m4 <;> omega
theorem bxor_n (a b : Nat) : Builtin.bitXor (a : Int) (b : Int) = ((a ^^^ b : Nat) : Int) := by
  have := xor_id a b
  have e : Builtin.bitXor (a : Int) (b : Int) = Builtin.bitOr (a : Int) (b : Int) - Builtin.bitAnd (a : Int) (b : Int) := rfl
  have e2 := bitOr_and (a : Int) (b : Int)
  rw [e, e2, band_n]
  omega
theorem Tb.not {n A : Nat} {f : Nat → Bool} (a : Tb n A f) : Tb n (A ^^^ evN n) (fun m => !f m) :=
  ⟨Nat.xor_lt_two_pow a.lt (ev_lt n), fun m hm => by rw [Nat.testBit_xor, a.bit m hm, ev_bit, decide_eq_true hm]; simp⟩
/-- masks with and without a name change places -/
def swN (T p n : Nat) : Nat := ((T &&& colN p n) / 2 ^ 2 ^ p) ||| ((T &&& (evN n ^^^ colN p n)) * 2 ^ 2 ^ p)
/-- all names change places -/
def flN : Nat → Nat → Nat
  | 0, m => m
  | k + 1, m => flN k (m ^^^ 2 ^ k)
section
variable {n : Nat} (hn : n ≤ 6)
include hn
end
/-! ### masks of names -/
def maskL (us : List Str) : List Str → Nat → Nat
  | [], _ => 0
  | w :: r, k => (if w ∈ us then 2 ^ k else 0) ||| maskL us r (k + 1)
end Mp
/-! DuaSpec: duals. -/
namespace Mp
open PySem PySem.Spec PyProof.Rows L2
def dC (c : Cn) (n : Nat) : Cn := match c with
  | .all => .any
  | .any => .all
  | .some k => .some ((n : Int) - k + 1)
mutual
def dualE : E → E
  | .part w => .part w
  | .node c es => .node (dC c es.length) (dualL es)
def dualL : List E → List E
  | [] => []
  | e :: r => dualE e :: dualL r
end
end Mp
/-! CasB: what was seen; its universe. -/
namespace Mp
open PySem PySem.Spec PyProof.Rows L2
theorem wk_congr {us os : List Str} {ns : List Str} (ho : ∀ w ∈ ns, (w ∈ us ↔ w ∈ os)) : ∀ (n : Nat) (e : E), dp e ≤ n → EOk ns e → wk us e = wk os e
  | 0, e, hd, _ => by have := dp_pos e; omega
  | n + 1, .part w, hd, o => by
    have hw : w ∈ ns := by unfold EOk at o; exact o
    simp only [wk, ho w hw]
  | n + 1, .node c es, hd, o => by
    obtain ⟨h8, hc, hx⟩ := EOk_node.mp o
    have ih := fun x hx1 => wk_congr ho n x (by have := dp_mem (c := c) (es := es) hx1; omega) (hx x hx1)
    have hcnt : ∀ L : List E, (∀ x ∈ L, wk us x = wk os x) → cntW us L = cntW os L := by
      intro L
      induction L with
      | nil => intro _; rfl
      | cons x r ih2 =>
        intro h
        have a := h x (by simp)
        have b := ih2 fun y hy => h y (by simp [hy])
        simp only [cntW, a, b]
    simp only [wk, hcnt es ih]
theorem EOk.mono {ns ms : List Str} : ∀ (n : Nat) (e : E), dp e ≤ n → EOk ns e → (∀ w ∈ nmL e, w ∈ ms) → EOk ms e
  | 0, e, hd, _, _ => by have := dp_pos e; omega
  | n + 1, .part w, hd, o, hm => by unfold EOk; exact hm w (by simp [nmL])
  | n + 1, .node c es, hd, o, hm => by
    obtain ⟨h8, hc, hx⟩ := EOk_node.mp o
    exact EOk_node.mpr ⟨h8, hc, fun x hx1 => EOk.mono n x (by have := dp_mem (c := c) (es := es) hx1; omega) (hx x hx1) fun w hw => hm w (mem_node.mpr ⟨x, hx1, hw⟩)⟩
/-! ### the universe -/
section
variable {ns : List Str} (hn : ns.length ≤ 10)
include hn
end
/-- the sorted names of many structures -/
def allN {α : Type} (S : List (E × α)) : List Str := sortS (uq (nmLL (S.map (·.1))))
end Mp
/-! CasC: what explains what was seen. -/
namespace Mp
open PySem PySem.Spec PyProof.Rows L2
abbrev Sn := List (E × Bool)
def rwD (b : Bool) (z : E × Bool) : D := sqs b [eD b z.1, .bl z.2]
def snD (b : Bool) (S : Sn) : D := sqs b (S.map (rwD b))
structure NOk (ns : List Str) (S : Sn) : Prop where
  l6 : S.length ≤ 6
  ok : ∀ z ∈ S, SOk ns z.1
  n6 : ns.length ≤ 6
section
variable {ns : List Str}
/-! ### the table of what explains -/
def sawAll (S : Sn) (us : List Str) : Bool := S.all fun z => wk us z.1 == z.2
end
/-! ### one set -/
end Mp
/-! SmlSpec: a drawn comprehension; a small structure. -/
namespace Mp
open PySem PySem.Spec PyProof.Rows L2
section
variable {row : List Int} (hr : row ≠ []) {ns : List Str} (hn : ns ≠ []) (hN : ∀ w ∈ ns, Nm w)
include hr hn hN
end
end Mp
/-! CasD: the law's side of what explains. -/
namespace Mp
open PySem PySem.Spec PyProof.Rows L2
section
variable {ns : List Str}
end
/-! ### drawn -/
section
variable {row : List Int} (hr : row ≠ []) {ns : List Str} (hn : ns ≠ []) (hN : ∀ w ∈ ns, Nm w)
include hr hn hN
end
end Mp
namespace Mp
/-! RatA: rational values and how long their numbers are. -/
def qs (k : Nat) (q : Rat) : Prop := q.num.natAbs < 2 ^ k ∧ q.den < 2 ^ k
theorem qs_le {a b : Nat} {q : Rat} (h : a ≤ b) (x : qs a q) : qs b q :=
  ⟨Nat.lt_of_lt_of_le x.1 (Nat.pow_le_pow_right (by decide) h), Nat.lt_of_lt_of_le x.2 (Nat.pow_le_pow_right (by decide) h)⟩
theorem q_of_div (a : Int) {b : Int} (hb : 0 < b) : ((a : Rat) / (b : Rat)).num = a / (Int.gcd a b : Int) ∧ ((a : Rat) / (b : Rat)).den = b.natAbs / Int.gcd a b := by
  rw [← Rat.divInt_eq_div, Rat.num_divInt, Rat.den_divInt, Int.sign_eq_one_of_pos hb, Int.one_mul, if_neg (by omega), Int.gcd_comm b a]
  exact ⟨rfl, rfl⟩
theorem qs_div {k : Nat} {a b : Int} (hb : b ≠ 0) (sa : a.natAbs < 2 ^ k) (sb : b.natAbs < 2 ^ k) : qs k ((a : Rat) / (b : Rat)) := by
  have go : ∀ {a b : Int}, 0 < b → a.natAbs < 2 ^ k → b.natAbs < 2 ^ k → qs k ((a : Rat) / (b : Rat)) := fun {a b} hb sa sb => by
    obtain ⟨e1, e2⟩ := q_of_div a hb
    refine ⟨?_, ?_⟩
    · rw [e1]; exact Nat.lt_of_le_of_lt (Int.natAbs_ediv_le_natAbs _ _) sa
    · rw [e2]; exact Nat.lt_of_le_of_lt (Nat.div_le_self _ _) sb
  by_cases h : 0 < b
  · exact go h sa sb
  · have e : (a : Rat) / (b : Rat) = ((-a : Int) : Rat) / ((-b : Int) : Rat) := by
      have : (b : Rat) ≠ 0 := by simpa using hb
      rw [Rat.intCast_neg, Rat.intCast_neg]
      grind
    rw [e]
    exact go (by omega) (by omega) (by omega)
theorem q_self (q : Rat) : q = (q.num : Rat) / ((q.den : Int) : Rat) := by
  conv => lhs; rw [← Rat.num_divInt_den q]
  rw [Rat.divInt_eq_div]
theorem den_ne (q : Rat) : ((q.den : Int) : Rat) ≠ 0 := by
  have := q.den_nz
  simpa using this
theorem add_val (p q : Rat) : ((p.num * q.den + q.num * p.den : Int) : Rat) / ((p.den * q.den : Int) : Rat) = p + q := by
  have h1 := den_ne p
  have h2 := den_ne q
  conv => rhs; rw [q_self p, q_self q]
  simp only [Rat.intCast_add, Rat.intCast_mul]
  grind
theorem sub_val (p q : Rat) : ((p.num * q.den - q.num * p.den : Int) : Rat) / ((p.den * q.den : Int) : Rat) = p - q := by
  have h1 := den_ne p
  have h2 := den_ne q
  conv => rhs; rw [q_self p, q_self q]
  simp only [Rat.intCast_sub, Rat.intCast_mul]
  grind
theorem mul_val (p q : Rat) : ((p.num * q.num : Int) : Rat) / ((p.den * q.den : Int) : Rat) = p * q := by
  have h1 := den_ne p
  have h2 := den_ne q
  conv => rhs; rw [q_self p, q_self q]
  simp only [Rat.intCast_mul]
  grind
theorem num_ne {q : Rat} (hq : q ≠ 0) : q.num ≠ 0 := fun z => hq (Rat.num_eq_zero.mp z)
theorem div_val (p q : Rat) (hq : q ≠ 0) : ((p.num * q.den : Int) : Rat) / ((p.den * q.num : Int) : Rat) = p / q := by
  have hn : (q.num : Rat) ≠ 0 := by have := num_ne hq; simpa using this
  have h1 := den_ne p
  have h2 := den_ne q
  conv => rhs; rw [q_self p, q_self q]
  simp only [Rat.intCast_mul]
  grind
theorem dden_ne (p q : Rat) : (p.den * q.den : Int) ≠ 0 := by
  have := Nat.mul_pos p.den_pos q.den_pos
  have : ((p.den * q.den : Nat) : Int) ≠ 0 := by omega
  simpa using this
theorem qs_add {a b : Nat} {p q : Rat} (x : qs a p) (y : qs b q) : qs (a + b + 1) (p + q) := by
  have e : p + q = ((p.num * q.den + q.num * p.den : Int) : Rat) / ((p.den * q.den : Int) : Rat) := by
    have h1 := den_ne p
    have h2 := den_ne q
    conv => lhs; rw [q_self p, q_self q]
    simp only [Rat.intCast_add, Rat.intCast_mul]
    grind
  rw [e]
  have pp := Nat.two_pow_pos
  have m1 : p.num.natAbs * q.den ≤ 2 ^ a * 2 ^ b := Nat.mul_le_mul (Nat.le_of_lt x.1) (Nat.le_of_lt y.2)
  have m2 : q.num.natAbs * p.den < 2 ^ b * 2 ^ a := Nat.mul_lt_mul'' y.1 x.2
  have m3 : p.den * q.den < 2 ^ a * 2 ^ b := Nat.mul_lt_mul'' x.2 y.2
  have e3 : 2 ^ (a + b + 1) = 2 ^ a * 2 ^ b + 2 ^ b * 2 ^ a := by rw [Nat.pow_succ, Nat.pow_add, Nat.mul_comm (2 ^ b)]; omega
  refine qs_div ?_ ?_ ?_
  · have := Nat.mul_pos p.den_pos q.den_pos
    have : ((p.den * q.den : Nat) : Int) ≠ 0 := by omega
    simpa using this
  · rw [e3]
    refine Nat.lt_of_le_of_lt (Int.natAbs_add_le _ _) ?_
    rw [Int.natAbs_mul, Int.natAbs_mul]
    simp only [Int.natAbs_natCast]; omega
  · rw [e3, Int.natAbs_mul]
    simp only [Int.natAbs_natCast]; omega
theorem qs_neg {a : Nat} {p : Rat} (x : qs a p) : qs a (-p) := by
  refine ⟨?_, ?_⟩
  · have := x.1; rw [Rat.neg_num]; omega
  · rw [Rat.neg_den]; exact x.2
theorem qs_sub {a b : Nat} {p q : Rat} (x : qs a p) (y : qs b q) : qs (a + b + 1) (p - q) := by
  rw [Rat.sub_eq_add_neg]; exact qs_add x (qs_neg y)
theorem qs_mul {a b : Nat} {p q : Rat} (x : qs a p) (y : qs b q) : qs (a + b) (p * q) := by
  have e : p * q = ((p.num * q.num : Int) : Rat) / ((p.den * q.den : Int) : Rat) := by
    have h1 := den_ne p
    have h2 := den_ne q
    conv => lhs; rw [q_self p, q_self q]
    simp only [Rat.intCast_mul]
    grind
  rw [e]
  refine qs_div ?_ ?_ ?_
  · have := Nat.mul_pos p.den_pos q.den_pos
    have : ((p.den * q.den : Nat) : Int) ≠ 0 := by omega
    simpa using this
  · rw [Nat.pow_add, Int.natAbs_mul]; exact Nat.mul_lt_mul'' x.1 y.1
  · rw [Nat.pow_add, Int.natAbs_mul]
    simp only [Int.natAbs_natCast]; exact Nat.mul_lt_mul'' x.2 y.2
theorem qs_int {k : Nat} {i : Int} (h : i.natAbs < 2 ^ k) (hk : 1 ≤ k) : qs k (i : Rat) := by
  refine ⟨by simpa using h, ?_⟩
  have : (2 : Nat) ^ 1 ≤ 2 ^ k := Nat.pow_le_pow_right (by decide) hk
  simp; omega
end Mp
/-! RatSpec: fractions as rational values. -/
namespace Mp
open PySem PySem.Spec PyProof.Rows L2
def qD (q : Rat) : D := .tup [.int q.num, .int (q.den : Int)]
def qE (e : Bool) (q : Rat) : D := pq e q.num q.den
@[simp] theorem qE_ff (q : Rat) : qE false q = qD q := rfl
@[simp] theorem flat_qD (q : Rat) : flat (qD q) = true := by simp [qD]
@[simp] theorem flat_qE (e : Bool) (q : Rat) : flat (qE e q) = true := by cases e <;> simp [qE, pq]
theorem rdc_q (a : Int) {b : Int} (hb : b ≠ 0) : rdc a b = qD ((a : Rat) / (b : Rat)) := by
  have g0 : Int.gcd a b ≠ 0 := by
    intro z
    exact hb (Int.gcd_eq_zero_iff.mp z).2
  unfold rdc qD
  by_cases h : 0 < b
  · obtain ⟨e1, e2⟩ := q_of_div a h
    rw [e1, e2]
    have e : sg a b = (Int.gcd a b : Int) := by unfold sg; rw [if_neg (by omega)]
    rw [e, Int.fdiv_eq_ediv_of_nonneg _ (by omega), Int.fdiv_eq_ediv_of_nonneg _ (by omega)]
    congr 3
    rw [Int.natCast_ediv]
    congr 2
    omega
  · have e : (a : Rat) / (b : Rat) = ((-a : Int) : Rat) / ((-b : Int) : Rat) := by
      have : (b : Rat) ≠ 0 := by simpa using hb
      rw [Rat.intCast_neg, Rat.intCast_neg]
      grind
    obtain ⟨e1, e2⟩ := q_of_div (-a) (show 0 < -b by omega)
    rw [e, e1, e2]
    have e : sg a b = -(Int.gcd a b : Int) := by unfold sg; rw [if_pos (by omega)]
    have ea : (-(Int.gcd a b : Int)) ∣ a := Int.neg_dvd.mpr (Int.gcd_dvd_left ..)
    have eb : (-(Int.gcd a b : Int)) ∣ b := Int.neg_dvd.mpr (Int.gcd_dvd_right ..)
    rw [e, Int.fdiv_eq_ediv_of_dvd ea, Int.fdiv_eq_ediv_of_dvd eb]
    have g : Int.gcd (-a) (-b) = Int.gcd a b := by simp
    rw [g]
    congr 3
    · rw [Int.ediv_neg, Int.neg_ediv_of_dvd (Int.gcd_dvd_left ..)]
    · rw [Int.natCast_ediv, Int.ediv_neg]
      have : ((-b).natAbs : Int) = -b := by omega
      rw [this, Int.neg_ediv_of_dvd (Int.gcd_dvd_right ..)]
theorem qD_int (i : Int) : qD (i : Rat) = .tup [.int i, .int 1] := by simp [qD]
section
variable {p q : Rat}
theorem qsm (x : qs 4000 p) : sm 4000 p.num ∧ sm 4000 (p.den : Int) := ⟨x.1, by unfold sm; simpa using x.2⟩
theorem qpos (p : Rat) : (1 : Int) ≤ p.den := by have := p.den_pos; omega
theorem qgcd (p : Rat) : Int.gcd p.num (p.den : Int) = 1 := p.reduced
variable (x : qs 4000 p) (y : qs 4000 q)
include x y
theorem law_add_q (h : Hc) : callL m_law_add [qD p, qD q] h = .ok (qD (p + q)) h := by
  have pd := qpos p
  have qd := qpos q
  have := law_add_ok (qsm x).1 (qsm x).2 (qsm y).1 (qsm y).2 (by omega) (by omega) h
  rw [rdc_q _ (dden_ne p q), add_val] at this
  exact this
theorem law_sub_q (h : Hc) : callL m_law_sub [qD p, qD q] h = .ok (qD (p - q)) h := by
  have pd := qpos p
  have qd := qpos q
  have := law_sub_ok (qsm x).1 (qsm x).2 (qsm y).1 (qsm y).2 (by omega) (by omega) h
  rw [rdc_q _ (dden_ne p q), sub_val] at this
  exact this
theorem law_mul_q (h : Hc) : callL m_law_mul [qD p, qD q] h = .ok (qD (p * q)) h := by
  have pd := qpos p
  have qd := qpos q
  have := law_mul_ok (qsm x).1 (qsm x).2 (qsm y).1 (qsm y).2 (by omega) (by omega) h
  rw [rdc_q _ (dden_ne p q), mul_val] at this
  exact this
theorem law_div_q (hq : q ≠ 0) (h : Hc) : callL m_law_div [qD p, qD q] h = .ok (qD (p / q)) h := by
  have pd := qpos p
  have qd := qpos q
  have := law_div_ok (qsm x).1 (qsm x).2 (qsm y).1 (qsm y).2 (by omega) (num_ne hq) h
  rw [rdc_q _ (Int.mul_ne_zero (by omega) (num_ne hq)), div_val p q hq] at this
  exact this
end
theorem is_fraction_q (e : Bool) (q : Rat) (h : Hc) : callL m_is_fraction [qE e q] h = .ok (.bl true) h := is_fraction_ok e (qpos q) (qgcd q) h
theorem q_ix0 (e : Bool) (q : Rat) (h : Hc) : ixF (qE e q) (.int 0) h = .ok (.int q.num) h := by cases e <;> simp [qE, pq]
theorem q_ix1 (e : Bool) (q : Rat) (h : Hc) : ixF (qE e q) (.int 1) h = .ok (.int q.den) h := by cases e <;> simp [qE, pq]
end Mp
/-! ChaA: sums over all sets. -/
namespace Mp
open PySem PySem.Spec PyProof.Rows L2
/-- the program's sum -/
def foldW : List (Int × Int) → (Nat → Int) → Int
  | [], g => g 0
  | z :: ws, g => foldW ws fun j => z.2 * g (2 * j) + z.1 * g (2 * j + 1)
def sQ : List Rat → (Nat → Rat) → Rat
  | [], g => g 0
  | p :: ps, g => sQ ps fun j => (1 - p) * g (2 * j) + p * g (2 * j + 1)
def wtQ (q : Rat) : Int × Int := (q.num, (q.den : Int) - q.num)
def denP (ps : List Rat) : Int := (ps.map fun q => (q.den : Int)).foldl (· * ·) 1
theorem denP_go : ∀ (ps : List Rat) (a : Int), (ps.map fun q => (q.den : Int)).foldl (· * ·) a = a * denP ps
  | [], a => by simp [denP]
  | q :: r, a => by
    have h1 := denP_go r (a * q.den)
    have h2 := denP_go r (1 * q.den)
    unfold denP
    simp only [List.map_cons, List.foldl_cons]
    rw [h1, h2, Int.one_mul, Int.mul_assoc]
theorem denP_cons (q : Rat) (r : List Rat) : denP (q :: r) = q.den * denP r := by
  conv => lhs; unfold denP
  simp only [List.map_cons, List.foldl_cons]
  rw [denP_go, Int.one_mul]
theorem denP_pos : ∀ ps : List Rat, 0 < denP ps
  | [] => by decide
  | q :: r => by
    rw [denP_cons]
    exact Int.mul_pos (by have := q.den_pos; omega) (denP_pos r)
theorem sQ_mul (c : Rat) : ∀ (ps : List Rat) (g : Nat → Rat), sQ ps (fun m => c * g m) = c * sQ ps g
  | [], g => rfl
  | p :: ps, g => by
    unfold sQ
    rw [← sQ_mul c ps]
    congr 1
    funext j
    grind
theorem fold_sQ : ∀ (ps : List Rat) (g : Nat → Int), ((foldW (ps.map wtQ) g : Int) : Rat) = (denP ps : Rat) * sQ ps fun m => (g m : Rat)
  | [], g => by
    simp only [List.map_nil, foldW, sQ]
    have : ((denP [] : Int) : Rat) = 1 := rfl
    rw [this]; grind
  | p :: ps, g => by
    rw [List.map_cons]
    unfold foldW sQ
    rw [fold_sQ ps, denP_cons]
    have hp := den_ne p
    have e : (fun m => (((wtQ p).2 * g (2 * m) + (wtQ p).1 * g (2 * m + 1) : Int) : Rat)) = fun m => ((p.den : Int) : Rat) * ((1 - p) * (g (2 * m) : Rat) + p * (g (2 * m + 1) : Rat)) := by
      funext m
      have hv : (p.num : Rat) = p * ((p.den : Int) : Rat) := by
        conv => rhs; lhs; rw [q_self p]
        grind
      simp only [wtQ, Rat.intCast_add, Rat.intCast_mul, Rat.intCast_sub]
      rw [hv]
      grind
    rw [e, sQ_mul, Rat.intCast_mul]
    grind
/-! ### as one sum over the masks -/
def prQ : List Rat → Nat → Rat
  | [], _ => 1
  | p :: ps, m => (if m.testBit 0 then p else 1 - p) * prQ ps (m / 2)
def sumR (l : List Rat) : Rat := l.foldr (· + ·) 0
theorem sumR_nil : sumR [] = 0 := rfl
theorem sumR_cons (x : Rat) (r : List Rat) : sumR (x :: r) = x + sumR r := rfl
theorem sumR_app : ∀ l m : List Rat, sumR (l ++ m) = sumR l + sumR m
  | [], m => by simp only [List.nil_append, sumR_nil]; grind
  | x :: r, m => by rw [List.cons_append, sumR_cons, sumR_cons, sumR_app r m]; grind
theorem range_two (n : Nat) : List.range (2 * n) = (List.range n).flatMap fun j => [2 * j, 2 * j + 1] := by
  induction n with
  | zero => rfl
  | succ n ih =>
    rw [show 2 * (n + 1) = 2 * n + 1 + 1 by omega, List.range_succ, List.range_succ, List.range_succ, ih]
    simp
theorem sumR_flat {α : Type} (f : α → List Rat) : ∀ l : List α, sumR (l.flatMap f) = sumR (l.map fun x => sumR (f x))
  | [] => rfl
  | x :: r => by rw [List.flatMap_cons, sumR_app, sumR_flat f r]; rfl
theorem sQ_sum : ∀ (ps : List Rat) (g : Nat → Rat), sQ ps g = sumR ((List.range (2 ^ ps.length)).map fun m => g m * prQ ps m)
  | [], g => by
    simp only [sQ, List.length_nil, Nat.pow_zero, prQ]
    show g 0 = g 0 * 1 + 0
    grind
  | p :: ps, g => by
    unfold sQ
    rw [sQ_sum ps, List.length_cons, Nat.pow_succ, Nat.mul_comm, range_two, List.map_flatMap, sumR_flat]
    congr 1
    refine List.map_congr_left fun j _ => ?_
    have b0 : (2 * j).testBit 0 = false := by simp
    have b1 : (2 * j + 1).testBit 0 = true := by simp
    have d0 : 2 * j / 2 = j := by omega
    have d1 : (2 * j + 1) / 2 = j := by omega
    simp only [List.map_cons, List.map_nil, sumR_cons, sumR_nil, prQ, b0, b1, d0, d1, if_true, Bool.false_eq_true, if_false]
    grind
theorem flatMap_eq {α β : Type} {f g : α → List β} : ∀ {l : List α}, (∀ x ∈ l, f x = g x) → l.flatMap f = l.flatMap g
  | [], _ => rfl
  | x :: r, h => by rw [List.flatMap_cons, List.flatMap_cons, h x (by simp), flatMap_eq fun y hy => h y (by simp [hy])]
theorem setsL_flat : ∀ (L : List Str) (acc : List (List Str)), setsL acc L = (List.range (2 ^ L.length)).flatMap fun m => acc.map (· ++ setOf L m)
  | [], acc => by simp [setsL, setOf]
  | u :: r, acc => by
    unfold setsL
    rw [setsL_flat r, List.length_cons, Nat.pow_succ, Nat.mul_comm, range_two, List.flatMap_assoc]
    refine flatMap_eq fun j _ => ?_
    have b0 : (2 * j).testBit 0 = false := by simp
    have b1 : (2 * j + 1).testBit 0 = true := by simp
    have d0 : 2 * j / 2 = j := by omega
    have d1 : (2 * j + 1) / 2 = j := by omega
    simp only [List.map_append, List.map_map, List.flatMap_cons, List.flatMap_nil, List.append_nil, setOf, b0, b1, d0, d1, if_true, Bool.false_eq_true, if_false]
    congr 1
    refine List.map_congr_left fun s _ => ?_
    simp
theorem setsL_masks (L : List Str) : setsL [[]] L = (List.range (2 ^ L.length)).map (setOf L) := by
  rw [setsL_flat]
  simp only [List.map_cons, List.map_nil, List.nil_append]
  induction List.range (2 ^ L.length) with
  | nil => rfl
  | cons x r ih => rw [List.flatMap_cons, ih]; rfl
end Mp
/-! RnkA: sets by masks, in the order of length and names. -/
namespace Mp
open PySem PySem.Spec PyProof.Rows L2
def rkP (s : List Str) : PyData := .tuple [.int (s.length : Int), .tuple (s.map PyData.str)]
def tS_ (s : List Str) : D := .tup (s.map D.str)
def rkD (s : List Str) : D := .tup [.int (s.length : Int), tS_ s]
/-- sorted by the rank -/
def rkS {α : Type} (K : α → List Str) (l : List α) : List α := l.mergeSort (PySem.W.dataLe false fun x => rkP (K x))
/-! ### named -/
/-! ### the masks that a table has, in order -/
end Mp
/-! RnkB: the masks that explain, by rank; the law's order; what is within. -/
namespace Mp
open PySem PySem.Spec PyProof.Rows L2
/-- the masks of what explains -/
def exF (S : Sn) (L : List Str) (m : Nat) : Bool := sawAll S (setOf L (flN L.length m))
def mkL (S : Sn) (L : List Str) : List Nat := (List.range (2 ^ L.length)).filter (exF S L)
def mkS (S : Sn) (L : List Str) : List Nat := rkS (setOf L) (mkL S L)
def insB (s t : List Str) : Bool := s.all fun w => decide (w ∈ t)
end Mp
/-! RnkC: least masks. -/
namespace Mp
open PySem PySem.Spec PyProof.Rows L2
section
variable {L : List Str} (nd : L.Nodup)
include nd
/-- nothing else of G is within it -/
def minB (G : List Nat) (m : Nat) : Bool := !G.any fun o => decide (o ≠ m) && (o &&& m == o)
def leastL (acc l : List Nat) : List Nat := l.foldl (fun acc m => if acc.any (fun o => o &&& m == o) = true then acc else acc ++ [m]) acc
/-- what the law asks of a set -/
def minS (Gs : List (List Str)) (s : List Str) : Bool := !Gs.any fun o => decide (o.length < s.length) && insB o s
end
end Mp
/-! FamA: families of masks, plain. -/
namespace Mp
open PySem PySem.Spec PyProof.Rows L2
/-- the set m contains a set of F -/
def cov (F : List Nat) (m : Nat) : Bool := F.any fun o => o &&& m == o
structure Fam (n : Nat) (F : List Nat) (f : Nat → Bool) : Prop where
  rise : F.Pairwise (· < ·)
  lt : ∀ o ∈ F, o < 2 ^ n
  anti : ∀ a ∈ F, ∀ b ∈ F, a &&& b = a → a = b
  cv : ∀ m, m < 2 ^ n → cov F m = f m
/-! ### least -/
/-! ### sorted sets -/
def nI (ms : List Nat) : List Int := ms.map fun m : Nat => (m : Int)
def riN (ms : List Nat) : List Nat := (sdF (nI ms)).map Int.toNat
/-! ### one or the other, both -/
def eiN (F G : List Nat) : List Nat := leastL [] (riN (F ++ G))
def prN (F G : List Nat) : List Nat := F.flatMap fun a => G.map fun b => a ||| b
def boN (F G : List Nat) : List Nat := leastL [] (riN (prN F G))
/-! ### at least so many -/
structure Rows (n need k rest : Nat) (R : Nat → List Nat) (c : Nat → Nat) : Prop where
  fam : ∀ j, j ≤ need → (j = 0 ∨ need ≤ j + rest) → Fam n (R j) (fun m => decide (j ≤ c m))
  few : ∀ m, c m ≤ k
/-- one family more; rest: how many come behind it -/
def rowN (need k rest : Nat) (R : Nat → List Nat) (F : List Nat) (j : Nat) : List Nat := if max 1 (need - rest) ≤ j ∧ j ≤ min need (k + 1) then eiN (R j) (boN (R (j - 1)) F) else R j
end Mp
/-! FamB: sets in their order. -/
namespace Mp
open PySem PySem.Spec PyProof.Rows L2
end Mp
/-! FamC: contains_one, least, either, both. -/
namespace Mp
open PySem PySem.Spec PyProof.Rows L2
def iD (F : List Nat) : List D := F.map fun m : Nat => D.int (m : Int)
inductive FC (F : List Nat) : D → Hc → Prop
  | lst : FC F (.lst (iD F)) []
  | ref : FC F (.ref 0) [.lst (iD F)]
inductive FV (F : List Nat) : D → Hc → Prop
  | lst (h : Hc) : FV F (.lst (iD F)) h
  | ref {i : Nat} {h : Hc} (e : h[i]? = some (.lst (iD F))) : FV F (.ref i) h
end Mp
/-! FamD: at_least. -/
namespace Mp
open PySem PySem.Spec PyProof.Rows L2
structure MOk (n : Nat) (F : List Nat) : Prop where
  rise : F.Pairwise (· < ·)
  lt : ∀ o ∈ F, o < 2 ^ n
def fmD (R : Nat → List Nat) (need : Nat) : List D := (List.range' 0 (need + 1)).map fun j => D.lst (iD (R j))
def mixN (R : Nat → List Nat) (F : List Nat) (i i0 j : Nat) : List Nat := if i < j ∧ j ≤ i0 then eiN (R j) (boN (R (j - 1)) F) else R j
section
variable {n : Nat} (hn : n ≤ 8)
include hn
end
end Mp
/-! FamE: path_masks. -/
namespace Mp
open PySem PySem.Spec PyProof.Rows L2
open Classical in
noncomputable def fm (n : Nat) (f : Nat → Bool) : List Nat := if h : ∃ F, Fam n F f then Classical.choose h else []
def pwD (n : Nat) : List D := (List.range' 0 n).map fun p => D.int ((2 ^ p : Nat) : Int)
section
variable {L : List Str} (nd : L.Nodup) (hn : L.length ≤ 8)
include nd hn
end
end Mp
namespace Mp
open PySem PySem.Spec PyProof.Rows L2
/-! ### mirrors: Fmb -/
def m_law_cuts_c1 : SE :=
  (eVar 2)
def m_law_cuts_t1 : SB :=
  (bNot (bTru (eCall (m_law_works 24) (aCons (eVar 0) (aCons (eCall m_law_others (aCons (eVar 1) (aCons (eVar 2) aNil))) aNil)))))
/-- _law_cuts: e 0, names 1, one 2 -/
def m_law_cuts : Fn := runB 3
  (sSeq (sSet 1 (eCall (m_law_parts 24) (aCons (eVar 0) aNil)))
  (sRet (eCall m_law_least (aCons (eLc (iSeq (eCall m_law_sets (aCons (eVar 1) aNil))) (.n 2) [2] m_law_cuts_t1 m_law_cuts_c1) aNil))))
def m_law_paths_c1 : SE :=
  (eVar 2)
def m_law_paths_t1 : SB :=
  (bTru (eCall (m_law_works 24) (aCons (eVar 0) (aCons (eVar 2) aNil))))
/-- _law_paths: e 0, names 1, one 2 -/
def m_law_paths : Fn := runB 3
  (sSeq (sSet 1 (eCall (m_law_parts 24) (aCons (eVar 0) aNil)))
  (sRet (eCall m_law_least (aCons (eLc (iSeq (eCall m_law_sets (aCons (eVar 1) aNil))) (.n 2) [2] m_law_paths_t1 m_law_paths_c1) aNil))))
end Mp
/-! FamF: paths, cuts and what the law lists. -/
namespace Mp
open PySem PySem.Spec PyProof.Rows L2
/-- the sets of a family, in order -/
def psD (L : List Str) (F : List Nat) : D := .tup ((rkS (setOf L) F).map fun m => tS_ (setOf L m))
theorem EOk_pts {ns : List Str} {e : E} (O : SOk ns e) : EOk (pts e) e := EOk.mono (dp e) e (Nat.le_refl _) O.ok fun w hw => mem_pts.mpr hw
section
variable {ns : List Str} (h8 : ns.length ≤ 8) {e : E} (O : SOk ns e)
include h8 O
end
end Mp
/-! FamG: what the law lists. -/
namespace Mp
open PySem PySem.Spec PyProof.Rows L2
section
variable {L : List Str} (nd : L.Nodup) (hn : L.length ≤ 8)
include nd hn
end
section
variable {ns : List Str} (h8 : ns.length ≤ 8) {e : E} (O : SOk ns e)
include h8 O
end
end Mp
/-! FamH: the sets of a family and the sets that work. -/
namespace Mp
open PySem PySem.Spec PyProof.Rows L2
end Mp
/-! FamI: small structures by their exact size; structures made of small ones. -/
namespace Mp
open PySem PySem.Spec PyProof.Rows L2
section
variable {row : List Int} (hr : row ≠ []) {ns : List Str} (hn : ns ≠ []) (hN : ∀ w ∈ ns, Nm w)
include hr hn hN
theorem small13 (hl : ns.length ≤ 10) {k : Int} {i : Nat} {h : Hc} (hi : h[i]? = some (.lst [.int k])) (hk : 0 ≤ k) : ∃ e k', SOk ns e ∧ (sz e ≤ 13 ∧ dp e ≤ 3) ∧ 0 ≤ k' ∧ callL m_law_small [.lst (row.map D.int), .ref i, .lst (ns.map D.str)] h = .ok (eD false e) (h.set i (.lst [.int k'])) := by
  obtain ⟨u, k2, u0, u1, hk2, e3⟩ := take_ex hr (h := [.lst [.int k]]) (i := 0) (k := k) (l := 2) rfl hk (by decide)
  simp only [List.set_cons_zero] at e3
  obtain ⟨d, hd⟩ : ∃ d : Nat, (d : Int) + 1 = 2 + u := ⟨(1 + u).toNat, by omega⟩
  obtain ⟨e, k3, T, hk3, e2⟩ := tree_ex hr hn d 24 3 k2 0 [.lst [.int k2]] (by omega) (by decide) (by decide) (by omega) rfl hk2
  simp only [List.set_cons_zero] at e2
  have hs : szB (d + 1) 3 ≤ 13 := by
    have : d = 1 ∨ d = 2 := by omega
    rcases this with rfl | rfl <;> decide
  have s := T.sz
  have dd := T.dp
  refine ⟨e, k3, ⟨hN, hl, T.ok, by omega, by omega⟩, ⟨by omega, by omega⟩, hk3, call_spot (d0 := eD false e) (h' := [.lst [.int k3]]) (by simp) (by simp) hi ?_ rfl fun j => frzD_flat (by simp)⟩
  rw [hd] at e2
  have e2' : callL (m_law_tree 24) [.lst (row.map D.int), .ref 0, .lst (ns.map D.str), .int (2 + u), .int 3] [.lst [.int k2]] = .ok (eD false e) [.lst [.int k3]] := e2
  unfold m_law_small
  rw [runB_s]
  simp [e3, e2']
end
end Mp
/-! ChaB: the program's chances. -/
namespace Mp
open PySem PySem.Spec PyProof.Rows L2
abbrev Odds := List (Str × Rat)
def oD (b : Bool) (O : Odds) : D := sqs b (O.map fun z => sqs b [.str z.1, qE b z.2])
@[simp] theorem flat_oD (b : Bool) (O : Odds) : flat (oD b O) = true := flat_sqs b (flatL_map _ (fun z => flat_sqs b (by simp)) O)
structure OOk (O : Odds) : Prop where
  nm : ∀ z ∈ O, Nm z.1
  nd : (O.map (·.1)).Nodup
  len : O.length ≤ 20
  pr : ∀ z ∈ O, 0 ≤ z.2.num ∧ z.2.num ≤ z.2.den ∧ z.2.den ≤ 15
def knD (O : Odds) : D := .dct (O.map fun z => Sum.inr z.1) (O.map fun z => qD z.2)
@[simp] theorem flat_knD (O : Odds) : flat (knD O) = true := by
  unfold knD flat
  exact flatL_map _ (fun z => by simp) O
def oddQ : Odds → Str → Rat
  | [], _ => 0
  | z :: r, w => if z.1 = w then z.2 else oddQ r w
theorem odd_mem : ∀ {O : Odds} {w : Str}, w ∈ O.map (·.1) → ∃ z ∈ O, z.1 = w ∧ oddQ O w = z.2
  | z :: r, w, h => by
    unfold oddQ
    by_cases e : z.1 = w
    · rw [if_pos e]; exact ⟨z, by simp, e, rfl⟩
    · rw [if_neg e]
      have : w ∈ r.map (·.1) := by
        rcases List.mem_cons.mp h with h | h
        · exact absurd h.symm e
        · exact h
      obtain ⟨y, hy, e1, e2⟩ := odd_mem this
      exact ⟨y, by simp [hy], e1, e2⟩
theorem lkD_odd : ∀ {O : Odds} {w : Str}, w ∈ O.map (·.1) → lkD (O.map fun z => Sum.inr z.1) (O.map fun z => qD z.2) (.inr w) = some (qD (oddQ O w))
  | z :: r, w, h => by
    rw [List.map_cons, List.map_cons]
    unfold lkD oddQ
    by_cases e : z.1 = w
    · subst e; simp
    · rw [if_neg (by simpa using e), if_neg e]
      have : w ∈ r.map (·.1) := by
        rcases List.mem_cons.mp h with h | h
        · exact absurd h.symm e
        · exact h
      exact lkD_odd this
theorem has_odd {O : Odds} {w : Str} : hasK (O.map fun z => Sum.inr z.1) (.inr w) = decide (w ∈ O.map (·.1)) := by
  have := hasK_inr (O.map (·.1)) w
  rw [List.map_map] at this
  exact this
theorem dg_kn {O : Odds} {w : Str} (h1 : w ∈ O.map (·.1)) (h : Hc) : dgF (knD O) (.str w) h = .ok (qD (oddQ O w)) h := by
  unfold dgF knD
  simp [dctD, keyD, lkD_odd h1]
theorem din_kn (neg : Bool) {O : Odds} {w : Str} (h : Hc) : dinF neg (.str w) (knD O) h = .ok (.bl (if neg then !decide (w ∈ O.map (·.1)) else decide (w ∈ O.map (·.1)))) h := by
  unfold dinF knD
  simp only [dctD, keyD]
  rw [has_odd]
theorem is_chance_q (e : Bool) {q : Rat} (h0 : 0 ≤ q.num) (h1 : q.num ≤ q.den) (h : Hc) : callL m_is_chance [qE e q] h = .ok (.bl true) h := by
  have f := fun h => is_fraction_q e q h
  have i0 := fun h => q_ix0 e q h
  have i1 := fun h => q_ix1 e q h
  refine call_flat (h' := []) (by simp) ?_ (by simp) h
  unfold m_is_chance
  rw [runB_s]
  simp [f, i0, i1, h0, h1]
theorem putF_new {n : Nat} {ks : List Key} {vs : List D} {w : Str} {x : D} {h : Hc} (e : h[n]? = some (.dct ks vs)) (hk : hasK ks (.inr w) = false) (hl : ks.length < 1000000) : putF (.ref n) (.str w) x h = some (h.set n (.dct (ks ++ [.inr w]) (vs ++ [x]))) := by
  show (match h[n]? with
    | some (.dct ks ds) => if ks.length < lim then some (h.set n (.dct (insD ks ds (.inr w) x).1 (insD ks ds (.inr w) x).2)) else none
    | _ => none) = _
  rw [e]
  simp only
  rw [if_pos (by rw [lim_eq]; exact hl), insD_new hk]
theorem dinF_ref (neg : Bool) {n : Nat} {ks : List Key} {vs : List D} {w : Str} {h : Hc} (e : h[n]? = some (.dct ks vs)) : dinF neg (.str w) (.ref n) h = .ok (.bl (if neg then !hasK ks (.inr w) else hasK ks (.inr w))) h := by
  unfold dinF
  simp [dctD, keyD, e]
section
variable (b : Bool)
theorem odds_loop (x0 : Option D) : ∀ (R O : Odds) (x2 : Option D), OOk (O ++ R) → ∃ y2, fl (fun _ => true) (.n 2) m_odds_of_l1 (R.map fun z => sqs b [.str z.1, qE b z.2]) [x0, some (.ref 0), x2] [.dct (O.map fun z => Sum.inr z.1) (O.map fun z => qD z.2)] =
    .nx [x0, some (.ref 0), y2] [.dct ((O ++ R).map fun z => Sum.inr z.1) ((O ++ R).map fun z => qD z.2)]
  | [], O, x2, _ => ⟨x2, by rw [List.append_nil]; exact fl_end rfl⟩
  | z :: R, O, x2, K => by
    have zm : z ∈ O ++ z :: R := by simp
    obtain ⟨p0, p1, p2⟩ := K.pr z zm
    have e0 : O ++ z :: R = (O ++ [z]) ++ R := by simp
    obtain ⟨y2, ih⟩ := odds_loop x0 R (O ++ [z]) (some (sqs b [.str z.1, qE b z.2])) (by rw [← e0]; exact K)
    have nin : z.1 ∉ O.map (·.1) := fun hm => by
      have := K.nd
      rw [List.map_append, List.nodup_append] at this
      exact this.2.2 z.1 hm z.1 (by simp) rfl
    have hk : hasK (O.map fun z => Sum.inr z.1) (.inr z.1) = false := by rw [has_odd]; exact decide_eq_false nin
    have hl : (O.map fun z => (Sum.inr z.1 : Key)).length < 1000000 := by have := K.len; simp at this ⊢; omega
    have r1 : ∀ h, callL m_is_row [sqs b [.str z.1, qE b z.2], .int 2, .int 2] h = .ok (.bl true) h := fun h => by rw [is_row_xs b (by simp)]; simp
    have r2 := fun h => is_name_ok (K.nm z zm) h
    have r3 := fun h => is_chance_q b p0 p1 h
    have i0 := fun h => ix_sqs b [.str z.1, qE b z.2] 0 h
    have i1 := fun h => ix_sqs b [.str z.1, qE b z.2] 1 h
    simp at i0 i1
    have j0 := fun h => q_ix0 b z.2 h
    have j1 := fun h => q_ix1 b z.2 h
    have d1 := dinF_ref false (n := 0) (ks := O.map fun z => Sum.inr z.1) (vs := O.map fun z => qD z.2) (w := z.1) (h := [.dct (O.map fun z => Sum.inr z.1) (O.map fun z => qD z.2)]) rfl
    rw [hk] at d1
    have pt := putF_new (n := 0) (ks := O.map fun z => Sum.inr z.1) (vs := O.map fun z => qD z.2) (w := z.1) (x := .tup [.int z.2.num, .int z.2.den]) (h := [.dct (O.map fun z => Sum.inr z.1) (O.map fun z => qD z.2)]) rfl hk hl
    rw [List.set_cons_zero] at pt
    have ek : (O ++ [z]).map (fun z => (Sum.inr z.1 : Key)) = O.map (fun z => Sum.inr z.1) ++ [.inr z.1] := by simp
    have ev : (O ++ [z]).map (fun z => qD z.2) = O.map (fun z => qD z.2) ++ [.tup [.int z.2.num, .int z.2.den]] := by simp [qD]
    refine ⟨y2, ?_⟩
    rw [e0, List.map_cons]
    refine Eq.trans (fl_n (b := m_odds_of_l1) ?_) ih
    rw [ek, ev]
    generalize (O.map fun z => (Sum.inr z.1 : Key)) = KS at *
    generalize (O.map fun z => qD z.2) = VS at *
    generalize sqs b [.str z.1, qE b z.2] = ZD at *
    generalize qE b z.2 = QD at *
    simp [m_odds_of_l1, r1, r2, r3, i0, i1, j0, j1, d1, pt]
theorem odds_of_ok {O : Odds} (K : OOk O) (h : Hc) : callL m_odds_of [oD b O] h = .ok (knD O) h := by
  obtain ⟨y2, e1⟩ := odds_loop b (some (oD b O)) O [] none (by simpa using K)
  have f1 : flatL (O.map fun z => sqs b [.str z.1, qE b z.2]) = true := flatL_map _ (fun z => flat_sqs b (by simp)) O
  have f2 : flatL (O.map fun z => qD z.2) = true := flatL_map _ (fun z => by simp) O
  have r1 : ∀ h, callL m_is_row [oD b O, .int 0, .int 20] h = .ok (.bl true) h := fun h => by
    have l0 : (0 : Int) ≤ (O.length : Int) := by omega
    have l1 : (O.length : Int) ≤ 20 := by have := K.len; omega
    unfold oD
    rw [is_row_xs b f1]
    simp [l1]
  have e8 : ∀ h, seqD h (oD b O) = some (O.map fun z => sqs b [.str z.1, qE b z.2]) := fun h => seqD_sqs b _ h
  have e9 : chkQ (oD b O) (O.map fun z => sqs b [.str z.1, qE b z.2]) = fun _ => true := chkQ_sqs b _
  have go : ∀ (n : Nat) (rs : List Nat) (h : Hc) (ys : List D), flatL ys = true → frzD.frzL (frzD rs h n) ys = some ys := by
    intro n rs h ys
    induction ys with
    | nil => intro _; rfl
    | cons y ys ih =>
      intro hy
      simp at hy
      unfold frzD.frzL
      rw [frzD_flat hy.1, ih hy.2]
  refine call_pure (d0 := .ref 0) (h' := [.dct (O.map fun z => Sum.inr z.1) (O.map fun z => qD z.2)]) (by simp) ?_ ?_ h
  · unfold m_odds_of
    rw [runB_s]
    simp only [List.map_nil, List.nil_append] at e1
    generalize oD b O = OD at *
    simp [r1, e8, e9, eDct0, e1]
  · unfold frzD
    simp only [flat_ref, Bool.false_eq_true, if_false]
    show (frzD.frzL (frzD [] _ 7) (O.map fun z => qD z.2)).map (D.dct (O.map fun z => Sum.inr z.1)) = _
    rw [go 7 [] _ _ f2]
    rfl
theorem known_ok (c : Bool) {ns : List Str} {e : E} (S : SOk ns e) {O : Odds} (K : OOk O) (h : Hc) : callL m_known_odds [eD b e, oD c O] h = .ok (knD O) h := by
  have e1 := fun h => is_structure_ok b S h
  have e2 := fun h => odds_of_ok c K h
  have nn : isN (knD O) = false := rfl
  refine call_flat (h' := []) (by simp) ?_ (by simp) h
  unfold m_known_odds
  rw [runB_s]
  generalize knD O = KD at *
  simp [e1, e2, nn]
end
section
variable {O : Odds}
theorem lacking_loop (x0 : Option D) : ∀ (L : List Str) (x2 : Option D), (∀ w ∈ L, w ∈ O.map (·.1)) → ∃ y2, fl (fun _ => true) (.n 2) m_first_lacking_l1 (L.map D.str) [x0, some (knD O), x2] [] = .nx [x0, some (knD O), y2] []
  | [], x2, _ => ⟨x2, fl_end rfl⟩
  | w :: r, x2, hl => by
    obtain ⟨y2, ih⟩ := lacking_loop x0 r (some (.str w)) fun v hv => hl v (by simp [hv])
    have d1 := din_kn true (O := O) (w := w) []
    simp only [hl w (by simp), decide_true, Bool.not_true, if_true] at d1
    refine ⟨y2, ?_⟩
    rw [List.map_cons]
    refine Eq.trans (fl_n (b := m_first_lacking_l1) ?_) ih
    generalize knD O = KD at *
    simp [m_first_lacking_l1, d1]
theorem lacking_ok (b : Bool) {L : List Str} (hl : ∀ w ∈ L, w ∈ O.map (·.1)) (h : Hc) : callL m_first_lacking [sqs b (L.map D.str), knD O] h = .ok .non h := by
  obtain ⟨y2, e1⟩ := lacking_loop (some (sqs b (L.map D.str))) L none hl
  have e8 : ∀ h, seqD h (sqs b (L.map D.str)) = some (L.map D.str) := fun h => seqD_sqs b _ h
  have e9 : chkQ (sqs b (L.map D.str)) (L.map D.str) = fun _ => true := chkQ_sqs b _
  refine call_flat (h' := []) (by simp [flat_sqs b]) ?_ (by simp) h
  unfold m_first_lacking
  rw [runB_s]
  generalize sqs b (L.map D.str) = LD at *
  generalize knD O = KD at *
  simp [e8, e9, e1]
theorem look_up_ok (b : Bool) {L : List Str} (hl : ∀ w ∈ L, w ∈ O.map (·.1)) (h : Hc) : callL m_look_up [sqs b (L.map D.str), knD O] h = .ok .non h := by
  have e1 := fun h => lacking_ok b hl h
  refine call_flat (h' := []) (by simp [flat_sqs b]) ?_ (by simp) h
  unfold m_look_up
  rw [runB_s]
  generalize sqs b (L.map D.str) = LD at *
  generalize knD O = KD at *
  simp [e1, isN]
def wD (W : List (Int × Int)) : D := .lst (W.map fun z => .tup [.int z.1, .int z.2])
end
/-! ### bits, folds -/
def rowD (n : Nat) (g : Nat → Int) : D := .lst ((List.range' 0 n).map fun m => .int (g m))
@[simp] theorem flat_rowD (n : Nat) (g : Nat → Int) : flat (rowD n g) = true := by unfold rowD; rw [flat_lst]; exact flatL_map _ (fun _ => by simp) _
def bitI (T m : Nat) : Int := if T.testBit m then 1 else 0
theorem shr_ok (T m : Nat) (h : Hc) : shrF (.int (T : Nat)) (.int (m : Int)) h = .ok (.int ((T / 2 ^ m : Nat) : Int)) h := by
  show (if decide ((0 : Int) ≤ (m : Int)) = true then R.ok (D.int ((T : Int) / 2 ^ ((m : Int).toNat))) h else .bad) = _
  rw [if_pos (by simp), Int.toNat_natCast]
  congr 2
theorem bits_of_ok {T n : Nat} (hn : n ≤ 6) (h : Hc) : callL m_bits_of [.int (T : Nat), .int (n : Int)] h = .ok (rowD (2 ^ n) (bitI T)) h := by
  obtain ⟨h1, h2⟩ := pow26 hn
  have e0 : ∀ h, shlF (.int 1) (.int (n : Int)) h = .ok (.int ((2 ^ n : Nat) : Int)) h := fun h => by
    have := shl_ok (i := 1) (j := n) (by decide) (by omega) h
    rw [Nat.one_mul] at this; exact this
  have g1 : rgOk ((2 ^ n : Nat) : Int) = true := rgOk_nat (by omega)
  have e1 := lcR_two (chk := fun _ => true) (p := .n 2) (own := [2]) (m := m_bits_of_c1) (ds := [some (.int (T : Nat)), some (.int (n : Int)), none]) (h := []) rfl (upFrom 0 (2 ^ n)) ((List.range' 0 (2 ^ n)).map fun m => .int (bitI T m)) [] (by rw [upFrom_len]; simp; omega) (by
    rw [upFrom_range]
    refine All2.map fun m hm => ⟨_, bindP_n .., ?_⟩
    have s1 := fun h => shr_ok T m h
    have s2 := band_n (T / 2 ^ m) 1
    have s3 : (T / 2 ^ m) &&& 1 = if T.testBit m then 1 else 0 := by
      rw [Nat.and_one_is_mod, Nat.testBit_eq_decide_div_mod_eq]
      by_cases h : T / 2 ^ m % 2 = 1
      · rw [if_pos (by simpa using h)]; exact h
      · rw [if_neg (by simpa using h)]; omega
    rw [s3] at s2
    have s4 : ((if T.testBit m then 1 else 0 : Nat) : Int) = bitI T m := by unfold bitI; split <;> rfl
    rw [s4] at s2
    have s2' : Builtin.bitAnd ((T / 2 ^ m : Nat) : Int) 1 = bitI T m := s2
    show m_bits_of_c1 _ _ = _
    unfold m_bits_of_c1
    generalize shrF = SF at *
    generalize ((T / 2 ^ m : Nat) : Int) = TM at *
    simp [s1, s2'])
  simp only [List.nil_append] at e1
  refine call_flat (h' := []) (by simp) ?_ (by simp) h
  have um : ((2 ^ n : Nat) : Int).toNat = 2 ^ n := Int.toNat_natCast _
  unfold m_bits_of rowD
  rw [runB_s]
  generalize shlF = SF at *
  generalize ((List.range' 0 (2 ^ n)).map fun m => D.int (bitI T m)) = RD at *
  generalize hN : ((2 ^ n : Nat) : Int) = N at *
  generalize 2 ^ n = NN at *
  simp [e0, g1, um, e1]
/-- range(0, 2 * n, 2) -/
theorem rg3_two {n : Nat} (hn : n ≤ 1000) (h : Hc) : rg3F [.int 0, .int ((2 * n : Nat) : Int), .int 2] h = .ok ⟨(List.range' 0 n).map fun j => D.int ((2 * j : Nat) : Int), fun _ => true⟩ h := by
  have e1 : Builtin.Range.rangeSize 0 ((2 * n : Nat) : Int) 2 = n := by
    unfold Builtin.Range.rangeSize
    rw [if_pos (by decide)]
    by_cases h : n = 0
    · subst h; decide
    · rw [if_pos (by omega)]; omega
  have e2 : Builtin.Range.small 0 ((2 * n : Nat) : Int) 2 = true := by
    unfold Builtin.Range.small
    rw [e1]
    have f : ∀ i : Int, 0 ≤ i → i ≤ 10000 → Builtin.Range.rangeFitsLong i = true := fun i a b => by
      unfold Builtin.Range.rangeFitsLong
      have p : (2 : Int) ^ 63 = 9223372036854775808 := by decide
      rw [p]
      simp
      omega
    rw [f 0 (by omega) (by omega), f _ (by omega) (by omega), f 2 (by omega) (by omega), f (n : Int) (by omega) (by omega), if_pos (by decide), f _ (by omega) (by omega)]
    simp
  unfold rg3F
  simp only
  rw [e1, if_pos ⟨by decide, by decide, e2, by omega⟩]
  have hs : stepD 0 2 ((n : Int).toNat) = (List.range' 0 n).map fun j => D.int ((2 * j : Nat) : Int) := by
    unfold stepD
    rw [Int.toNat_natCast, List.range_eq_range']
    refine List.map_congr_left fun j _ => ?_
    have e : (0 : Int) + (j : Int) * 2 = ((2 * j : Nat) : Int) := by omega
    rw [e]
  rw [hs]
theorem row_ix {n : Nat} (g : Nat → Int) {j : Nat} (hj : j < n) (h : Hc) : ixF (rowD n g) (.int (j : Int)) h = .ok (.int (g j)) h := by
  unfold rowD
  rw [ixF_lst, atI_nat' (by simpa using hj)]
  simp [hj]
end Mp
/-! ChaC: the program's chance; the law's sum. -/
namespace Mp
open PySem PySem.Spec PyProof.Rows L2
/-- the chance -/
def chQ (O : Odds) (L : List Str) (f : Nat → Bool) : Rat := sQ (L.map (oddQ O)) fun m => if f m then 1 else 0
theorem sQ_ext : ∀ (ps : List Rat) (g k : Nat → Rat), (∀ m, m < 2 ^ ps.length → g m = k m) → sQ ps g = sQ ps k
  | [], g, k, h => h 0 (by simp)
  | p :: ps, g, k, h => by
    unfold sQ
    refine sQ_ext ps _ _ fun j hj => ?_
    rw [List.length_cons, Nat.pow_succ] at h
    rw [h (2 * j) (by omega), h (2 * j + 1) (by omega)]
section
variable {O : Odds} (K : OOk O)
include K
theorem odd_b {w : Str} (hw : w ∈ O.map (·.1)) : 0 ≤ (oddQ O w).num ∧ (oddQ O w).num ≤ (oddQ O w).den ∧ (oddQ O w).den ≤ 15 := by
  obtain ⟨z, hz, _, e⟩ := odd_mem hw
  rw [e]
  exact K.pr z hz
theorem wt_b {L : List Str} (hl : ∀ w ∈ L, w ∈ O.map (·.1)) : (∀ z ∈ L.map (fun w => wtQ (oddQ O w)), z.1.natAbs ≤ 100000 ∧ z.2.natAbs ≤ 100000) ∧ (∀ z ∈ L.map (fun w => wtQ (oddQ O w)), (z.1 + z.2).natAbs ≤ 100000000) := by
  refine ⟨fun z hz => ?_, fun z hz => ?_⟩ <;>
  · obtain ⟨w, hw, rfl⟩ := List.mem_map.mp hz
    obtain ⟨a, b, c⟩ := odd_b K (hl w hw)
    simp only [wtQ]
    omega
theorem den_b : ∀ {L : List Str}, (∀ w ∈ L, w ∈ O.map (·.1)) → L.length ≤ 20 → denP (L.map (oddQ O)) ≤ 16 ^ L.length
  | [], _, _ => by show denP [] ≤ 16 ^ 0; decide
  | w :: r, hl, hn => by
    have ih := den_b (L := r) (fun v hv => hl v (by simp [hv])) (by simp at hn; omega)
    obtain ⟨_, _, c⟩ := odd_b K (hl w (by simp))
    rw [List.map_cons, denP_cons, List.length_cons, Int.pow_succ, Int.mul_comm]
    have p := denP_pos (r.map (oddQ O))
    exact Int.mul_le_mul ih (by omega) (by omega) (Int.le_of_lt (Int.pow_pos (by decide)))
/-- weighed over below -/
theorem weigh_chQ {L : List Str} {T : Nat} {f : Nat → Bool} (t : Tb L.length T f) : ((foldW (L.map fun w => wtQ (oddQ O w)) (bitI T) : Int) : Rat) / ((denP (L.map (oddQ O)) : Int) : Rat) = chQ O L f := by
  have e1 := fold_sQ (L.map (oddQ O)) (bitI T)
  rw [List.map_map] at e1
  have e2 : (L.map fun w => wtQ (oddQ O w)) = L.map (wtQ ∘ oddQ O) := rfl
  rw [e2, e1]
  have hp := denP_pos (L.map (oddQ O))
  have hp' : ((denP (L.map (oddQ O)) : Int) : Rat) ≠ 0 := by
    have : denP (L.map (oddQ O)) ≠ 0 := by omega
    simpa using this
  unfold chQ
  have e3 : sQ (L.map (oddQ O)) (fun m => ((bitI T m : Int) : Rat)) = sQ (L.map (oddQ O)) (fun m => if f m then 1 else 0) := sQ_ext _ _ _ fun m hm => by
    rw [List.length_map] at hm
    unfold bitI
    rw [t.bit m hm]
    split <;> rfl
  rw [e3]
  grind
end
/-! ### the law's prior -/
def facQ (O : Odds) (bs : List Str) (w : Str) : Rat := if w ∈ bs then 1 - oddQ O w else oddQ O w
def prior (O : Odds) (bs : List Str) : List Str → Rat → Rat
  | [], a => a
  | w :: r, a => prior O bs r (a * facQ O bs w)
section
variable {O : Odds} (K : OOk O) {L bs : List Str}
include K
theorem qs_odd {z : Str × Rat} (hz : z ∈ O) : qs 4 z.2 ∧ qs 6 (1 - z.2) := by
  obtain ⟨a, b, c⟩ := K.pr z hz
  have q1 : qs 4 z.2 := ⟨by have : (2 : Nat) ^ 4 = 16 := by decide
                            omega, by have : (2 : Nat) ^ 4 = 16 := by decide
                                      omega⟩
  exact ⟨q1, qs_sub (qs_int (i := 1) (k := 1) (by decide) (by decide)) q1⟩
theorem qs_fac {w : Str} (hw : w ∈ O.map (·.1)) : qs 6 (facQ O bs w) := by
  obtain ⟨z, hz, _, e⟩ := odd_mem hw
  unfold facQ
  rw [e]
  split
  · exact (qs_odd K hz).2
  · exact qs_le (by decide) (qs_odd K hz).1
theorem prior_l1 (x0 : Option D) {U : D} (hU : ∀ h, seqD h U = some (bs.map D.str)) {w : Str} {k : Nat} (hk : k ≤ 3000) : ∀ (R : Odds) (a : Rat) (x5 : Option D), (∀ z ∈ R, z ∈ O) → (R.map (·.1)).Nodup → qs k a → ∃ y5, fl (fun _ => true) (.n 5) m_law_prior_l1 (R.map fun z => .tup [.str z.1, qD z.2]) [x0, some (oD false O), some U, some (qD a), some (.str w), x5] [] =
    .nx [x0, some (oD false O), some U, some (qD (if w ∈ R.map (·.1) then a * (if w ∈ bs then 1 - oddQ R w else oddQ R w) else a)), some (.str w), y5] []
  | [], a, x5, _, _, _ => ⟨x5, by simp; exact fl_end rfl⟩
  | z :: R, a, x5, hR, nd, qa => by
    rw [List.map_cons] at nd
    obtain ⟨n1, n2⟩ := List.nodup_cons.mp nd
    obtain ⟨o1, o2⟩ := qs_odd K (hR z (by simp))
    by_cases e : z.1 = w
    · subst e
      have q1 : qs (k + 6) (a * (if z.1 ∈ bs then 1 - z.2 else z.2)) := by
        refine qs_mul qa ?_
        split
        · exact o2
        · exact qs_le (by decide) o1
      obtain ⟨y5, ih⟩ : ∃ y5, fl (fun _ => true) (.n 5) m_law_prior_l1 (R.map fun z => .tup [.str z.1, qD z.2]) [x0, some (oD false O), some U, some (qD (a * (if z.1 ∈ bs then 1 - z.2 else z.2))), some (.str z.1), some (.tup [.str z.1, qD z.2])] [] = .nx [x0, some (oD false O), some U, some (qD (a * (if z.1 ∈ bs then 1 - z.2 else z.2))), some (.str z.1), y5] [] := by
        have skip : ∀ (R : Odds) (x5 : Option D) (A : Rat), z.1 ∉ R.map (·.1) → ∃ y5, fl (fun _ => true) (.n 5) m_law_prior_l1 (R.map fun z => .tup [.str z.1, qD z.2]) [x0, some (oD false O), some U, some (qD A), some (.str z.1), x5] [] = .nx [x0, some (oD false O), some U, some (qD A), some (.str z.1), y5] [] := by
          intro R
          induction R with
          | nil => intro x5 A _; exact ⟨x5, fl_end rfl⟩
          | cons y R ih =>
            intro x5 A hn
            obtain ⟨y5, e⟩ := ih (some (.tup [.str y.1, qD y.2])) A fun h => hn (by simp only [List.map_cons, List.mem_cons]; exact .inr h)
            have ne : ¬ y.1 = z.1 := fun h => hn (by rw [List.map_cons, h]; simp)
            refine ⟨y5, ?_⟩
            rw [List.map_cons]
            refine Eq.trans (fl_n (b := m_law_prior_l1) ?_) e
            simp [m_law_prior_l1, ne]
        exact skip R _ _ n1
      refine ⟨y5, ?_⟩
      have hm : z.1 ∈ (z :: R).map (·.1) := by simp
      rw [if_pos hm]
      have ho : oddQ (z :: R) z.1 = z.2 := by unfold oddQ; rw [if_pos rfl]
      rw [ho, List.map_cons]
      refine Eq.trans (fl_n (b := m_law_prior_l1) ?_) ih
      have u1 := inG_strs false z.1 (U := U) (us := bs) (h := []) (hU [])
      have s1 := fun h => law_sub_q (qs_le (show 1 ≤ 4000 by decide) (qs_int (i := 1) (k := 1) (by decide) (by decide))) (qs_le (show 4 ≤ 4000 by decide) o1) h
      rw [qD_int] at s1
      have s1' : ∀ h, callL m_law_sub [.tup [.int 1, .int 1], qD z.2] h = .ok (qD (1 - z.2)) h := s1
      have m1 := fun h => law_mul_q (qs_le (show k ≤ 4000 by omega) qa) (qs_le (show 6 ≤ 4000 by decide) o2) h
      have m2 := fun h => law_mul_q (qs_le (show k ≤ 4000 by omega) qa) (qs_le (show 4 ≤ 4000 by decide) o1) h
      by_cases hb : z.1 ∈ bs
      · simp only [hb, decide_true, Bool.false_eq_true, if_false] at u1
        simp [m_law_prior_l1, u1, s1', m1, hb]
      · simp only [hb, decide_false, Bool.false_eq_true, if_false] at u1
        simp [m_law_prior_l1, u1, m2, hb]
    · obtain ⟨y5, ih⟩ := prior_l1 x0 hU (w := w) hk R a (some (.tup [.str z.1, qD z.2])) (fun y hy => hR y (by simp [hy])) n2 qa
      refine ⟨y5, ?_⟩
      have hm : (w ∈ (z :: R).map (·.1)) ↔ w ∈ R.map (·.1) := by
        rw [List.map_cons, List.mem_cons]
        exact ⟨fun h => h.elim (fun h => absurd h.symm e) id, .inr⟩
      have ho : oddQ (z :: R) w = oddQ R w := by conv => lhs; unfold oddQ; rw [if_neg e]
      simp only [hm, ho]
      rw [List.map_cons]
      refine Eq.trans (fl_n (b := m_law_prior_l1) ?_) ih
      simp [m_law_prior_l1, e]
theorem prior_l2 (x0 : Option D) {U : D} (hU : ∀ h, seqD h U = some (bs.map D.str)) : ∀ (L : List Str) (a : Rat) (k : Nat) (x4 x5 : Option D), (∀ w ∈ L, w ∈ O.map (·.1)) → k + 6 * L.length ≤ 3000 → qs k a → ∃ y4 y5, fl (fun _ => true) (.n 4) m_law_prior_l2 (L.map D.str) [x0, some (oD false O), some U, some (qD a), x4, x5] [] =
    .nx [x0, some (oD false O), some U, some (qD (prior O bs L a)), y4, y5] []
  | [], a, k, x4, x5, _, _, _ => ⟨x4, x5, fl_end rfl⟩
  | w :: r, a, k, x4, x5, hl, hk, qa => by
    have hw := hl w (by simp)
    obtain ⟨y5, e1⟩ := prior_l1 K (bs := bs) x0 hU (w := w) (k := k) (by omega) O a x5 (fun z hz => hz) K.nd qa
    rw [if_pos hw] at e1
    obtain ⟨z4, z5, ih⟩ := prior_l2 x0 hU r (a * facQ O bs w) (k + 6) (some (.str w)) y5 (fun v hv => hl v (by simp [hv])) (by simp at hk; omega) (qs_mul qa (qs_fac K hw))
    have e8 : ∀ h, seqD h (oD false O) = some (O.map fun z => .tup [.str z.1, qD z.2]) := fun h => seqD_sqs false _ h
    have e9 : chkQ (oD false O) (O.map fun z => .tup [.str z.1, qD z.2]) = fun _ => true := chkQ_sqs false _
    refine ⟨z4, z5, ?_⟩
    rw [List.map_cons]
    refine Eq.trans (fl_n (b := m_law_prior_l2) ?_) ih
    have ef : facQ O bs w = if w ∈ bs then 1 - oddQ O w else oddQ O w := rfl
    rw [ef]
    generalize (a * if w ∈ bs then 1 - oddQ O w else oddQ O w) = A1 at *
    generalize oD false O = OD at *
    simp [m_law_prior_l2, e8, e9, e1]
theorem prior_ok (hl : ∀ w ∈ L, w ∈ O.map (·.1)) (hL : L.length ≤ 400) (h : Hc) : callL m_law_prior [.lst (L.map D.str), oD false O, .lst (bs.map D.str)] h = .ok (qD (prior O bs L 1)) h := by
  obtain ⟨y4, y5, e1⟩ := prior_l2 K (bs := bs) (some (.lst (L.map D.str))) (U := .lst (bs.map D.str)) (fun h => rfl) L 1 1 none none hl (by omega) (qs_int (i := 1) (by decide) (by decide))
  have e2 : qD 1 = .tup [.int 1, .int 1] := rfl
  rw [e2] at e1
  refine call_flat (h' := []) (by simp) ?_ (by simp) h
  unfold m_law_prior
  rw [runB_s]
  generalize oD false O = OD at *
  simp [e1]
theorem qs_prior : ∀ (L : List Str) (a : Rat) (k : Nat), (∀ w ∈ L, w ∈ O.map (·.1)) → qs k a → qs (k + 6 * L.length) (prior O bs L a)
  | [], a, k, _, qa => by simpa [prior] using qa
  | w :: r, a, k, hl, qa => by
    unfold prior
    have := qs_prior r (a * facQ O bs w) (k + 6) (fun v hv => hl v (by simp [hv])) (qs_mul qa (qs_fac K (hl w (by simp))))
    rw [List.length_cons]
    rw [show k + 6 * (r.length + 1) = k + 6 + 6 * r.length by omega]
    exact this
omit K in
theorem prior_mul : ∀ (L : List Str) (a : Rat), prior O bs L a = a * prior O bs L 1
  | [], a => by unfold prior; grind
  | w :: r, a => by
    unfold prior
    rw [prior_mul r (a * facQ O bs w), prior_mul r (1 * facQ O bs w)]
    grind
end
end Mp
/-! ChaD: the law's sum is the chance; drawn odds. -/
namespace Mp
open PySem PySem.Spec PyProof.Rows L2
theorem prior_prQ {O : Odds} {bs : List Str} : ∀ (L : List Str) (m : Nat), (∀ k w, L[k]? = some w → (w ∈ bs ↔ m.testBit k = false)) → prior O bs L 1 = prQ (L.map (oddQ O)) m
  | [], m, _ => rfl
  | w :: r, m, h => by
    unfold prior
    rw [prior_mul, prior_prQ r (m / 2) fun k v hv => by rw [Nat.testBit_div_two]; exact h (k + 1) v (by simpa using hv), List.map_cons]
    conv => rhs; unfold prQ
    have h0 := h 0 w (by simp)
    unfold facQ
    by_cases hb : m.testBit 0 = true
    · have : w ∉ bs := fun z => by rw [h0.mp z] at hb; exact absurd hb (by decide)
      rw [if_neg this, if_pos hb]; grind
    · have : w ∈ bs := h0.mpr (by simpa using hb)
      rw [if_pos this, if_neg hb]; grind
def oth (L s : List Str) : List Str := L.filter fun w => decide (w ∉ s)
theorem oth_bit {L : List Str} (nd : L.Nodup) (m : Nat) : ∀ k w, L[k]? = some w → (w ∈ oth L (setOf L m) ↔ m.testBit k = false) := fun k w hw => by
  unfold oth
  have h1 := wk_part nd hw m
  unfold wk at h1
  rw [List.mem_filter, decide_eq_true_iff]
  have hm : w ∈ L := List.mem_of_getElem? hw
  constructor
  · rintro ⟨_, h2⟩
    rw [← h1]; exact decide_eq_false h2
  · intro h2
    refine ⟨hm, fun z => ?_⟩
    rw [h2] at h1
    exact absurd h1 (by rw [decide_eq_true z]; decide)
/-- the law's sum -/
def lawS (O : Odds) (L : List Str) (f : List Str → Bool) : List (List Str) → Rat → Rat
  | [], a => a
  | s :: r, a => lawS O L f r (if f s then a + prior O (oth L s) L 1 else a)
theorem lawS_sum (O : Odds) (L : List Str) (f : List Str → Bool) : ∀ (S : List (List Str)) (a : Rat), lawS O L f S a = a + sumR (S.map fun s => if f s then prior O (oth L s) L 1 else 0)
  | [], a => by simp only [lawS, List.map_nil, sumR_nil]; grind
  | s :: r, a => by
    unfold lawS
    rw [lawS_sum O L f r, List.map_cons, sumR_cons]
    by_cases h : f s = true
    · rw [if_pos h, if_pos h]; grind
    · rw [if_neg h, if_neg h]; grind
theorem lawS_chQ (O : Odds) {L : List Str} (nd : L.Nodup) (f : List Str → Bool) : lawS O L f (setsL [[]] L) 0 = chQ O L fun m => f (setOf L m) := by
  rw [lawS_sum, setsL_masks, List.map_map]
  unfold chQ
  rw [sQ_sum, List.length_map]
  have e : (List.range (2 ^ L.length)).map ((fun s => if f s then prior O (oth L s) L 1 else 0) ∘ setOf L) = (List.range (2 ^ L.length)).map fun m => (if f (setOf L m) then 1 else 0) * prQ (L.map (oddQ O)) m := by
    refine List.map_congr_left fun m _ => ?_
    simp only [Function.comp]
    rw [prior_prQ L m (oth_bit nd m)]
    split <;> grind
  rw [e]
  grind
section
variable {O : Odds} (K : OOk O) {ns : List Str} {e : E} (S : SOk ns e)
include K S
theorem sum_loop (x1 : Option D) {L : List Str} (hL : L.length ≤ 6) (hl : ∀ w ∈ L, w ∈ O.map (·.1)) (hx1 : x1 = some (oD false O)) : ∀ (R : List (List Str)) (a : Rat) (k : Nat) (x4 : Option D), k + 40 * R.length ≤ 3900 → qs k a → ∃ y4, fl (fun _ => true) (.n 4) m_law_sum_chance_l1 (R.map sL) [some (eD false e), x1, some (.lst (L.map D.str)), some (qD a), x4] [] =
    .nx [some (eD false e), x1, some (.lst (L.map D.str)), some (qD (lawS O L (fun s => wk s e) R a)), y4] []
  | [], a, k, x4, _, _ => ⟨x4, fl_end rfl⟩
  | s :: R, a, k, x4, hk, qa => by
    subst hx1
    have qp := qs_prior K (bs := oth L s) L 1 1 hl (qs_int (i := 1) (by decide) (by decide))
    have e1 := fun h => law_works_ok s 24 e (by have := S.dp; omega) S.ok (sL s) h (.lst h)
    have e2 : ∀ h, callL m_law_others [.lst (L.map D.str), sL s] h = .ok (.lst ((oth L s).map D.str)) h := fun h => law_others_ok true (by omega) (.lst h)
    have e3 := fun h => prior_ok K (bs := oth L s) hl (by omega) h
    have e4 := fun h => law_add_q (qs_le (show k ≤ 4000 by omega) qa) (qs_le (show 1 + 6 * L.length ≤ 4000 by omega) qp) h
    obtain ⟨y4, ih⟩ := sum_loop (some (oD false O)) hL hl rfl R (if wk s e then a + prior O (oth L s) L 1 else a) (k + 40) (some (sL s)) (by rw [List.length_cons] at hk; omega) (by
      split
      · exact qs_le (by omega) (qs_add qa qp)
      · exact qs_le (by omega) qa)
    refine ⟨y4, ?_⟩
    rw [List.map_cons]
    refine Eq.trans (fl_n (b := m_law_sum_chance_l1) ?_) ih
    generalize prior O (oth L s) L 1 = PR at *
    generalize (oth L s).map D.str = OT at *
    generalize L.map D.str = LD at *
    generalize oD false O = OD at *
    generalize eD false e = ED at *
    by_cases hw : wk s e = true
    · rw [hw] at e1
      simp [m_law_sum_chance_l1, e1, e2, e3, e4, hw]
    · have hw' : wk s e = false := by simpa using hw
      rw [hw'] at e1
      simp [m_law_sum_chance_l1, e1, hw']
theorem law_sum_ok (hp : (pts e).length ≤ 6) (hl : ∀ w ∈ pts e, w ∈ O.map (·.1)) (h : Hc) : callL m_law_sum_chance [eD false e, oD false O] h = .ok (qD (chQ O (pts e) (wkT (pts e) e))) h := by
  have e1 := fun h => law_parts_ok S.len 24 e h (by have := S.dp; omega) S.ok
  have e2 : ∀ h, callL m_law_sets [.lst ((pts e).map D.str)] h = .ok (.lst ((setsL [[]] (pts e)).map sL)) h := fun h => law_sets_ok true (by omega) h
  have sl : (setsL [[]] (pts e)).length ≤ 64 := by
    rw [setsL_len]
    have := Nat.pow_le_pow_right (show 0 < 2 by decide) hp
    simp; omega
  obtain ⟨y4, e3⟩ := sum_loop K S (some (oD false O)) (L := pts e) hp hl rfl (setsL [[]] (pts e)) 0 1 none (by omega) ⟨by decide, by decide⟩
  rw [lawS_chQ O (nodup_pts e)] at e3
  have e0 : qD 0 = .tup [.int 0, .int 1] := rfl
  rw [e0] at e3
  refine call_flat (h' := []) (by simp) ?_ (by simp) h
  unfold m_law_sum_chance
  rw [runB_s]
  show _ = R.ok (qD (chQ O (pts e) fun m => wk (setOf (pts e) m) e)) []
  generalize chQ O (pts e) (fun m => wk (setOf (pts e) m) e) = CQ at *
  generalize (setsL [[]] (pts e)).map sL = SS at *
  generalize (pts e).map D.str = PD at *
  generalize oD false O = OD at *
  generalize eD false e = ED at *
  simp [e1, e2, e3]
end
/-! ### drawn chances -/
structure PrOk (q : Rat) : Prop where
  p : 0 ≤ q.num ∧ q.num ≤ q.den ∧ q.den ≤ 15
theorem pr_div {a b : Int} (h0 : 0 ≤ a) (h1 : a ≤ b) (hb : 0 < b) (hb2 : b ≤ 15) : PrOk ((a : Rat) / (b : Rat)) := by
  obtain ⟨e1, e2⟩ := q_of_div a hb
  have gp : 0 < Int.gcd a b := Int.gcd_pos_of_ne_zero_right a (by omega)
  have gi : (0 : Int) < (Int.gcd a b : Int) := by omega
  have e3 : ((b.natAbs / Int.gcd a b : Nat) : Int) = b / (Int.gcd a b : Int) := by
    rw [Int.natCast_ediv]
    congr 1
    omega
  refine ⟨?_, ?_, ?_⟩
  · rw [e1]; exact Int.ediv_nonneg h0 (by omega)
  · rw [e1, e2, e3]; exact Int.ediv_le_ediv gi h1
  · rw [e2]
    have := Nat.div_le_self b.natAbs (Int.gcd a b)
    omega
section
variable {row : List Int} (hr : row ≠ [])
include hr
theorem chance_ex {k : Int} {i : Nat} {h : Hc} (hi : h[i]? = some (.lst [.int k])) (hk : 0 ≤ k) : ∃ q k', PrOk q ∧ 0 ≤ k' ∧ callL m_law_chance [.lst (row.map D.int), .ref i] h = .ok (qD q) (h.set i (.lst [.int k'])) := by
  obtain ⟨v, k1, v0, v1, hk1, e1⟩ := take_ex hr (h := [.lst [.int k]]) (i := 0) (k := k) (l := 8) rfl hk (by decide)
  simp only [List.set_cons_zero] at e1
  by_cases c0 : v = 0
  · refine ⟨0, k1, ⟨by decide, by decide, by decide⟩, hk1, call_spot (d0 := qD 0) (h' := [.lst [.int k1]]) (by simp) (by simp) hi ?_ rfl fun j => frzD_flat (by simp)⟩
    unfold m_law_chance
    rw [runB_s]
    simp [e1, c0]
    rfl
  · by_cases c1 : v = 1
    · refine ⟨1, k1, ⟨by decide, by decide, by decide⟩, hk1, call_spot (d0 := qD 1) (h' := [.lst [.int k1]]) (by simp) (by simp) hi ?_ rfl fun j => frzD_flat (by simp)⟩
      unfold m_law_chance
      rw [runB_s]
      simp [e1, c1]
      rfl
    · obtain ⟨u, k2, u0, u1, hk2, e2⟩ := take_ex hr (h := [.lst [.int k1]]) (i := 0) (k := k1) (l := 9) rfl hk1 (by decide)
      simp only [List.set_cons_zero] at e2
      obtain ⟨t, k3, t0, t1, hk3, e3⟩ := take_ex hr (h := [.lst [.int k2]]) (i := 0) (k := k2) (l := 1 + u + 1) rfl hk2 (by omega)
      simp only [List.set_cons_zero] at e3
      have e4 := fun h => red_ok 22 (a := t) (d := 1 + u) (by omega) (small8000 (by omega)) h
      rw [rdc_q _ (by omega)] at e4
      refine ⟨(t : Rat) / ((1 + u : Int) : Rat), k3, pr_div t0 (by omega) (by omega) (by omega), hk3, call_spot (d0 := qD ((t : Rat) / ((1 + u : Int) : Rat))) (h' := [.lst [.int k3]]) (by simp) (by simp) hi ?_ rfl fun j => frzD_flat (by simp)⟩
      unfold m_law_chance
      rw [runB_s]
      generalize ((t : Rat) / ((1 + u : Int) : Rat)) = Q at *
      have e4' : ∀ h, callL (m_law_red 24) [.int t, .int (1 + u)] h = .ok (qD Q) h := e4
      simp [e1, c0, c1, e2, e3, e4']
def pairD (z : Str × Rat) : D := .tup [.str z.1, qD z.2]
theorem odds_step {T : Hc} {made : Odds} {M : D} (hM : lstD (C.lst [D.int 0] :: T) M = some (made.map pairD)) (hl : made.length ≤ 1000) (x4 x5 : Option D) {w : Str} {k : Int} (hk : 0 ≤ k)
    (hM' : ∀ q, lstD (C.lst [D.int q] :: T) M = some (made.map pairD)) : ∃ (made' : Odds) (q : Rat) (y5 : Option D) (k' : Int), PrOk q ∧ 0 ≤ k' ∧ made'.Perm ((w, q) :: made) ∧
    m_law_odds_l1 [some (.lst (row.map D.int)), some (.ref 0), x4, some M, some (.str w), x5] (.lst [.int k] :: T) = .nx [some (.lst (row.map D.int)), some (.ref 0), x4, some (.lst (made'.map pairD)), some (.str w), y5] (.lst [.int k'] :: T) := by
  have sq : ∀ q, seqD (C.lst [D.int q] :: T) M = some (made.map pairD) := fun q => by
    have := hM' q
    cases M <;> simp [lstD, seqD] at this ⊢ <;> exact this
  have rd : ∀ q, rdlD (C.lst [D.int q] :: T) M = some (made.map pairD) := fun q => by
    have := hM' q
    cases M <;> simp [lstD, rdlD] at this ⊢ <;> exact this
  have ln : lenF [M] (C.lst [D.int k] :: T) = .ok (.int (made.length : Int)) (C.lst [D.int k] :: T) := by
    have := sq k
    unfold lenF
    split
    · rename_i z e
      have hz : M = .str z := (List.cons.inj e).1
      have := hM' k
      rw [hz] at this
      simp [lstD] at this
    · rename_i d _ e
      cases e
      rw [this]; simp
    · rename_i h1 h2
      exact absurd rfl (h2 M)
  obtain ⟨v, k1, v0, v1, hk1, e1⟩ := take_ex hr (h := .lst [.int k] :: T) (i := 0) (k := k) (l := (made.length : Int) + 1) rfl hk (by omega)
  obtain ⟨q, k2, pq', hk2, e2⟩ := chance_ex hr (h := .lst [.int k1] :: T) (i := 0) (k := k1) rfl hk1
  simp only [List.set_cons_zero] at e1 e2
  obtain ⟨n, rfl⟩ : ∃ n : Nat, v = (n : Int) := ⟨v.toNat, by omega⟩
  have nt : ∀ z, M ≠ .tup z := by intro z hz; subst hz; have := hM' k; simp [lstD] at this
  have ns' : ∀ z, M ≠ .str z := by intro z hz; subst hz; have := hM' k; simp [lstD] at this
  have s1 : ∀ q, slF M none (some (n : Int)) (C.lst [D.int q] :: T) = .ok (.lst ((made.take n).map pairD)) (C.lst [D.int q] :: T) := fun q => by
    unfold slF
    split
    · exact absurd rfl (nt _)
    · exact absurd rfl (ns' _)
    · rw [rd q]
      simp only
      rw [cutD_take, List.map_take]
  have s2 : ∀ q, slF M (some (n : Int)) none (C.lst [D.int q] :: T) = .ok (.lst ((made.drop n).map pairD)) (C.lst [D.int q] :: T) := fun q => by
    unfold slF
    split
    · exact absurd rfl (nt _)
    · exact absurd rfl (ns' _)
    · rw [rd q]
      simp only
      rw [cutD_drop, List.map_drop]
  refine ⟨made.take n ++ (w, q) :: made.drop n, q, some (.int (n : Int)), k2, pq', hk2, ?_, ?_⟩
  · have : made.Perm (made.take n ++ made.drop n) := by rw [List.take_append_drop]
    exact List.perm_middle.trans (List.Perm.cons _ this.symm)
  · have em : (made.take n ++ (w, q) :: made.drop n).map pairD = (made.take n).map pairD ++ [.tup [.str w, qD q]] ++ (made.drop n).map pairD := by simp [pairD]
    rw [em]
    have l1 : ((made.take n).map pairD).length ≤ 1000 := by simp; omega
    have l2 : ((made.drop n).map pairD).length ≤ 1000 := by simp; omega
    have a1 : ∀ h, addF (.lst ((made.take n).map pairD)) (.lst [.tup [.str w, qD q]]) h = .ok (.lst ((made.take n).map pairD ++ [.tup [.str w, qD q]])) h := fun h => addF_l rfl rfl (by rw [List.length_singleton]; omega)
    have a2 : ∀ h, addF (.lst ((made.take n).map pairD ++ [.tup [.str w, qD q]])) (.lst ((made.drop n).map pairD)) h = .ok (.lst ((made.take n).map pairD ++ [.tup [.str w, qD q]] ++ (made.drop n).map pairD)) h := fun h => addF_l rfl rfl (by rw [List.length_append, List.length_singleton]; omega)
    generalize ((made.take n).map pairD ++ [.tup [.str w, qD q]] ++ (made.drop n).map pairD) = R3 at *
    generalize ((made.take n).map pairD ++ [.tup [.str w, qD q]]) = R2 at *
    generalize (made.take n).map pairD = R1 at *
    generalize (made.drop n).map pairD = R0 at *
    simp [m_law_odds_l1, ln, e1, s1, s2, e2, a1, a2]
theorem odds_loop2 (x2 : Option D) {T : Hc} : ∀ (ws : List Str) (made : Odds) (M : D) (x4 x5 : Option D) (k : Int), 0 ≤ k → (∀ q, lstD (C.lst [D.int q] :: T) M = some (made.map pairD)) → made.length + ws.length ≤ 20 → (∀ z ∈ made, PrOk z.2) →
    ∃ (made' : Odds) (M' : D) (y4 y5 : Option D) (k' : Int), 0 ≤ k' ∧ (∀ q, lstD (C.lst [D.int q] :: T) M' = some (made'.map pairD)) ∧ (∀ z ∈ made', PrOk z.2) ∧ (made'.map (·.1)).Perm (ws.reverse ++ made.map (·.1)) ∧
    fl (fun _ => true) (.n 4) m_law_odds_l1 (ws.map D.str) [some (.lst (row.map D.int)), some (.ref 0), x2, some M, x4, x5] (.lst [.int k] :: T) = .nx [some (.lst (row.map D.int)), some (.ref 0), x2, some M', y4, y5] (.lst [.int k'] :: T)
  | [], made, M, x4, x5, k, hk, hM, hl, hp => ⟨made, M, x4, x5, k, hk, hM, hp, by simp, fl_end rfl⟩
  | w :: r, made, M, x4, x5, k, hk, hM, hl, hp => by
    obtain ⟨made1, q, y5, k1, pq', hk1, pm, e1⟩ := odds_step hr (hM 0) (by simp at hl; omega) x2 x5 (w := w) hk hM
    have l1 : made1.length = made.length + 1 := by rw [pm.length_eq]; rfl
    obtain ⟨made', M', z4, z5, k2, hk2, hM2, hp2, pm2, ih⟩ := odds_loop2 x2 r made1 (.lst (made1.map pairD)) (some (.str w)) y5 k1 hk1 (fun q => rfl) (by simp at hl; omega) (fun z hz => by
      rcases List.mem_cons.mp (pm.mem_iff.mp hz) with rfl | hz
      · exact pq'
      · exact hp z hz)
    refine ⟨made', M', z4, z5, k2, hk2, hM2, hp2, ?_, ?_⟩
    · refine pm2.trans ?_
      rw [List.reverse_cons, List.append_assoc]
      exact List.Perm.append_left _ (pm.map (·.1))
    · rw [List.map_cons]
      refine Eq.trans (fl_n (b := m_law_odds_l1) ?_) ih
      exact e1
/-- drawn odds -/
theorem odds_ex {ns : List Str} (nd : ns.Nodup) (hN : ∀ w ∈ ns, Nm w) (hl : ns.length ≤ 20) {k : Int} {i : Nat} {h : Hc} (hi : h[i]? = some (.lst [.int k])) (hk : 0 ≤ k) : ∃ O k', OOk O ∧ (O.map (·.1)).Perm ns ∧ 0 ≤ k' ∧ callL m_law_odds [.lst (row.map D.int), .ref i, .lst (ns.map D.str)] h = .ok (oD false O) (h.set i (.lst [.int k'])) := by
  obtain ⟨O, M, y4, y5, k1, hk1, hM, hp, pm, e1⟩ := odds_loop2 hr (some (.lst (ns.map D.str))) (T := [.lst []]) ns [] (.ref 1) none none k hk (fun q => rfl) (by simpa using hl) (by simp)
  have pm' : (O.map (·.1)).Perm ns := pm.trans (by simp [List.reverse_perm])
  have hO : OOk O := by
    refine ⟨fun z hz => hN z.1 (pm'.mem_iff.mp (List.mem_map_of_mem hz)), pm'.nodup_iff.mpr nd, ?_, fun z hz => (hp z hz).p⟩
    have := pm'.length_eq
    simp at this; omega
  have rd : rdlD [C.lst [D.int k1], C.lst []] M = some (O.map pairD) := by
    have := hM k1
    cases M <;> simp [lstD, rdlD] at this ⊢ <;> exact this
  have nt : ∀ z, M ≠ .tup z := by intro z hz; subst hz; have := hM k; simp [lstD] at this
  have tp : tupleF [M] [C.lst [D.int k1], C.lst []] = .ok (oD false O) [C.lst [D.int k1], C.lst []] := by
    unfold tupleF
    split
    · rename_i ys e
      cases e
      exact absurd rfl (nt ys)
    · rename_i d _ e
      cases e
      rw [rd]; rfl
    · rename_i h1 h2
      exact absurd rfl (h2 M)
  refine ⟨O, k1, hO, pm', hk1, call_spot (d0 := oD false O) (h' := [.lst [.int k1], .lst []]) (by simp) (by simp) hi ?_ rfl fun j => frzD_flat (by simp)⟩
  unfold m_law_odds
  rw [runB_s]
  generalize ns.map D.str = NS at *
  simp [e1, tp]
end
end Mp
/-! HarA: means of products of rising values. -/
namespace Mp
open PySem PySem.Spec PyProof.Rows L2
def Pr01 (ps : List Rat) : Prop := ∀ p ∈ ps, 0 ≤ p ∧ p ≤ 1
def Ri (f : Nat → Rat) : Prop := ∀ a b : Nat, a &&& b = a → f a ≤ f b
theorem mul_le {a b c : Rat} (h : a ≤ b) (hc : 0 ≤ c) : c * a ≤ c * b := Rat.mul_le_mul_of_nonneg_left h hc
theorem sQ_le : ∀ (ps : List Rat) (f g : Nat → Rat), Pr01 ps → (∀ m, f m ≤ g m) → sQ ps f ≤ sQ ps g
  | [], f, g, _, h => h 0
  | p :: ps, f, g, hp, h => by
    obtain ⟨h0, h1⟩ := hp p (by simp)
    refine sQ_le ps _ _ (fun q hq => hp q (by simp [hq])) fun j => ?_
    have a1 := mul_le (h (2 * j)) (c := 1 - p) (by grind)
    have a2 := mul_le (h (2 * j + 1)) h0
    grind
theorem sQ_const (c : Rat) : ∀ ps : List Rat, sQ ps (fun _ => c) = c
  | [] => rfl
  | p :: ps => by
    unfold sQ
    rw [show (fun j : Nat => (1 - p) * c + p * c) = fun _ => c from funext fun _ => by grind]
    exact sQ_const c ps
theorem sQ_sub : ∀ (ps : List Rat) (f g : Nat → Rat), sQ ps (fun m => f m - g m) = sQ ps f - sQ ps g
  | [], f, g => rfl
  | p :: ps, f, g => by
    unfold sQ
    rw [← sQ_sub ps]
    congr 1
    funext j
    grind
/-- the product of what some sets say -/
def prL (v : Nat → Nat → Rat) : List Nat → Nat → Rat
  | [], _ => 1
  | o :: F, m => v o m * prL v F m
def prE (E : Nat → Rat) : List Nat → Rat
  | [] => 1
  | o :: F => E o * prE E F
theorem sQ_nn {ps : List Rat} (hp : Pr01 ps) {f : Nat → Rat} (h : ∀ m, 0 ≤ f m) : 0 ≤ sQ ps f := by
  have := sQ_le ps (fun _ => 0) f hp h
  rw [sQ_const] at this
  exact this
end Mp
/-! UnkA: odds that lack a part. -/
namespace Mp
open PySem PySem.Spec PyProof.Rows L2
theorem call_xe {m : Fn} {as : List D} {x : Str} {fs : List Str} {vs : List D} {h' : Hc} (ha : flatL as = true) (hm : m as [] = .ex x fs vs h') (hv : flatL vs = true) (h : Hc) : callL m as h = .ex x fs vs h := by
  unfold callL
  rw [refsOf_flat ha, renL_flat ha]
  simp [cellsAt, hm, hv, wb]
/-- w is the first of L that the odds lack -/
def Lack (O : Odds) (L : List Str) (w : Str) : Prop := ∃ A B, L = A ++ w :: B ∧ (∀ v ∈ A, v ∈ O.map (·.1)) ∧ w ∉ O.map (·.1)
section
variable {O : Odds}
end
/-! ### offers -/
def prD (P : List Str) : D := .tup (P.map fun w => .tup [.str w, .int 1])
def offD (P : List Str) : D := .dct (P.map Sum.inr) (P.map fun _ => .int 1)
/-! ### a strange name -/
def strg (c : Nat) : Str := Str.ofString "zzzzzzz" ++ chS c
end Mp
/-! ShaA: odds with one of them set; shares of chances. -/
namespace Mp
open PySem PySem.Spec PyProof.Rows L2
def setO (O : Odds) (n : Str) (v : Rat) : Odds := O.map fun z => (z.1, if z.1 = n then v else z.2)
theorem setO_keys (O : Odds) (n : Str) (v : Rat) : (setO O n v).map (·.1) = O.map (·.1) := by
  unfold setO; rw [List.map_map]; rfl
theorem setO_odd (n : Str) (v : Rat) : ∀ {O : Odds} {w : Str}, w ∈ O.map (·.1) → oddQ (setO O n v) w = if w = n then v else oddQ O w
  | [], w, h => by simp at h
  | z :: r, w, h => by
    show oddQ ((z.1, if z.1 = n then v else z.2) :: setO r n v) w = _
    unfold oddQ
    by_cases e : z.1 = w
    · simp only [e, if_true]
    · simp only [e, if_false]
      refine setO_odd n v ?_
      rcases List.mem_cons.mp (by simpa using h : w ∈ z.1 :: r.map (·.1)) with q | q
      · exact absurd q.symm e
      · exact q
theorem setO_ok {O : Odds} (K : OOk O) (n : Str) {v : Rat} (hv : 0 ≤ v.num ∧ v.num ≤ v.den ∧ v.den ≤ 15) : OOk (setO O n v) where
  nm := fun z hz => by
    obtain ⟨y, hy, rfl⟩ := List.mem_map.mp hz
    exact K.nm y hy
  nd := by rw [setO_keys]; exact K.nd
  len := by unfold setO; rw [List.length_map]; exact K.len
  pr := fun z hz => by
    obtain ⟨y, hy, rfl⟩ := List.mem_map.mp hz
    show 0 ≤ (if y.1 = n then v else y.2).num ∧ _
    split
    · exact hv
    · exact K.pr y hy
theorem denP_app : ∀ a b : List Rat, denP (a ++ b) = denP a * denP b
  | [], b => by show denP b = denP [] * denP b; rw [show denP [] = 1 from rfl, Int.one_mul]
  | q :: a, b => by rw [List.cons_append, denP_cons, denP_cons, denP_app a b, Int.mul_assoc]
/-- a list of different names, one of them known -/
theorem split_at : ∀ {L : List Str} {n : Str}, L.Nodup → n ∈ L → ∃ A B, L = A ++ n :: B ∧ n ∉ A ∧ n ∉ B
  | [], n, _, h => by cases h
  | a :: r, n, nd, h => by
    obtain ⟨h1, h2⟩ := List.nodup_cons.mp nd
    by_cases e : a = n
    · subst e; exact ⟨[], r, rfl, by simp, h1⟩
    · obtain ⟨A, B, rfl, h3, h4⟩ := split_at h2 ((List.mem_cons.mp h).resolve_left fun z => e z.symm)
      exact ⟨a :: A, B, rfl, by simp only [List.mem_cons, not_or]; exact ⟨fun z => e z.symm, h3⟩, h4⟩
theorem ixS_at : ∀ {A B : List Str} {n : Str}, n ∉ A → ixS (A ++ n :: B) n = some A.length
  | [], B, n, _ => by show (if n = n then _ else _) = _; rw [if_pos rfl]; rfl
  | a :: r, B, n, h => by
    simp only [List.mem_cons, not_or] at h
    rw [List.cons_append]
    unfold ixS
    rw [if_neg (fun z => h.1 z.symm), ixS_at h.2]
    rfl
theorem setO_map {O : Odds} {n : Str} {v : Rat} {A B : List Str} (hA : n ∉ A) (hB : n ∉ B) (hl : ∀ w ∈ A ++ n :: B, w ∈ O.map (·.1)) {α : Type} (f : Rat → α) :
    ((A ++ n :: B).map fun w => f (oddQ (setO O n v) w)) = (A.map fun w => f (oddQ O w)) ++ f v :: B.map fun w => f (oddQ O w) := by
  rw [List.map_append, List.map_cons]
  congr 1
  · refine List.map_congr_left fun w hw => ?_
    rw [setO_odd n v (hl w (by simp [hw])), if_neg (fun (z : w = n) => hA (z ▸ hw))]
  · rw [setO_odd n v (hl n (by simp)), if_pos rfl]
    congr 1
    refine List.map_congr_left fun w hw => ?_
    rw [setO_odd n v (hl w (by simp [hw])), if_neg (fun (z : w = n) => hB (z ▸ hw))]
theorem setO_off {O : Odds} {n : Str} {v : Rat} {L : List Str} (hn : n ∉ L) (hl : ∀ w ∈ L, w ∈ O.map (·.1)) (f : Nat → Bool) : chQ (setO O n v) L f = chQ O L f := by
  unfold chQ
  congr 1
  refine List.map_congr_left fun w hw => ?_
  rw [setO_odd n v (hl w hw), if_neg (fun (z : w = n) => hn (z ▸ hw))]
theorem wt_zero : wtQ 0 = (0, 1) := by decide
section
variable {O : Odds} (K : OOk O)
include K
theorem pr01S {L : List Str} (hl : ∀ w ∈ L, w ∈ O.map (·.1)) : Pr01 (L.map (oddQ O)) := fun p hp => by
  obtain ⟨w, hw, rfl⟩ := List.mem_map.mp hp
  obtain ⟨h0, h1, h2⟩ := odd_b K (hl w hw)
  refine ⟨Rat.num_nonneg.mp h0, ?_⟩
  rw [Rat.le_iff]
  show (oddQ O w).num * ((1 : Nat) : Int) ≤ 1 * _
  omega
theorem chQ_qsS {L : List Str} (h6 : L.length ≤ 6) (hl : ∀ w ∈ L, w ∈ O.map (·.1)) {T : Nat} {f : Nat → Bool} (t : Tb L.length T f) : qs 30 (chQ O L f) := by
  have hp := pr01S K hl
  have c0 : 0 ≤ chQ O L f := sQ_nn hp fun m => by split <;> decide
  have c1 : chQ O L f ≤ 1 := by
    have := sQ_le (L.map (oddQ O)) (fun m => if f m then 1 else 0) (fun _ => 1) hp fun m => by split <;> decide
    rw [sQ_const] at this
    exact this
  have e := weigh_chQ K t
  have dp := denP_pos (L.map (oddQ O))
  have db := den_b K hl (by omega)
  have h1 : (16 : Int) ^ L.length ≤ 16 ^ 6 := by
    have : (16 : Nat) ^ L.length ≤ 16 ^ 6 := Nat.pow_le_pow_right (by decide) h6
    exact_mod_cast this
  have h2 : (16 : Int) ^ 6 = 16777216 := by decide
  have p30 : (2 : Nat) ^ 30 = 1073741824 := by decide
  generalize hD : denP (L.map (oddQ O)) = d at *
  generalize foldW (L.map fun w => wtQ (oddQ O w)) (bitI T) = n at *
  have q2 : ((d : Int) : Rat) ≠ 0 := by
    intro z
    have : d = 0 := by exact_mod_cast z
    omega
  have en : (n : Rat) = chQ O L f * (d : Rat) := by
    rw [← e, Rat.div_def]
    have h1 : (d : Rat) * (d : Rat)⁻¹ = 1 := Rat.mul_inv_cancel _ q2
    grind
  have dq : (0 : Rat) ≤ (d : Rat) := by exact_mod_cast Int.le_of_lt dp
  have n0 : (0 : Rat) ≤ (n : Rat) := by rw [en]; exact Rat.mul_nonneg c0 dq
  have n1 : (n : Rat) ≤ (d : Rat) := by
    have : 0 ≤ (1 - chQ O L f) * (d : Rat) := Rat.mul_nonneg (by grind) dq
    rw [en]
    grind
  have n0' : 0 ≤ n := by exact_mod_cast n0
  have n1' : n ≤ d := by exact_mod_cast n1
  rw [← e]
  exact qs_div (by omega) (by omega) (by omega)
variable (b c : Bool) {ns : List Str} {e : E} (S : SOk ns e) {n : Str} (hn : Nm n) (hl : ∀ w ∈ pts e, w ∈ O.map (·.1)) (hw : n ∈ O.map (·.1))
include S hn hl hw
theorem namedS_ok (h : Hc) : callL m_named_odds [eD b e, oD c O, .str n] h = .ok (.tup [.tup ((pts e).map D.str), knD O]) h := by
  have e1 := fun h => known_ok b c S K h
  have e2 := fun h => names_in_ok b S h
  have e3 : ∀ h, callL m_look_up [.tup ((pts e).map D.str), knD O] h = .ok .non h := fun h => look_up_ok false hl h
  have e5 : ∀ h, callL m_look_up [.tup [.str n], knD O] h = .ok .non h := fun h => look_up_ok false (L := [n]) (fun w hw' => by rw [List.mem_singleton.mp hw']; exact hw) h
  have e4 := fun h => is_name_ok hn h
  have fk : flat (knD O) = true := flat_knD O
  refine call_flat (h' := []) (by simp) ?_ (by simp [fk]) h
  unfold m_named_odds
  rw [runB_s]
  generalize (pts e).map D.str = PD at *
  generalize knD O = KD at *
  simp [e1, e2, e3, e4, e5]
end
end Mp
/-! ShaB: weighed with a list that is a cell. -/
namespace Mp
open PySem PySem.Spec PyProof.Rows L2
theorem call_lastS {m : Fn} {x d : D} {c : List D} {h : Hc} {i : Nat} (fx : flat x = true) (fc : flatL c = true) (hi : h[i]? = some (.lst c)) (raw : m [x, .ref 0] [.lst c] = .ok d [.lst c]) (fd : flat d = true) : callL m [x, .ref i] h = .ok d h := by
  have z := call_ref1 (m := m) (as := [x, .ref i]) (as' := [x, .ref 0]) (i := i) (c := .lst c) (c' := .lst c) (h := h) (h' := [.lst c]) (d0 := d) (d := d) (by
    have : refsOf [x, .ref i] = [i] := by
      rw [show ([x, .ref i] : List D) = x :: [.ref i] from rfl]
      cases x <;> simp_all [refsOf, flat]
    exact this) (by
    cases x <;> simp_all [renL, renD, flat]) hi fc raw rfl fc (frzD_flat fd)
  rw [z]
  congr 1
  refine List.ext_getElem? fun j => ?_
  by_cases e : i = j
  · subst e
    have hl : i < h.length := (List.getElem?_eq_some_iff.mp hi).1
    rw [List.getElem?_set_self hl, hi]
  · rw [List.getElem?_set_ne e]
def tW (W : List (Int × Int)) : List D := W.map fun z => .tup [.int z.1, .int z.2]
theorem flat_tW (W : List (Int × Int)) : flatL (tW W) = true := flatL_map _ (fun z => by simp) W
theorem folded_loopS (x1 : Option D) {hp : Hc} {chk : Hc → Bool} (hc : chk hp = true) : ∀ (W : List (Int × Int)) (g : Nat → Int) (x2 x3 : Option D), W.length ≤ 6 → (∀ z ∈ W, (z.1.natAbs ≤ 100000 ∧ z.2.natAbs ≤ 100000)) → ∃ y2 y3, fl chk (.t ((.n 2) :: ((.n 3) :: []))) m_folded_l1 (W.map fun z => D.tup [.int z.1, .int z.2]) [some (rowD (2 ^ W.length) g), x1, x2, x3, none] hp =
    .nx [some (rowD 1 fun _ => foldW W g), x1, y2, y3, none] hp
  | [], g, x2, x3, _, _ => ⟨x2, x3, by simp only [List.length_nil, Nat.pow_zero]; exact fl_end hc⟩
  | z :: W, g, x2, x3, hl, hz => by
    have hW : W.length ≤ 6 := by simp at hl; omega
    obtain ⟨h1, h2⟩ := pow26 hW
    obtain ⟨y2, y3, ih⟩ := folded_loopS x1 hc W (fun j => z.2 * g (2 * j) + z.1 * g (2 * j + 1)) (some (.int z.1)) (some (.int z.2)) hW fun y hy => hz y (by simp [hy])
    obtain ⟨z1, z2⟩ := hz z (by simp)
    have ep : 2 ^ (z :: W).length = 2 * 2 ^ W.length := by rw [List.length_cons, Nat.pow_succ, Nat.mul_comm]
    have e1 := fun h => rg3_two (n := 2 ^ W.length) (by omega) h
    have ln : ∀ h, lenF [rowD (2 * 2 ^ W.length) g] h = .ok (.int ((2 * 2 ^ W.length : Nat) : Int)) h := fun h => by unfold rowD; simp
    have e2 := lcR_mm (chk := fun _ => true) (p := .n 4) (own := [4]) (m := m_folded_c1) (ds := [some (rowD (2 * 2 ^ W.length) g), x1, some (.int z.1), some (.int z.2), none]) (h := hp) (fun j : Nat => D.int ((2 * j : Nat) : Int)) (fun j => .int (z.2 * g (2 * j) + z.1 * g (2 * j + 1))) rfl (List.range' 0 (2 ^ W.length)) (by simp; omega)
      (fun j hj => ⟨_, bindP_n .., by
        have hj' : j < 2 ^ W.length := by have := List.mem_range'_1.mp hj; omega
        have i0 := fun h => row_ix (n := 2 * 2 ^ W.length) g (j := 2 * j) (by omega) h
        have i1 := fun h => row_ix (n := 2 * 2 ^ W.length) g (j := 2 * j + 1) (by omega) h
        have ec : ((2 * j : Nat) : Int) + 1 = ((2 * j + 1 : Nat) : Int) := by omega
        have m1 : mulOk z.2 (g (2 * j)) = true := mulOk_l _ _ (by omega) (by omega)
        have m2 : mulOk z.1 (g (2 * j + 1)) = true := mulOk_l _ _ (by omega) (by omega)
        generalize rowD (2 * 2 ^ W.length) g = RD at *
        generalize ((2 * j + 1 : Nat) : Int) = J1 at *
        generalize ((2 * j : Nat) : Int) = J0 at *
        simp [m_folded_c1, i0, ec, i1, m1, m2]⟩)
    refine ⟨y2, y3, ?_⟩
    rw [List.map_cons, ep]
    refine Eq.trans (fl_nx (b := m_folded_l1) (ds1 := [some (rowD (2 * 2 ^ W.length) g), x1, some (.int z.1), some (.int z.2), none]) (ds' := [some (rowD (2 ^ W.length) fun j => z.2 * g (2 * j) + z.1 * g (2 * j + 1)), x1, some (.int z.1), some (.int z.2), none]) (h' := hp) hc (by simp) ?_) ih
    have er : (rowD (2 ^ W.length) fun j => z.2 * g (2 * j) + z.1 * g (2 * j + 1)) = .lst ((List.range' 0 (2 ^ W.length)).map fun j => .int (z.2 * g (2 * j) + z.1 * g (2 * j + 1))) := rfl
    rw [er]
    generalize ((List.range' 0 (2 ^ W.length)).map fun j => D.int (z.2 * g (2 * j) + z.1 * g (2 * j + 1))) = FD at *
    generalize ((List.range' 0 (2 ^ W.length)).map fun j => D.int ((2 * j : Nat) : Int)) = ID at *
    generalize rowD (2 * 2 ^ W.length) g = RD at *
    generalize ((2 * 2 ^ W.length : Nat) : Int) = NI at *
    simp [m_folded_l1, ln, e1, e2]
theorem folded_ref {W : List (Int × Int)} (g : Nat → Int) (hl : W.length ≤ 6) (hz : ∀ z ∈ W, (z.1.natAbs ≤ 100000 ∧ z.2.natAbs ≤ 100000)) {h : Hc} {i : Nat} (hi : h[i]? = some (.lst (tW W))) : callL m_folded [rowD (2 ^ W.length) g, .ref i] h = .ok (rowD 1 fun _ => foldW W g) h := by
  refine call_lastS (c := tW W) (by simp) (flat_tW W) hi ?_ (by simp)
  have hc : chkQ (.ref 0) (tW W) [.lst (tW W)] = true := chkQ_of (by simp)
  obtain ⟨y2, y3, e1⟩ := folded_loopS (some (.ref 0)) (hp := [.lst (tW W)]) (chk := chkQ (.ref 0) (tW W)) hc W g none none hl hz
  have et : (W.map fun z => D.tup [.int z.1, .int z.2]) = tW W := rfl
  rw [et] at e1
  unfold m_folded
  rw [runB_s]
  generalize (rowD 1 fun _ => foldW W g) = R1 at *
  generalize rowD (2 ^ W.length) g = RD at *
  generalize tW W = WD at *
  simp [e1]
theorem weighed_ref {T : Nat} {W : List (Int × Int)} (hl : W.length ≤ 6) (hz : ∀ z ∈ W, (z.1.natAbs ≤ 100000 ∧ z.2.natAbs ≤ 100000)) {h : Hc} {i : Nat} (hi : h[i]? = some (.lst (tW W))) : callL m_weighed [.int (T : Nat), .ref i] h = .ok (.int (foldW W (bitI T))) h := by
  refine call_lastS (c := tW W) (by simp) (flat_tW W) hi ?_ (by simp)
  have e1 := fun h => bits_of_ok (T := T) hl h
  have e2 : callL m_folded [rowD (2 ^ W.length) (bitI T), .ref 0] [.lst (tW W)] = .ok (rowD 1 fun _ => foldW W (bitI T)) [.lst (tW W)] := folded_ref (bitI T) hl hz rfl
  have e3 := fun h => row_ix (n := 1) (fun _ => foldW W (bitI T)) (j := 0) (by decide) h
  have ln : lenF [.ref 0] [.lst (tW W)] = .ok (.int (W.length : Int)) [.lst (tW W)] := by
    have : (tW W).length = W.length := by unfold tW; rw [List.length_map]
    rw [← this]
    exact lenF_ref (h := [.lst (tW W)]) (n := 0) (xs := tW W) rfl
  have e3' : ∀ h, ixF (rowD 1 fun _ => foldW W (bitI T)) (.int 0) h = .ok (.int (foldW W (bitI T))) h := e3
  unfold m_weighed
  rw [runB_s]
  generalize (rowD 1 fun _ => foldW W (bitI T)) = R1 at *
  generalize rowD (2 ^ W.length) (bitI T) = RD at *
  generalize tW W = WD at *
  simp [ln, e1, e2, e3']
end Mp
/-! ShaC: means over sets of names. -/
namespace Mp
open PySem PySem.Spec PyProof.Rows L2
/-- the mean of G over the sets of names, each in by its own chance -/
def EX (u : Str → Rat) : List Str → (List Str → Rat) → Rat
  | [], G => G []
  | a :: r, G => EX u r fun s => (1 - u a) * G s + u a * G (a :: s)
theorem EX_ext (u : Str → Rat) : ∀ (L : List Str) (G G' : List Str → Rat), (∀ s, s.Sublist L → G s = G' s) → EX u L G = EX u L G'
  | [], G, G', h => h [] (List.Sublist.refl _)
  | a :: r, G, G', h => by
    unfold EX
    refine EX_ext u r _ _ fun s hs => ?_
    rw [h s (hs.cons _), h (a :: s) (hs.cons_cons _)]
theorem EX_u {u v : Str → Rat} : ∀ (L : List Str) (G : List Str → Rat), (∀ w ∈ L, u w = v w) → EX u L G = EX v L G
  | [], G, h => rfl
  | a :: r, G, h => by
    unfold EX
    rw [h a (by simp)]
    exact EX_u r _ fun w hw => h w (by simp [hw])
theorem EX_mul (u : Str → Rat) (c : Rat) : ∀ (L : List Str) (G : List Str → Rat), EX u L (fun s => c * G s) = c * EX u L G
  | [], G => rfl
  | a :: r, G => by
    unfold EX
    rw [← EX_mul u c r]
    refine EX_ext u r _ _ fun s _ => ?_
    grind
theorem setOf_even (a : Str) (r : List Str) (j : Nat) : setOf (a :: r) (2 * j) = setOf r j := by
  conv => lhs; unfold setOf
  rw [if_neg (by simp), show 2 * j / 2 = j by omega]
theorem setOf_odd (a : Str) (r : List Str) (j : Nat) : setOf (a :: r) (2 * j + 1) = a :: setOf r j := by
  conv => lhs; unfold setOf
  rw [if_pos (by simp), show (2 * j + 1) / 2 = j by omega]
theorem sQ_EX (u : Str → Rat) : ∀ (L : List Str) (G : List Str → Rat), sQ (L.map u) (fun m => G (setOf L m)) = EX u L G
  | [], G => rfl
  | a :: r, G => by
    rw [List.map_cons]
    unfold sQ EX
    rw [← sQ_EX u r]
    simp only [setOf_even, setOf_odd]
theorem EX_out (u v : Str → Rat) {n : Str} (hv : v n = 0) : ∀ (L : List Str) (G : List Str → Rat), L.Nodup → n ∈ L → (∀ w ∈ L, w ≠ n → v w = u w) → EX u L (fun s => if n ∈ s then 0 else G s) = (1 - u n) * EX v L G
  | [], G, _, h, _ => by cases h
  | a :: r, G, nd, h, hu => by
    obtain ⟨h1, h2⟩ := List.nodup_cons.mp nd
    unfold EX
    by_cases e : a = n
    · subst e
      rw [hv]
      have e1 : EX u r (fun s => (1 - u a) * (if a ∈ s then 0 else G s) + u a * (if a ∈ a :: s then 0 else G (a :: s))) = EX u r fun s => (1 - u a) * G s := EX_ext u r _ _ fun s hs => by
        rw [if_neg (fun z => h1 (hs.subset z)), if_pos (by simp)]; grind
      have e2 : EX v r (fun s => (1 - 0) * G s + 0 * G (a :: s)) = EX v r G := EX_ext v r _ _ fun s _ => by grind
      rw [e1, EX_mul, e2]
      congr 1
      exact EX_u r G fun w hw => (hu w (by simp [hw]) fun z => h1 (z ▸ hw)).symm
    · have ih := EX_out u v hv r (fun s => (1 - u a) * G s + u a * G (a :: s)) h2 ((List.mem_cons.mp h).resolve_left fun z => e z.symm) fun w hw => hu w (by simp [hw])
      rw [hu a (by simp) e, ← ih]
      refine EX_ext u r _ _ fun s _ => ?_
      have : n ∈ a :: s ↔ n ∈ s := by
        rw [List.mem_cons]
        exact ⟨fun z => z.resolve_left fun q => e q.symm, .inr⟩
      dsimp only
      by_cases hm : n ∈ s
      · rw [if_pos hm, if_pos (this.mpr hm), if_pos hm]; grind
      · rw [if_neg hm, if_neg (fun z => hm (this.mp z)), if_neg hm]
theorem EX_irr (u : Str → Rat) (p : Str → Bool) : ∀ (L : List Str) (G : List Str → Rat), (∀ s, G s = G (s.filter p)) → EX u L G = EX u (L.filter p) G
  | [], G, _ => rfl
  | a :: r, G, h => by
    by_cases hp : p a = true
    · rw [List.filter_cons_of_pos hp]
      unfold EX
      refine EX_irr u p r _ fun s => ?_
      have := h (a :: s)
      rw [List.filter_cons_of_pos hp] at this
      rw [h s, this]
    · rw [List.filter_cons_of_neg hp, ← EX_irr u p r G h]
      show EX u r _ = _
      refine EX_ext u r _ _ fun s _ => ?_
      have := h (a :: s)
      rw [List.filter_cons_of_neg hp, ← h s] at this
      rw [this]; grind
theorem EX_oth (u : Str → Rat) : ∀ (L : List Str) (H : List Str → Rat), L.Nodup → EX (fun w => 1 - u w) L (fun s => H (oth L s)) = EX u L H
  | [], H, _ => rfl
  | a :: r, H, nd => by
    obtain ⟨h1, h2⟩ := List.nodup_cons.mp nd
    have ih := EX_oth u r (fun t => (1 - u a) * H t + u a * H (a :: t)) h2
    show _ = EX u r _
    rw [← ih]
    show EX _ r _ = _
    refine EX_ext _ r _ _ fun s hs => ?_
    have na : a ∉ s := fun z => h1 (hs.subset z)
    have e1 : oth (a :: r) s = a :: oth r s := by
      unfold oth
      rw [List.filter_cons_of_pos (by simpa using na)]
    have e2 : oth (a :: r) (a :: s) = oth r s := by
      unfold oth
      rw [List.filter_cons_of_neg (by simp)]
      refine List.filter_congr fun w hw => ?_
      have : w ≠ a := fun z => h1 (z ▸ hw)
      simp [this]
    dsimp only
    rw [e1, e2]
    grind
theorem prior_brk {O : Odds} {bs : List Str} : ∀ (L : List Str) (m : Nat), (∀ k w, L[k]? = some w → (w ∈ bs ↔ m.testBit k = true)) → prior O bs L 1 = prQ (L.map fun w => 1 - oddQ O w) m
  | [], m, _ => rfl
  | w :: r, m, h => by
    unfold prior
    rw [prior_mul, prior_brk r (m / 2) fun k v hv => by rw [Nat.testBit_div_two]; exact h (k + 1) v (by simpa using hv), List.map_cons]
    conv => rhs; unfold prQ
    have h0 := h 0 w (by simp)
    unfold facQ
    by_cases hb : m.testBit 0 = true
    · rw [if_pos (h0.mpr hb), if_pos hb]; grind
    · rw [if_neg (fun z => hb (h0.mp z)), if_neg hb]; grind
/-- the sum, over the sets of broken names, of their priors -/
theorem sum_brk (O : Odds) {L : List Str} (nd : L.Nodup) (f : List Str → Bool) : sumR ((setsL [[]] L).map fun s => if f s then prior O s L 1 else 0) = EX (fun w => 1 - oddQ O w) L fun s => if f s then 1 else 0 := by
  rw [setsL_masks, List.map_map, ← sQ_EX, sQ_sum, List.length_map]
  congr 1
  refine List.map_congr_left fun m _ => ?_
  simp only [Function.comp]
  rw [prior_brk L m fun k w hk => by
    have h1 := wk_part nd hk m
    unfold wk at h1
    rw [← h1, decide_eq_true_iff]]
  split <;> grind
theorem pts_filter {ns : List Str} (nd : ns.Nodup) (hs : sortS ns = ns) {e : E} (sub : ∀ w ∈ pts e, w ∈ ns) : ns.filter (fun w => decide (w ∈ pts e)) = pts e := by
  have pw : ns.Pairwise fun a b => leS a b = true := by
    have := isort_pw tot_S ns
    rw [show isort leS ns = ns from hs] at this
    exact this
  have nu := nodup_uq (nmL e)
  refine isort_uniq tot_S ((List.perm_ext_iff_of_nodup (nd.filter _) nu).mpr fun w => ?_) (pw.filter _)
  rw [List.mem_filter, decide_eq_true_iff, mem_uq, mem_pts]
  exact ⟨fun z => z.2, fun z => ⟨sub w (mem_pts.mpr z), z⟩⟩
/-- of all names: what is broken has n in it, and e does not work with the others -/
theorem blame_sum (O : Odds) {ns : List Str} (nd : ns.Nodup) (hs : sortS ns = ns) {e : E} (o : EOk ns e) {n : Str} (hn : n ∈ ns) (hO : ∀ w ∈ ns, w ∈ O.map (·.1)) :
    sumR ((setsL [[]] ns).map fun s => if (decide (n ∈ s) && !wk (oth ns s) e) then prior O s ns 1 else 0) = (1 - oddQ O n) * chQ (setO O n 0) (pts e) (fun m => !wkT (pts e) e m) := by
  have sub : ∀ w ∈ pts e, w ∈ ns := fun w hw => nm_sub (dp e) e (Nat.le_refl _) o w (mem_pts.mp hw)
  have oe : EOk (pts e) e := by
    have go : ∀ (k : Nat) (x : E), Mp.dp x ≤ k → EOk ns x → (∀ w ∈ nmL x, w ∈ pts e) → EOk (pts e) x := by
      intro k
      induction k with
      | zero => intro x hd; have := dp_pos x; omega
      | succ k ih =>
        intro x hd o hs
        cases x with
        | part w => unfold EOk; exact hs w (by simp [nmL])
        | node c es =>
          obtain ⟨h8, hc, hx⟩ := EOk_node.mp o
          exact EOk_node.mpr ⟨h8, hc, fun y hy => ih y (by have := dp_mem (c := c) hy; omega) (hx y hy) fun w hw => hs w (mem_node.mpr ⟨y, hy, hw⟩)⟩
    exact go _ e (Nat.le_refl _) o fun w hw => mem_pts.mpr hw
  rw [sum_brk O nd]
  have e1 : EX (fun w => 1 - oddQ O w) ns (fun s => if (decide (n ∈ s) && !wk (oth ns s) e) = true then 1 else 0) = EX (fun w => 1 - oddQ O w) ns (fun s => (fun t => if n ∈ t then (0 : Rat) else if (!wk t e) = true then 1 else 0) (oth ns s)) := EX_ext _ ns _ _ fun s hs => by
    have : n ∈ oth ns s ↔ n ∉ s := by
      unfold oth
      rw [List.mem_filter, decide_eq_true_iff]
      exact ⟨fun z => z.2, fun z => ⟨hn, z⟩⟩
    by_cases hm : n ∈ s
    · simp [hm, this]
    · simp [hm, this]
  rw [e1, EX_oth (oddQ O) ns (fun t => if n ∈ t then (0 : Rat) else if (!wk t e) = true then 1 else 0) nd, EX_out (oddQ O) (oddQ (setO O n 0)) (n := n) (by rw [setO_odd n 0 (hO n hn), if_pos rfl]) ns _ nd hn (fun w hw hne => by rw [setO_odd n 0 (hO w hw), if_neg hne])]
  congr 1
  rw [EX_irr _ (fun w => decide (w ∈ pts e)) ns (fun t => if (!wk t e) = true then (1 : Rat) else 0) (fun s => by
    have : wk s e = wk (s.filter fun w => decide (w ∈ pts e)) e := wk_congr (ns := pts e) (fun w hw => by simp [List.mem_filter, hw]) (dp e) e (Nat.le_refl _) oe
    rw [← this]), pts_filter nd hs sub, ← sQ_EX]
  rfl
end Mp
/-! EqInt: == of lists of numbers and of fractions. -/
namespace Mp
open PySem PySem.Spec PyProof.Rows L2
theorem toPyL_ints : ∀ a : List Int, toPyL (a.map D.int) = some (a.map PyData.int)
  | [] => rfl
  | x :: r => by
    rw [List.map_cons, List.map_cons]
    unfold toPyL
    rw [toPyL_ints r]
    simp [toPy]
theorem eqv_ints : ∀ a b : List Int, PyData.eqvAll (a.map PyData.int) (b.map PyData.int) = decide (a = b)
  | [], [] => by simp [PyData.eqvAll]
  | [], _ :: _ => by simp [PyData.eqvAll]
  | _ :: _, [] => by simp [PyData.eqvAll]
  | x :: r, y :: t => by
    rw [List.map_cons, List.map_cons, PyData.eqvAll, eqv_ints r t]
    by_cases h : x = y
    · by_cases g : r = t
      · simp [PyData.eqv, h, g]
      · simp [PyData.eqv, h, g]
    · simp [PyData.eqv, h]
theorem lay_ints : ∀ a : List Int, PyData.canLayAll0 (a.map PyData.int) = true ∧ PyData.depthAll (a.map PyData.int) = 0
  | [] => by simp [PyData.canLayAll0, PyData.depthAll]
  | x :: r => by
    obtain ⟨h1, h2⟩ := lay_ints r
    simp [PyData.canLayAll0, PyData.canLay0, PyData.depthAll, PyData.depth, h1, h2]
theorem eqG_tups (neg : Bool) (a b : List Int) (h : Hc) : eqG neg (.tup (a.map D.int)) (.tup (b.map D.int)) h = .ok (.bl (if neg then !decide (a = b) else decide (a = b))) h := by
  have sh : ∀ a : List Int, SeqAt.shaped (.tuple (a.map PyData.int)) = true := fun a => by
    obtain ⟨h1, h2⟩ := lay_ints a
    unfold SeqAt.shaped
    simp [PyData.canLay0, PyData.depth, h1, h2]
  have e : ∀ a : List Int, toPyR h (.tup (a.map D.int)) = some (.tuple (a.map PyData.int)) := fun a => by
    show toPy (.tup (a.map D.int)) = _
    unfold toPy
    rw [toPyL_ints]
    rfl
  show (match toPyR h (.tup (a.map D.int)), toPyR h (.tup (b.map D.int)) with
    | some a, some b => if SeqAt.shaped a = true ∧ SeqAt.shaped b = true then R.ok (D.bl (if neg = true then !PyData.eqv a b else PyData.eqv a b)) h else .bad
    | _, _ => .bad) = _
  rw [e a, e b]
  simp only
  rw [if_pos ⟨sh a, sh b⟩]
  have : PyData.eqv (.tuple (a.map PyData.int)) (.tuple (b.map PyData.int)) = decide (a = b) := by
    rw [PyData.eqv, eqv_ints]
  rw [this]
theorem eqG_q (neg : Bool) (p q : Rat) (h : Hc) : eqG neg (qD p) (qD q) h = .ok (.bl (if neg then !decide (p = q) else decide (p = q))) h := by
  have e := eqG_tups neg [p.num, (p.den : Int)] [q.num, (q.den : Int)] h
  have : ([p.num, (p.den : Int)] = [q.num, (q.den : Int)]) ↔ p = q := by
    constructor
    · intro z
      injection z with z1 z2
      injection z2 with z2
      exact Rat.ext z1 (by omega)
    · intro z
      rw [z]
  simp only [this] at e
  exact e
end Mp
namespace Mp
open PySem PySem.Spec PyProof.Rows L2
@[simp] theorem eIx_s (f : D → List D → Hc → R D) (m : SE) (as : SA) (ds : Sl) (h : Hc) : eIx f m as ds h = (m ds h).bd fun x h1 => if isNm x = true then (as ds h1).bd fun xs h2 => f x xs h2 else .bad := Eq.trans rfl rfl
@[simp] theorem eCallG_s21 (m : Fn) (as : SA) (ds : Sl) (h : Hc) : eCallG m as ds h = (as ds h).bd fun xs h1 => m xs h1 := Eq.trans rfl rfl
theorem qs_oneS : qs 1 (1 : Rat) := qs_int (i := 1) (k := 1) (by decide) (by decide)
section
variable {O : Odds}
theorem odd_loop21 (x0 : Option D) (w : Str) (h : Hc) : ∀ (R : Odds) (x2 : Option D), w ∈ R.map (·.1) → fl (fun _ => true) (.n 2) m_law_odd_l1 (R.map fun z => .tup [.str z.1, qD z.2]) [x0, some (.str w), x2] h = .rt (qD (oddQ R w)) h
  | [], x2, hw => by simp at hw
  | z :: R, x2, hw => by
    rw [List.map_cons]
    by_cases q : z.1 = w
    · subst q
      have : oddQ (z :: R) z.1 = z.2 := by unfold oddQ; rw [if_pos rfl]
      rw [this]
      refine fl_rt rfl (bindP_n ..) ?_
      generalize qD z.2 = Q
      simp [m_law_odd_l1]
    · have : oddQ (z :: R) w = oddQ R w := by conv => lhs; unfold oddQ; rw [if_neg q]
      rw [this]
      have hw' : w ∈ R.map (·.1) := by
        rcases List.mem_cons.mp hw with e | e
        · exact absurd e.symm q
        · exact e
      refine Eq.trans (fl_n (b := m_law_odd_l1) ?_) (odd_loop21 x0 w h R (some (.tup [.str z.1, qD z.2])) hw')
      generalize qD z.2 = Q
      simp [m_law_odd_l1, q]
theorem law_odd_ok {w : Str} (hw : w ∈ O.map (·.1)) (h : Hc) : callL m_law_odd [oD false O, .str w] h = .ok (qD (oddQ O w)) h := by
  have e1 := odd_loop21 (some (oD false O)) w [] O none hw
  have e8 : ∀ h, seqD h (oD false O) = some (O.map fun z => .tup [.str z.1, qD z.2]) := fun h => rfl
  have e9 : chkQ (oD false O) (O.map fun z => .tup [.str z.1, qD z.2]) = fun _ => true := chkQ_sqs false _
  refine call_flat (h' := []) (by simp) ?_ (by simp) h
  unfold m_law_odd
  rw [runB_s]
  generalize qD (oddQ O w) = Q at *
  generalize O.map (fun z => D.tup [.str z.1, qD z.2]) = OL at *
  generalize oD false O = OD at *
  simp [e8, e9, e1]
theorem law_not_ok {q : Rat} (hq : qs 3000 q) (h : Hc) : callL m_law_not [qD q] h = .ok (qD (1 - q)) h := by
  have e1 := fun h => law_sub_q (p := 1) (q := q) (qs_le (by decide) qs_oneS) (qs_le (by decide) hq) h
  have e0 : qD (1 : Rat) = .tup [.int 1, .int 1] := qD_int 1
  rw [e0] at e1
  refine call_flat (h' := []) (by simp) ?_ (by simp) h
  unfold m_law_not
  rw [runB_s]
  generalize qD (1 - q) = R at *
  generalize qD q = Q at *
  simp [e1]
end
/-! ### sums of weights with one weight gone -/
theorem foldW_mul (k : Int) : ∀ (W : List (Int × Int)) (g : Nat → Int), foldW W (fun m => k * g m) = k * foldW W g
  | [], g => rfl
  | z :: W, g => by
    unfold foldW
    rw [← foldW_mul k W]
    congr 1
    funext j
    rw [Int.mul_add, Int.mul_left_comm, Int.mul_left_comm z.1]
theorem foldW_gone (k : Int) : ∀ (A B : List (Int × Int)) (g : Nat → Int), foldW (A ++ (0, k) :: B) g = k * foldW (A ++ (0, 1) :: B) g
  | [], B, g => by
    show foldW B _ = k * foldW B _
    rw [← foldW_mul]
    congr 1
    funext j
    show k * g (2 * j) + 0 * g (2 * j + 1) = k * (1 * g (2 * j) + 0 * g (2 * j + 1))
    rw [Int.zero_mul, Int.add_zero, Int.one_mul, Int.add_zero]
  | z :: A, B, g => by
    show foldW (A ++ (0, k) :: B) _ = k * foldW (A ++ (0, 1) :: B) _
    exact foldW_gone k A B _
theorem chQ_not (O : Odds) (L : List Str) (f : Nat → Bool) : chQ O L (fun m => !f m) = 1 - chQ O L f := by
  unfold chQ
  have e1 := sQ_sub (L.map (oddQ O)) (fun _ => 1) (fun m => if f m then 1 else 0)
  rw [sQ_const] at e1
  rw [← e1]
  congr 1
  funext m
  cases hf : f m
  · simp only [hf, Bool.not_false, if_true]
    rw [if_neg (by decide)]; grind
  · simp only [hf, Bool.not_true, if_true]
    rw [if_neg (by decide)]; grind
/-- the sum of the weights lies between 0 and their bottom -/
theorem fold_b {O : Odds} (K : OOk O) {L : List Str} (hl : ∀ w ∈ L, w ∈ O.map (·.1)) {T : Nat} {f : Nat → Bool} (t : Tb L.length T f) : 0 ≤ foldW (L.map fun w => wtQ (oddQ O w)) (bitI T) ∧ foldW (L.map fun w => wtQ (oddQ O w)) (bitI T) ≤ denP (L.map (oddQ O)) := by
  have hp := pr01S K hl
  have c0 : 0 ≤ chQ O L f := sQ_nn hp fun m => by split <;> decide
  have c1 : chQ O L f ≤ 1 := by
    have := sQ_le (L.map (oddQ O)) (fun m => if f m then 1 else 0) (fun _ => 1) hp fun m => by split <;> decide
    rw [sQ_const] at this
    exact this
  have e := weigh_chQ K t
  have dp := denP_pos (L.map (oddQ O))
  generalize hD : denP (L.map (oddQ O)) = d at *
  generalize foldW (L.map fun w => wtQ (oddQ O w)) (bitI T) = n at *
  have q2 : ((d : Int) : Rat) ≠ 0 := by
    intro z
    have : d = 0 := by exact_mod_cast z
    omega
  have en : (n : Rat) = chQ O L f * (d : Rat) := by
    rw [← e, Rat.div_def]
    have h1 : (d : Rat) * (d : Rat)⁻¹ = 1 := Rat.mul_inv_cancel _ q2
    grind
  have dq : (0 : Rat) ≤ (d : Rat) := by exact_mod_cast Int.le_of_lt dp
  have n0 : (0 : Rat) ≤ (n : Rat) := by rw [en]; exact Rat.mul_nonneg c0 dq
  have n1 : (n : Rat) ≤ (d : Rat) := by
    have : 0 ≤ (1 - chQ O L f) * (d : Rat) := Rat.mul_nonneg (by grind) dq
    rw [en]
    grind
  exact ⟨by exact_mod_cast n0, by exact_mod_cast n1⟩
theorem weights_cell {O : Odds} {L : List Str} (hL : L.length ≤ 1000) (hl : ∀ w ∈ L, w ∈ O.map (·.1)) (h : Hc) : m_weights_of_2 [.tup (L.map D.str), knD O] h = .ok (.ref h.length) (h ++ [.lst (tW (L.map fun w => wtQ (oddQ O w)))]) := by
  have e1 := lcR_mm (chk := fun _ => true) (p := .n 2) (own := [2]) (m := m_weights_of_2_c1) (ds := [some (.tup (L.map D.str)), some (knD O), none]) (h := h) D.str (fun w => .tup [.int (wtQ (oddQ O w)).1, .int (wtQ (oddQ O w)).2]) rfl L (by omega)
    (fun w hw => ⟨_, bindP_n .., by
      have dg := fun h => dg_kn (hl w hw) h
      generalize knD O = KD at *
      simp [m_weights_of_2_c1, dg, qD, wtQ]⟩)
  have em : (L.map fun w => D.tup [.int (wtQ (oddQ O w)).1, .int (wtQ (oddQ O w)).2]) = tW (L.map fun w => wtQ (oddQ O w)) := by unfold tW; rw [List.map_map]; rfl
  rw [em] at e1
  unfold m_weights_of_2
  rw [runB_s]
  generalize L.map D.str = LD at *
  generalize knD O = KD at *
  generalize tW (L.map fun w => wtQ (oddQ O w)) = WD at *
  simp [e1]
section
variable {O : Odds} (K : OOk O) (b c : Bool) {ns : List Str} {e : E} (S : SOk ns e) (h6 : (pts e).length ≤ 6) {n : Str} (hn : Nm n) (hl : ∀ w ∈ pts e, w ∈ O.map (·.1)) (hw : n ∈ O.map (·.1))
include K S h6 hn hl hw
/-- what both ends of blame have in common -/
theorem blame_pre : ∃ F : Nat, Tb (pts e).length F (fun m => !wkT (pts e) e m) ∧ F = (tb (pts e).length (wkT (pts e) e)) ^^^ evN (pts e).length ∧
    (((foldW ((pts e).map fun w => wtQ (oddQ O w)) (bitI F) : Int) : Rat) / ((denP ((pts e).map (oddQ O)) : Int) : Rat) = chQ O (pts e) fun m => !wkT (pts e) e m) ∧
    (∀ h : Hc, callL m_table [eD b e, .tup ((pts e).map D.str)] h = .ok (.int (tb (pts e).length (wkT (pts e) e) : Nat)) h) ∧ (∀ h : Hc, callL m_everywhere [.int ((pts e).length : Int)] h = .ok (.int (evN (pts e).length : Nat)) h) ∧
    (∀ h : Hc, bxorF (.int (tb (pts e).length (wkT (pts e) e) : Nat)) (.int (evN (pts e).length : Nat)) h = .ok (.int (F : Nat)) h) := by
  have oe := EOk_pts S
  obtain ⟨t, _⟩ := joined_ok (nodup_pts e) h6 b 24 e (by have := S.dp; omega) oe
  refine ⟨_, t.not, rfl, weigh_chQ K t.not, fun h => table_ok b false (nodup_pts e) h6 (by have := S.dp; omega) oe h, fun h => everywhere_ok h6 h, fun h => ?_⟩
  show R.ok (D.int (Builtin.bitXor _ _)) h = _
  rw [bxor_n]
theorem blame_none (h0 : chQ O (pts e) (fun m => !wkT (pts e) e m) = 0) (h : Hc) : callL m_blame [eD b e, oD c O, .str n] h = .ex "NoChance" ["word"] [.str "down"] h := by
  obtain ⟨F, t, hF, q, e2, e3, e4⟩ := blame_pre K b S h6 hn hl hw
  have e1 := fun h => namedS_ok K b c S hn hl hw h
  have dp := denP_pos ((pts e).map (oddQ O))
  have z : foldW ((pts e).map fun w => wtQ (oddQ O w)) (bitI F) = 0 := by
    rw [h0] at q
    have d0 : ((denP ((pts e).map (oddQ O)) : Int) : Rat) ≠ 0 := by
      intro z
      have : denP ((pts e).map (oddQ O)) = 0 := by exact_mod_cast z
      omega
    have : ((foldW ((pts e).map fun w => wtQ (oddQ O w)) (bitI F) : Int) : Rat) = 0 := by
      rw [Rat.div_def] at q
      have h1 : ((denP ((pts e).map (oddQ O)) : Int) : Rat) * ((denP ((pts e).map (oddQ O)) : Int) : Rat)⁻¹ = 1 := Rat.mul_inv_cancel _ d0
      grind
    exact_mod_cast this
  have e5 := fun h => weights_cell (O := O) (L := pts e) (by omega) hl h
  have e6 : ∀ {h : Hc}, h[0]? = some (.lst (tW ((pts e).map fun w => wtQ (oddQ O w)))) → callL m_weighed [.int (F : Nat), .ref 0] h = .ok (.int (foldW ((pts e).map fun w => wtQ (oddQ O w)) (bitI F))) h := fun hi => weighed_ref (T := F) (by simpa using h6) (wt_b K hl).1 hi
  rw [z] at e6
  have ln : ∀ h, lenF [.tup ((pts e).map D.str)] h = .ok (.int ((pts e).length : Int)) h := fun h => by simp
  refine call_xe (h' := [.lst (tW ((pts e).map fun w => wtQ (oddQ O w)))]) (by simp) ?_ (by simp) h
  unfold m_blame
  rw [runB_s]
  generalize (pts e).map D.str = PD at *
  generalize knD O = KD at *
  generalize tW ((pts e).map fun w => wtQ (oddQ O w)) = WD at *
  generalize ((pts e).length : Int) = N at *
  generalize ((tb (pts e).length (wkT (pts e) e) : Nat) : Int) = TT at *
  generalize ((evN (pts e).length : Nat) : Int) = EV at *
  generalize ((F : Nat) : Int) = FF at *
  simp [e1, e2, e3, e4, e5, e6, ln]
theorem blame_ok (h0 : chQ O (pts e) (fun m => !wkT (pts e) e m) ≠ 0) (h : Hc) : callL m_blame [eD b e, oD c O, .str n] h = .ok (qD ((1 - oddQ O n) * chQ (setO O n 0) (pts e) (fun m => !wkT (pts e) e m) / chQ O (pts e) (fun m => !wkT (pts e) e m))) h := by
  obtain ⟨F, t, hF, q, e2, e3, e4⟩ := blame_pre K b S h6 hn hl hw
  have e1 := fun h => namedS_ok K b c S hn hl hw h
  have dp := denP_pos ((pts e).map (oddQ O))
  have db := den_b K hl (by omega)
  have fb := fold_b K hl t
  have h16 : (16 : Int) ^ (pts e).length ≤ 16 ^ 6 := by
    have a1 : (16 : Nat) ^ (pts e).length ≤ 16 ^ 6 := Nat.pow_le_pow_right (by decide) h6
    exact_mod_cast a1
  have h2 : (16 : Int) ^ 6 = 16777216 := by decide
  have h60 : (2 : Nat) ^ 60 = 1152921504606846976 := by decide
  have d0 : ((denP ((pts e).map (oddQ O)) : Int) : Rat) ≠ 0 := by
    intro z
    have : denP ((pts e).map (oddQ O)) = 0 := by exact_mod_cast z
    omega
  have z : foldW ((pts e).map fun w => wtQ (oddQ O w)) (bitI F) ≠ 0 := by
    intro z
    rw [z] at q
    apply h0
    rw [← q]
    show ((0 : Int) : Rat) / _ = 0
    rw [Rat.div_def]
    grind
  have e5 := fun h => weights_cell (O := O) (L := pts e) (by omega) hl h
  have e6 : ∀ {h : Hc}, h[0]? = some (.lst (tW ((pts e).map fun w => wtQ (oddQ O w)))) → callL m_weighed [.int (F : Nat), .ref 0] h = .ok (.int (foldW ((pts e).map fun w => wtQ (oddQ O w)) (bitI F))) h := fun hi => weighed_ref (T := F) (by simpa using h6) (wt_b K hl).1 hi
  have ln : ∀ h, lenF [.tup ((pts e).map D.str)] h = .ok (.int ((pts e).length : Int)) h := fun h => by simp
  have in0 := fun h => inG_strs true n (U := .tup ((pts e).map D.str)) (us := pts e) (h := h) rfl
  obtain ⟨o1, o2, o3⟩ := odd_b K hw
  have hden : ((oddQ O n).den : Int) > 0 := by have := (oddQ O n).den_pos; omega
  have hq1 : 1 - oddQ O n = (((((oddQ O n).den : Int) - (oddQ O n).num : Int)) : Rat) / (((oddQ O n).den : Int) : Rat) := by
    have q2 := q_self (oddQ O n)
    have q1 := den_ne (oddQ O n)
    rw [Rat.intCast_sub]
    generalize (((oddQ O n).den : Int) : Rat) = d at *
    generalize ((oddQ O n).num : Rat) = nn at *
    rw [q2, Rat.div_def, Rat.div_def]
    have h1 : d * d⁻¹ = 1 := Rat.mul_inv_cancel _ q1
    grind
  by_cases hin : n ∈ pts e
  · obtain ⟨A, B, eL, hA, hB⟩ := split_at (nodup_pts e) hin
    have hl' : ∀ w ∈ A ++ n :: B, w ∈ O.map (·.1) := by rw [← eL]; exact hl
    have K0 := setO_ok K n (v := 0) (by decide)
    have l0 : ∀ w ∈ pts e, w ∈ (setO O n 0).map (·.1) := by rw [setO_keys]; exact hl
    have q0 := weigh_chQ K0 (L := pts e) t
    have fb0 := fold_b K0 l0 t
    have m0 : ((pts e).map fun w => wtQ (oddQ (setO O n 0) w)) = (A.map fun w => wtQ (oddQ O w)) ++ (0, 1) :: B.map fun w => wtQ (oddQ O w) := by rw [eL, setO_map hA hB hl' wtQ, wt_zero]
    have m1 : ((pts e).map fun w => wtQ (oddQ O w)) = (A.map fun w => wtQ (oddQ O w)) ++ wtQ (oddQ O n) :: B.map fun w => wtQ (oddQ O w) := by rw [eL]; simp
    have dd0 : denP ((pts e).map (oddQ (setO O n 0))) = denP (A.map (oddQ O)) * denP (B.map (oddQ O)) := by
      rw [eL, setO_map hA hB hl' (fun q => q), denP_app, denP_cons]; simp
    have dd : denP ((pts e).map (oddQ O)) = denP (A.map (oddQ O)) * denP (B.map (oddQ O)) * ((oddQ O n).den : Int) := by
      rw [eL, List.map_append, List.map_cons, denP_app, denP_cons, Int.mul_comm ((oddQ O n).den : Int), Int.mul_assoc]
    have pP : 0 < denP (A.map (oddQ O)) * denP (B.map (oddQ O)) := Int.mul_pos (denP_pos _) (denP_pos _)
    -- the weights with one gone
    have lW : (A.map (fun w => wtQ (oddQ O w)) ++ (0, ((oddQ O n).den : Int) - (oddQ O n).num) :: B.map fun w => wtQ (oddQ O w)).length ≤ 6 := by
      have := congrArg List.length m1
      simp only [List.length_append, List.length_cons, List.length_map] at this ⊢
      omega
    have bW : ∀ z ∈ (A.map (fun w => wtQ (oddQ O w)) ++ (0, ((oddQ O n).den : Int) - (oddQ O n).num) :: B.map fun w => wtQ (oddQ O w)), z.1.natAbs ≤ 100000 ∧ z.2.natAbs ≤ 100000 := fun z hz => by
      rcases List.mem_append.mp hz with hz | hz
      · exact (wt_b K hl).1 z (by rw [m1]; simp [hz])
      · rcases List.mem_cons.mp hz with rfl | hz
        · exact ⟨by show (0 : Int).natAbs ≤ 100000; decide, by show (((oddQ O n).den : Int) - (oddQ O n).num).natAbs ≤ 100000; omega⟩
        · exact (wt_b K hl).1 z (by rw [m1]; simp [hz])
    have e7 : ∀ {h : Hc}, h[0]? = some (.lst (tW (A.map (fun w => wtQ (oddQ O w)) ++ (0, ((oddQ O n).den : Int) - (oddQ O n).num) :: B.map fun w => wtQ (oddQ O w)))) → callL m_weighed [.int (F : Nat), .ref 0] h = .ok (.int (foldW (A.map (fun w => wtQ (oddQ O w)) ++ (0, ((oddQ O n).den : Int) - (oddQ O n).num) :: B.map fun w => wtQ (oddQ O w)) (bitI F))) h := fun hi => weighed_ref (T := F) lW bW hi
    rw [foldW_gone, ← m0] at e7
    have e8 := fun h => lowest_ok (n := (((oddQ O n).den : Int) - (oddQ O n).num) * foldW ((pts e).map fun w => wtQ (oddQ (setO O n 0) w)) (bitI F)) (d := foldW ((pts e).map fun w => wtQ (oddQ O w)) (bitI F)) z (small8000 (by omega)) h
    have ev : (((((oddQ O n).den : Int) - (oddQ O n).num) * foldW ((pts e).map fun w => wtQ (oddQ (setO O n 0) w)) (bitI F) : Int) : Rat) / ((foldW ((pts e).map fun w => wtQ (oddQ O w)) (bitI F) : Int) : Rat) = (1 - oddQ O n) * chQ (setO O n 0) (pts e) (fun m => !wkT (pts e) e m) / chQ O (pts e) (fun m => !wkT (pts e) e m) := by
      rw [← q, ← q0, hq1, dd0, dd, Rat.intCast_mul, Rat.intCast_mul (denP _ * denP _)]
      have n1 : (((denP (A.map (oddQ O)) * denP (B.map (oddQ O))) : Int) : Rat) ≠ 0 := by
        intro z
        have : denP (A.map (oddQ O)) * denP (B.map (oddQ O)) = 0 := by exact_mod_cast z
        omega
      have n2 : (((oddQ O n).den : Int) : Rat) ≠ 0 := by
        intro z
        have : ((oddQ O n).den : Int) = 0 := by exact_mod_cast z
        omega
      have n3 : ((foldW ((pts e).map fun w => wtQ (oddQ O w)) (bitI F) : Int) : Rat) ≠ 0 := by
        intro z'
        exact z (by exact_mod_cast z')
      generalize (((denP (A.map (oddQ O)) * denP (B.map (oddQ O))) : Int) : Rat) = p at *
      generalize (((oddQ O n).den : Int) : Rat) = d at *
      generalize ((foldW ((pts e).map fun w => wtQ (oddQ O w)) (bitI F) : Int) : Rat) = f at *
      generalize ((foldW ((pts e).map fun w => wtQ (oddQ (setO O n 0) w)) (bitI F) : Int) : Rat) = g at *
      generalize ((((oddQ O n).den : Int) - (oddQ O n).num : Int) : Rat) = k at *
      grind
    rw [rdc_q _ z, ev] at e8
    have ix : ∀ h, ixtF (.tup ((pts e).map D.str)) [.str n] h = .ok (.int (A.length : Nat)) h := fun h => by
      unfold ixtF
      simp only [txsD_map, eL, ixS_at hA]
    have nm : isNm (.tup ((pts e).map D.str)) = true := by
      rw [eL]; cases A <;> rfl
    have i1 : ∀ {h : Hc}, h[0]? = some (.lst (tW ((pts e).map fun w => wtQ (oddQ O w)))) → ixF (.ref 0) (.int (A.length : Nat)) h = .ok (.tup [.int (oddQ O n).num, .int (((oddQ O n).den : Int) - (oddQ O n).num)]) h := fun {h} hi => by
      have : (tW ((pts e).map fun w => wtQ (oddQ O w)))[A.length]? = some (.tup [.int (oddQ O n).num, .int (((oddQ O n).den : Int) - (oddQ O n).num)]) := by
        rw [m1]
        unfold tW
        rw [List.map_append, List.getElem?_append_right (by simp)]
        simp [wtQ]
      have hlt := (List.getElem?_eq_some_iff.mp this).1
      simp [ixF, hi, atI_nat' hlt, this]
    have p1 : ∀ {h : Hc}, h[0]? = some (.lst (tW ((pts e).map fun w => wtQ (oddQ O w)))) → setF (.ref 0) (.int (A.length : Nat)) (.tup [.int 0, .int (((oddQ O n).den : Int) - (oddQ O n).num)]) h = some (h.set 0 (.lst (tW (A.map (fun w => wtQ (oddQ O w)) ++ (0, ((oddQ O n).den : Int) - (oddQ O n).num) :: B.map fun w => wtQ (oddQ O w))))) := fun {h} hi => by
      have hs : (tW ((pts e).map fun w => wtQ (oddQ O w))).set A.length (.tup [.int 0, .int (((oddQ O n).den : Int) - (oddQ O n).num)]) = tW (A.map (fun w => wtQ (oddQ O w)) ++ (0, ((oddQ O n).den : Int) - (oddQ O n).num) :: B.map fun w => wtQ (oddQ O w)) := by
        rw [m1]
        unfold tW
        rw [List.map_append, List.map_append, List.set_append_right _ _ (by simp)]
        simp
      have hlt : A.length < (tW ((pts e).map fun w => wtQ (oddQ O w))).length := by
        rw [m1]
        unfold tW
        simp
      have hx : ixN (tW ((pts e).map fun w => wtQ (oddQ O w))).length (A.length : Int) = some A.length := by unfold ixN; rw [if_pos (by omega), if_pos (by omega), Int.toNat_natCast]
      rw [← hs]
      unfold setF
      simp only [hi, hx, Option.map_some]
    refine call_flat (h' := [.lst (tW (A.map (fun w => wtQ (oddQ O w)) ++ (0, ((oddQ O n).den : Int) - (oddQ O n).num) :: B.map fun w => wtQ (oddQ O w)))]) (by simp) ?_ (by simp) h
    unfold m_blame
    rw [runB_s]
    simp only [hin, decide_true, Bool.not_true, if_true] at in0
    clear ev q q0 hq1 m0 m1 dd dd0
    generalize qD ((1 - oddQ O n) * chQ (setO O n 0) (pts e) (fun m => !wkT (pts e) e m) / chQ O (pts e) (fun m => !wkT (pts e) e m)) = RS at *
    generalize tW (A.map (fun w => wtQ (oddQ O w)) ++ (0, ((oddQ O n).den : Int) - (oddQ O n).num) :: B.map fun w => wtQ (oddQ O w)) = W2 at *
    generalize tW ((pts e).map fun w => wtQ (oddQ O w)) = WD at *
    generalize foldW ((pts e).map fun w => wtQ (oddQ O w)) (bitI F) = FW at *
    generalize foldW ((pts e).map fun w => wtQ (oddQ (setO O n 0) w)) (bitI F) = FW0 at *
    generalize ((oddQ O n).den : Int) - (oddQ O n).num = DN at *
    generalize (oddQ O n).num = NN at *
    generalize hPD : (pts e).map D.str = PD at *
    generalize knD O = KD at *
    generalize ((pts e).length : Int) = N at *
    generalize ((tb (pts e).length (wkT (pts e) e) : Nat) : Int) = TT at *
    generalize ((evN (pts e).length : Nat) : Int) = EV at *
    generalize ((F : Nat) : Int) = FF at *
    generalize ((A.length : Nat) : Int) = AL at *
    simp [e1, e2, e3, e4, e5, e6, ln, in0, z, nm, ix, i1, p1, e7, e8]
  · have q1 : qD (oddQ O n) = .tup [.int (oddQ O n).num, .int ((oddQ O n).den : Int)] := rfl
    have dg := fun h => dg_kn hw h
    rw [q1] at dg
    have e8 := fun h => lowest_ok (n := ((oddQ O n).den : Int) - (oddQ O n).num) (d := ((oddQ O n).den : Int)) (by omega) (small8000 (by omega)) h
    rw [rdc_q _ (by omega), ← hq1] at e8
    have ev : (1 - oddQ O n) * chQ (setO O n 0) (pts e) (fun m => !wkT (pts e) e m) / chQ O (pts e) (fun m => !wkT (pts e) e m) = 1 - oddQ O n := by
      rw [setO_off hin hl, Rat.div_def]
      generalize chQ O (pts e) (fun m => !wkT (pts e) e m) = cc at *
      have h1 : cc * cc⁻¹ = 1 := Rat.mul_inv_cancel _ h0
      grind
    rw [ev]
    refine call_flat (h' := [.lst (tW ((pts e).map fun w => wtQ (oddQ O w)))]) (by simp) ?_ (by simp) h
    unfold m_blame
    rw [runB_s]
    simp only [hin, decide_false, Bool.not_false, if_true] at in0
    clear ev q hq1
    generalize qD (1 - oddQ O n) = RS at *
    generalize tW ((pts e).map fun w => wtQ (oddQ O w)) = WD at *
    generalize foldW ((pts e).map fun w => wtQ (oddQ O w)) (bitI F) = FW at *
    generalize ((oddQ O n).den : Int) = DN at *
    generalize (oddQ O n).num = NN at *
    generalize hPD : (pts e).map D.str = PD at *
    generalize knD O = KD at *
    generalize ((pts e).length : Int) = N at *
    generalize ((tb (pts e).length (wkT (pts e) e) : Nat) : Int) = TT at *
    generalize ((evN (pts e).length : Nat) : Int) = EV at *
    generalize ((F : Nat) : Int) = FF at *
    simp [e1, e2, e3, e4, e5, e6, ln, in0, z, dg, e8]
end
/-- the law's sum -/
def bS (O : Odds) (L : List Str) (f : List Str → Bool) : List (List Str) → Rat → Rat
  | [], a => a
  | s :: r, a => bS O L f r (if f s then a + prior O s L 1 else a)
theorem bS_sum (O : Odds) (L : List Str) (f : List Str → Bool) : ∀ (S : List (List Str)) (a : Rat), bS O L f S a = a + sumR (S.map fun s => if f s then prior O s L 1 else 0)
  | [], a => by rw [List.map_nil, sumR_nil]; unfold bS; grind
  | s :: r, a => by
    unfold bS
    rw [bS_sum O L f r, List.map_cons, sumR_cons]
    by_cases h : f s = true
    · rw [if_pos h, if_pos h]; grind
    · rw [if_neg h, if_neg h]; grind
section
variable {O : Odds} (K : OOk O) {L : List Str} {e : E} (S : SOk L e) (h6 : L.length ≤ 6) (hO : ∀ w ∈ L, w ∈ O.map (·.1))
include K S h6 hO
theorem k21_sum (x0 x1 x2 x6 x7 x9 : Option D) (n : Str) {hp : Hc} : ∀ (R : List (List Str)) (a : Rat) (k : Nat) (x11 : Option D), k + 40 * R.length ≤ 3900 → qs k a → ∃ y11, qs (k + 40 * R.length) (bS O L (fun s => decide (n ∈ s) && !wk (oth L s) e) R a) ∧
    fl (fun _ => true) (.n 11) m_law_l1 (R.map sL) [x0, x1, x2, some (.lst (L.map D.str)), some (eD false e), some (oD false O), x6, x7, some (.str n), x9, some (qD a), x11] hp =
    .nx [x0, x1, x2, some (.lst (L.map D.str)), some (eD false e), some (oD false O), x6, x7, some (.str n), x9, some (qD (bS O L (fun s => decide (n ∈ s) && !wk (oth L s) e) R a)), y11] hp
  | [], a, k, x11, _, qa => ⟨x11, qs_le (by omega) qa, fl_end rfl⟩
  | s :: R, a, k, x11, hk, qa => by
    have qp := qs_prior K (bs := s) L 1 1 hO (qs_int (i := 1) (by decide) (by decide))
    have e1 := fun h => law_works_ok (oth L s) 24 e (by have := S.dp; omega) S.ok (.lst ((oth L s).map D.str)) h (.lst h)
    have e2 : ∀ h, callL m_law_others [.lst (L.map D.str), sL s] h = .ok (.lst ((oth L s).map D.str)) h := fun h => law_others_ok true (by omega) (.lst h)
    have e3 : ∀ h, callL m_law_prior [.lst (L.map D.str), oD false O, sL s] h = .ok (qD (prior O s L 1)) h := fun h => prior_ok K (bs := s) hO (by omega) h
    have e4 := fun h => law_add_q (qs_le (show k ≤ 4000 by omega) qa) (qs_le (show 1 + 6 * L.length ≤ 4000 by omega) qp) h
    have in0 := fun h => inG_strs false n (U := sL s) (us := s) (h := h) rfl
    simp only [Bool.false_eq_true, if_false] at in0
    obtain ⟨y11, q2, ih⟩ := k21_sum x0 x1 x2 x6 x7 x9 n (hp := hp) R (if (decide (n ∈ s) && !wk (oth L s) e) then a + prior O s L 1 else a) (k + 40) (some (sL s)) (by rw [List.length_cons] at hk; omega) (by
      split
      · exact qs_le (by omega) (qs_add qa qp)
      · exact qs_le (by omega) qa)
    refine ⟨y11, qs_le (by rw [List.length_cons]; omega) q2, ?_⟩
    rw [List.map_cons]
    refine Eq.trans (fl_n (b := m_law_l1) ?_) ih
    clear ih q2
    generalize prior O s L 1 = PR at *
    generalize (oth L s).map D.str = OT at *
    generalize sL s = SL at *
    generalize L.map D.str = LD at *
    generalize oD false O = OD at *
    generalize eD false e = ED at *
    by_cases hm : n ∈ s
    · by_cases hw : wk (oth L s) e = true
      · rw [hw] at e1
        simp [m_law_l1, in0, e1, e2, hm, hw]
      · have hw' : wk (oth L s) e = false := by simpa using hw
        rw [hw'] at e1
        simp [m_law_l1, in0, e1, e2, e3, e4, hm, hw']
    · simp [m_law_l1, in0, hm]
variable {row : List Int} (hr : row ≠ []) (nd : L.Nodup) (hs : sortS L = L) (hN : ∀ w ∈ L, Nm w)
include hr nd hs hN
theorem k21_loop (sc : Option D) : ∀ (R : List Str), (∀ w ∈ R, w ∈ L) → ∀ (x8 x9 x10 x11 : Option D) (k : Int), 0 ≤ k → ∃ y8 y9 y10 y11 k', 0 ≤ k' ∧
    fl (fun _ => true) (.n 8) m_law_l2 (R.map D.str) [sc, some (.lst (row.map D.int)), some (.ref 0), some (.lst (L.map D.str)), some (eD false e), some (oD false O), some (.lst ((pts e).map D.str)), some (qD (chQ O (pts e) (fun m => !wkT (pts e) e m))), x8, x9, x10, x11] [.lst [.int k]] =
      .nx [sc, some (.lst (row.map D.int)), some (.ref 0), some (.lst (L.map D.str)), some (eD false e), some (oD false O), some (.lst ((pts e).map D.str)), some (qD (chQ O (pts e) (fun m => !wkT (pts e) e m))), y8, y9, y10, y11] [.lst [.int k']]
  | [], _, x8, x9, x10, x11, k, hk => ⟨x8, x9, x10, x11, k, hk, fl_end rfl⟩
  | n :: r, hsub, x8, x9, x10, x11, k, hk => by
    have sub : ∀ w ∈ pts e, w ∈ O.map (·.1) := fun w hw => hO w (nm_sub (dp e) e (Nat.le_refl _) S.ok w (mem_pts.mp hw))
    have l6 : (pts e).length ≤ 6 := Nat.le_trans (pts_len S.ok) h6
    have hn := hsub n (by simp)
    obtain ⟨b2, k2, hk2, e1⟩ := handed_eD hr S (k := k) (i := 0) (h := [.lst [.int k]]) rfl hk
    simp only [List.set_cons_zero] at e1
    have ev := fun h => eqG_q false (chQ O (pts e) (fun m => !wkT (pts e) e m)) 0 h
    have q0 : qD (0 : Rat) = .tup [.int 0, .int 1] := qD_int 0
    rw [q0] at ev
    simp only [Bool.false_eq_true, if_false] at ev
    by_cases h0 : chQ O (pts e) (fun m => !wkT (pts e) e m) = 0
    · have bl := fun h => blame_none K b2 false S l6 (hN n hn) sub (hO n hn) h0 h
      have tne : ∀ h, eqG true (.tup [.str "NoChance", .str "down"]) (.tup [.str "NoChance", .str "down"]) h = .ok (.bl false) h := fun h => by kernel_rfl
      obtain ⟨y8, y9, y10, y11, k', hk', ih⟩ := k21_loop sc r (fun w hw => hsub w (by simp [hw])) (some (.str n)) (some (.tup [.str "NoChance", .str "down"])) x10 x11 k2 hk2
      refine ⟨y8, y9, y10, y11, k', hk', ?_⟩
      rw [List.map_cons]
      refine Eq.trans (fl_n (b := m_law_l2) ?_) ih
      clear ih
      simp only [h0, decide_true] at ev
      rw [h0]
      rw [q0] at *
      generalize eD b2 e = EB at *
      generalize oD false O = OD at *
      generalize eD false e = ED at *
      generalize (pts e).map D.str = PD at *
      generalize L.map D.str = ND at *
      generalize row.map D.int = RD at *
      have u := eTold_ex (m := eCall m_blame (aCons (eCall m_law_handed (aCons (eVar 1) (aCons (eVar 2) (aCons (eVar 4) aNil)))) (aCons (eVar 5) (aCons (eVar 8) aNil)))) (ds := [sc, some (.lst RD), some (.ref 0), some (.lst ND), some ED, some OD, some (.lst PD), some (.tup [.int 0, .int 1]), some (.str n), x9, x10, x11]) (h := [.lst [.int k]]) (x := "NoChance") (fs := ["word"]) (vs := [.str "down"]) (h' := [.lst [.int k2]]) (by simp [e1, bl]) rfl
      simp [m_law_l2, u, ev, tne]
    · have bl := fun h => blame_ok K b2 false S l6 (hN n hn) sub (hO n hn) h0 h
      have t0 := (joined_ok (nodup_pts e) l6 false 24 e (by have := S.dp; omega) (EOk_pts S)).1
      have qd := chQ_qsS K l6 sub t0.not
      have e2 : ∀ h, callL m_law_sets [.lst (L.map D.str)] h = .ok (.lst ((setsL [[]] L).map sL)) h := fun h => law_sets_ok true (by omega) h
      have sl : (setsL [[]] L).length ≤ 64 := by
        rw [setsL_len]
        have := Nat.pow_le_pow_right (show 0 < 2 by decide) h6
        simp; omega
      obtain ⟨z11, qt, e3⟩ := k21_sum K S h6 hO sc (some (.lst (row.map D.int))) (some (.ref 0)) (some (.lst ((pts e).map D.str))) (some (qD (chQ O (pts e) (fun m => !wkT (pts e) e m)))) (some (.tup [.str "value", qD ((1 - oddQ O n) * chQ (setO O n 0) (pts e) (fun m => !wkT (pts e) e m) / chQ O (pts e) (fun m => !wkT (pts e) e m))])) n (hp := [.lst [.int k2]]) (setsL [[]] L) 0 1 x11 (by omega) ⟨by decide, by decide⟩
      have eT : bS O L (fun s => decide (n ∈ s) && !wk (oth L s) e) (setsL [[]] L) 0 = (1 - oddQ O n) * chQ (setO O n 0) (pts e) (fun m => !wkT (pts e) e m) := by
        rw [bS_sum, blame_sum O nd hs S.ok hn hO]; grind
      rw [eT] at e3 qt
      have e4 := fun h => law_div_q (p := (1 - oddQ O n) * chQ (setO O n 0) (pts e) (fun m => !wkT (pts e) e m)) (q := chQ O (pts e) (fun m => !wkT (pts e) e m)) (qs_le (by omega) qt) (qs_le (by decide) qd) h0 h
      have e5 := fun h => law_odd_ok (O := O) (hO n hn) h
      obtain ⟨zz, hzz, _, hoz⟩ := odd_mem (hO n hn)
      have qo : qs 4 (oddQ O n) ∧ qs 6 (1 - oddQ O n) := by rw [hoz]; exact qs_odd K hzz
      have e6 := fun h => law_not_ok (q := oddQ O n) (qs_le (by decide) qo.1) h
      have e7 := fun h => law_mul_q (p := chQ O (pts e) (fun m => !wkT (pts e) e m)) (q := 1 - oddQ O n) (qs_le (by decide) qd) (qs_le (by decide) qo.2) h
      have so : ∀ h, callL (m_law_so 24) [qD ((1 - oddQ O n) * chQ (setO O n 0) (pts e) (fun m => !wkT (pts e) e m) / chQ O (pts e) (fun m => !wkT (pts e) e m)), qD ((1 - oddQ O n) * chQ (setO O n 0) (pts e) (fun m => !wkT (pts e) e m) / chQ O (pts e) (fun m => !wkT (pts e) e m))] h = .ok (.bl true) h := fun h => so_refl 24 _ h rfl
      have in0 := fun h => inG_strs true n (U := .lst ((pts e).map D.str)) (us := pts e) (h := h) rfl
      obtain ⟨y8, y9, y10, y11, k', hk', ih⟩ := k21_loop sc r (fun w hw => hsub w (by simp [hw])) (some (.str n)) (some (.tup [.str "value", qD ((1 - oddQ O n) * chQ (setO O n 0) (pts e) (fun m => !wkT (pts e) e m) / chQ O (pts e) (fun m => !wkT (pts e) e m))])) (some (qD ((1 - oddQ O n) * chQ (setO O n 0) (pts e) (fun m => !wkT (pts e) e m)))) z11 k2 hk2
      refine ⟨y8, y9, y10, y11, k', hk', ?_⟩
      rw [List.map_cons]
      refine Eq.trans (fl_n (b := m_law_l2) ?_) ih
      clear ih
      simp only [h0, decide_false] at ev
      rw [q0] at e3
      have ne : n ∉ pts e → ∀ h, eqG true (qD ((1 - oddQ O n) * chQ (setO O n 0) (pts e) (fun m => !wkT (pts e) e m))) (qD (chQ O (pts e) (fun m => !wkT (pts e) e m) * (1 - oddQ O n))) h = .ok (.bl false) h := fun hin h => by
        rw [eqG_q, setO_off hin sub, Rat.mul_comm]
        simp
      clear eT
      generalize (1 - oddQ O n) * chQ (setO O n 0) (pts e) (fun m => !wkT (pts e) e m) = TT at *
      generalize chQ O (pts e) (fun m => !wkT (pts e) e m) = CC at *
      generalize qD (TT / CC) = RS at *
      generalize qD TT = QT at *
      generalize qD (CC * (1 - oddQ O n)) = QM at *
      generalize qD (1 - oddQ O n) = QN at *
      generalize qD (oddQ O n) = QO at *
      generalize qD CC = QC at *
      generalize (setsL [[]] L).map sL = SS at *
      generalize eD b2 e = EB at *
      generalize oD false O = OD at *
      generalize eD false e = ED at *
      generalize (pts e).map D.str = PD at *
      generalize L.map D.str = ND at *
      generalize row.map D.int = RD at *
      have u := eTold_ok (m := eCall m_blame (aCons (eCall m_law_handed (aCons (eVar 1) (aCons (eVar 2) (aCons (eVar 4) aNil)))) (aCons (eVar 5) (aCons (eVar 8) aNil)))) (ds := [sc, some (.lst RD), some (.ref 0), some (.lst ND), some ED, some OD, some (.lst PD), some QC, some (.str n), x9, x10, x11]) (h := [.lst [.int k]]) (v := RS) (h' := [.lst [.int k2]]) (by simp [e1, bl])
      by_cases hin : n ∈ pts e
      · simp only [hin, decide_true, Bool.not_true, if_true] at in0
        simp [m_law_l2, u, ev, e2, e3, e4, so, in0]
      · simp only [hin, decide_false, Bool.not_false, if_true] at in0
        simp [m_law_l2, u, ev, e2, e3, e4, so, in0, e5, e6, e7, ne hin]
end
theorem law_ok (b : Bool) (ns : List Int) (hn : ns.length ≤ 63) : ∃ h, m_law [scD b (ns.map D.int)] [] = .ok (.bl true) h := by
  obtain ⟨row, hr, _, e0⟩ := numbers_ok b ns hn
  generalize hsc : scD b (ns.map D.int) = sc at e0
  obtain ⟨v, k1, v0, v1, hk1, e1⟩ := take_ex hr (h := [.lst [.int 0]]) (i := 0) (k := 0) (l := 4) rfl (by decide) (by decide)
  obtain ⟨nm, k2, nd, hN, hl, hs, hk2, e2⟩ := names_ex hr (many := (1 + v).toNat) (by omega) (h := [.lst [.int k1]]) (i := 0) rfl hk1
  rw [show (((1 + v).toNat : Nat) : Int) = 1 + v by omega] at e2
  simp only [List.set_cons_zero] at e1 e2
  have hn0 : nm ≠ [] := by intro z; subst z; simp at hl; omega
  have h5 : nm.length ≤ 6 := by omega
  obtain ⟨e, k3, S, hk3, e3⟩ : ∃ e k3, SOk nm e ∧ 0 ≤ k3 ∧ callL m_law_small [.lst (row.map D.int), .ref 0, .lst (nm.map D.str)] [.lst [.int k2]] = .ok (eD false e) [.lst [.int k3]] := by
    obtain ⟨e, k3, S, _, hk3, e3⟩ := small13 hr hn0 hN (by omega) (k := k2) (i := 0) (h := [.lst [.int k2]]) rfl hk2
    exact ⟨e, k3, S, hk3, e3⟩
  obtain ⟨O, k4, K, pm, hk4, e4⟩ := odds_ex hr nd hN (by omega) (h := [.lst [.int k3]]) (i := 0) rfl hk3
  simp only [List.set_cons_zero] at e4
  have hO : ∀ w ∈ nm, w ∈ O.map (·.1) := fun w hw => pm.mem_iff.mpr hw
  have sub : ∀ w ∈ pts e, w ∈ O.map (·.1) := fun w hw => hO w (nm_sub (dp e) e (Nat.le_refl _) S.ok w (mem_pts.mp hw))
  have l6 : (pts e).length ≤ 6 := Nat.le_trans (pts_len S.ok) h5
  obtain ⟨y8, y9, y10, y11, k5, hk5, e5⟩ := k21_loop K S h5 hO hr nd hs hN (some sc) nm (fun w hw => hw) none none none none k4 hk4
  have e6 := fun h => law_parts_ok (by omega) 24 e h (by have := S.dp; omega) S.ok
  have e7 := fun h => law_sum_ok K S (by omega) sub h
  have t0 := (joined_ok (nodup_pts e) l6 false 24 e (by have := S.dp; omega) (EOk_pts S)).1
  have e8 := fun h => law_not_ok (q := chQ O (pts e) (wkT (pts e) e)) (qs_le (by decide) (chQ_qsS K l6 sub t0)) h
  rw [← chQ_not] at e8
  refine ⟨[.lst [.int k5]], ?_⟩
  unfold m_law m_law_p1 m_law_p2 m_law_p3 m_law_p4 m_law_p5 m_law_p6 m_law_p7 m_law_p8 m_law_p9
  rw [runB_s]
  generalize qD (chQ O (pts e) (wkT (pts e) e)) = QC at *
  generalize qD (chQ O (pts e) (fun m => !wkT (pts e) e m)) = QN at *
  generalize eD false e = ED at *
  generalize oD false O = OD at *
  generalize (pts e).map D.str = PD at *
  generalize nm.map D.str = NS at *
  generalize row.map D.int = RD at *
  simp [e0, e1, e2, e3, e4, e5, e6, e7, e8]
end Mp
/-! LayHd: the end by one run of the top; its facts are looked at behind the run. -/
namespace Mp
open PySem PySem.Spec PyProof.Rows L2
/-! ### the part of the heap that is looked at -/
def valsA (g : Addr → Option Obj) (a : Addr) : List Addr := match g a with
  | some o => He.refsO o
  | none => []
def asM (g : Addr → Option Obj) : List Addr := mainGlobals :: (valsA g mainGlobals).flatMap fun a => match g a with
  | some ⟨_, _, .func fd, _⟩ => a :: He.refV fd.code
  | some ⟨_, _, .cls cd, _⟩ => a :: cd.ns :: (valsA g cd.ns).flatMap fun m => match g m with
      | some ⟨_, _, .func fd, _⟩ => m :: He.refV fd.code
      | _ => [m]
  | some ⟨_, _, .seq its _, _⟩ => a :: its.toList.flatMap He.refV
  | _ => [a]
/-! ### facts -/
abbrev Fq : Type := PySem.W.Frag → Bool
abbrev eqQ (a b : Option (Option Value)) : Bool := decide (a = b)
def fGlo (x : Str) : Fq := fun K => eqQ (PySem.W.nsIn K mainGlobals x) (some (some (.ref (He.ga K x))))
def fFree (x : Str) : Fq := fun K => eqQ (PySem.W.nsIn K mainGlobals x) (some none)
def fBlt (x : Str) (b : String) : Fq := fun K => eqQ (PySem.W.nsIn K mainGlobals x) (some (some (.builtin b)))
def fKeep (x : Str) : Fq := fun K => PySem.W.keepIn K (.ref (He.ga K x))
def dB (d : He.FnD) : Fq := fun K => (He.Fa.code d.at_ d.qual).ok K && (PySem.W.keepIn K (.ref (He.fAd K d.at_)) && (match d.at_.2 with
  | none => fGlo d.at_.1 K
  | some _ => true))
def obsM (fa : List Fq) (fn : List He.FnD) (K : PySem.W.Frag) : He.Al := ((fa.all fun f => f K) && fn.all fun d => dB d K, fn.map fun d => He.fnObs K d.at_)
def valM (fn : List He.FnD) : He.Al := (true, fn.map He.FnD.val)
def SaysM (fa : List Fq) (fn : List He.FnD) (K : PySem.W.Frag) : Prop := obsM fa fn K = valM fn
def obsMG (fa : List Fq) (fn : List He.FnD) (g : Addr → Option Obj) : He.Al := obsM fa fn (He.frG g (asM g))
def hookM (fa : List Fq) (fn : List He.FnD) : PySem.W.Hook where
  α := He.Al
  obs := fun s => obsMG fa fn s.heap.get?
  val := fun _ => valM fn
  says := fun _ h => ∃ K : PySem.W.Frag, K.In h ∧ SaysM fa fn K
  of := fun _ _ e => ⟨_, He.frG_in, e⟩
  keeps := fun _ _ _ ⟨K, hK, c⟩ k => ⟨K, PySem.W.Frag.In.keeps hK k, c⟩
theorem obsMG_eq {fa : List Fq} {fn : List He.FnD} {g : Addr → Option Obj} {s : Shared} (h : ∀ a, g a = s.heap.get? a) : obsMG fa fn g = (hookM fa fn).obs s := by
  have e : g = s.heap.get? := funext h
  rw [e] <;> rfl
section
variable {fa : List Fq} {fn : List He.FnD} {K : PySem.W.Frag} {h : Heap} {mg : Str → Option Value}
theorem SaysM.fact (c : SaysM fa fn K) (i : Nat) {f : Fq} (e : fa[i]? = some f) : f K = true := by
  have c1 := (He.ba (show ((fa.all fun f => f K) && fn.all fun d => dB d K) = true from congrArg (fun z : He.Al => z.1) c)).1
  exact List.all_eq_true.mp c1 f (List.mem_of_getElem? e)
theorem SaysM.def_ (c : SaysM fa fn K) (i : Nat) {d : He.FnD} (e : fn[i]? = some d) : He.fnObs K d.at_ = d.val ∧ dB d K = true := by
  have c2 := (He.ba (show ((fa.all fun f => f K) && fn.all fun d => dB d K) = true from congrArg (fun z : He.Al => z.1) c)).2
  have e1 : fn.map (fun d => He.fnObs K d.at_) = fn.map He.FnD.val := congrArg (fun z : He.Al => z.2) c
  have e2 : (fn.map fun d => He.fnObs K d.at_)[i]? = (fn.map He.FnD.val)[i]? := by rw [e1]
  rw [List.getElem?_map, List.getElem?_map, e] at e2
  exact ⟨Option.some.inj e2, List.all_eq_true.mp c2 d (List.mem_of_getElem? e)⟩
theorem eqQ_ok {a b : Option (Option Value)} (e : eqQ a b = true) : a = b := of_decide_eq_true e
theorem fGlo_ok (X : K.In h) (G : h.Ns mainGlobals mg) {x : Str} (c : fGlo x K = true) : mg x = some (.ref (He.ga K x)) := PySem.W.mg_of X G (eqQ_ok c)
theorem fFree_ok (X : K.In h) (G : h.Ns mainGlobals mg) {x : Str} (c : fFree x K = true) : mg x = none := PySem.W.mg_none_of X G (eqQ_ok c)
theorem fBlt_ok (X : K.In h) (G : h.Ns mainGlobals mg) {x : Str} {b : String} (c : fBlt x b K = true) : mg x = some (.builtin b) := PySem.W.mg_of X G (eqQ_ok c)
/-- a def of the text -/
abbrev fnD (y x : Str) (st : Stmt) : He.FnD := ⟨(y, none), x, x, defArgs st, defBody st, defScope st⟩
abbrev BindsN (x qual : Str) (st : Stmt) (ps : List Str) : Prop := ∀ (kV doc pm : Value) (an : Option Addr) (cdv ct : Value) (us : List Value), us.length = ps.length → bindArgs (PySem.W.fnOf x qual (defArgs st) (defBody st) (defScope st) .none kV doc pm an cdv ct) ⟨us, []⟩ = pure (ps.zip us)
theorem defM_fun (c : SaysM fa fn K) (i : Nat) {x y qual : Str} {z : Option Str} {st : Stmt} (e : fn[i]? = some ⟨(y, z), x, qual, defArgs st, defBody st, defScope st⟩) :
    ∃ fd, Fun K x qual st (He.fAd K (y, z)) fd := by
  obtain ⟨c1, c2⟩ := c.def_ i e
  obtain ⟨c3, c4⟩ := He.ba c2
  obtain ⟨c5, c6⟩ := He.ba c4
  obtain ⟨oc, od, osl, kV, doc, pm, an, cdv, ct, lk, hc⟩ := He.fn_ok c1 c3
  exact ⟨_, fun_mk lk hc c5⟩
theorem defM_glo (X : K.In h) (G : h.Ns mainGlobals mg) (c : SaysM fa fn K) (i : Nat) {y x qual : Str} {st : Stmt} (e : fn[i]? = some ⟨(y, none), x, qual, defArgs st, defBody st, defScope st⟩) : mg y = some (.ref (He.ga K y)) := by
  obtain ⟨c1, c2⟩ := c.def_ i e
  obtain ⟨c3, c4⟩ := He.ba c2
  obtain ⟨c5, c6⟩ := He.ba c4
  exact fGlo_ok X G c6
theorem defM (X : K.In h) (G : h.Ns mainGlobals mg) (c : SaysM fa fn K) (i : Nat) {x : Str} {st : Stmt} {ps : List Str} (hb : BindsN x x st ps) (e : fn[i]? = some (fnD x x st)) : DefAt K mg x x st ps := by
  obtain ⟨fd, F⟩ := defM_fun c i e
  exact ⟨_, fd, defM_glo X G c i e, F, F.binds hb⟩
theorem defMs (X : K.In h) (G : h.Ns mainGlobals mg) (c : SaysM fa fn K) (i : Nat) {y x : Str} {st : Stmt} {ps : List Str} (hb : BindsN x x st ps) (e : fn[i]? = some (fnD y x st)) : DefAs K mg y x x st ps := by
  obtain ⟨fd, F⟩ := defM_fun c i e
  exact ⟨_, fd, defM_glo X G c i e, F, F.binds hb⟩
/-! ### a def that makes lambdas: its code object and its table -/
def fTab (x : Str) : Fq := fun K => match PySem.W.tabIn K x with
  | some (_, P) => (K.lookup P).isNone
  | none => false
theorem fTab_ok {x : Str} (c : fTab x K = true) : ∃ p P, PySem.W.tabIn K x = some (p, P) ∧ K.lookup P = none := by
  unfold fTab at c
  cases q : PySem.W.tabIn K x with
  | none => rw [q] at c; cases c
  | some r =>
    obtain ⟨p, P⟩ := r
    rw [q] at c
    exact ⟨p, P, rfl, by simpa using c⟩
def fTabNe (x y : Str) : Fq := fun K => match PySem.W.tabIn K x, PySem.W.tabIn K y with
  | some (_, P), some (_, Q) => !decide (P = Q)
  | _, _ => false
theorem fTabNe_ok {x y : Str} {p q P Q : Addr} (c : fTabNe x y K = true) (h1 : PySem.W.tabIn K x = some (p, P)) (h2 : PySem.W.tabIn K y = some (q, Q)) : P ≠ Q := by
  unfold fTabNe at c
  rw [h1, h2] at c
  simpa using c
theorem tab_code {x : Str} {p P f : Addr} {oc : Value} {od : Option Addr} {fd : FuncData} {sl : Array (Option Value)} (ht : PySem.W.tabIn K x = some (p, P)) (hg : PySem.W.nsIn K mainGlobals x = some (some (.ref f))) (lk : K.lookup f = some ⟨oc, od, .func fd, sl⟩) : fd.code = .ref p := by
  unfold PySem.W.tabIn at ht
  rw [hg] at ht
  simp only [lk] at ht
  split at ht
  · rename_i c hc
    split at ht
    · split at ht
      · cases ht
        exact hc
      · cases ht
    · cases ht
  · cases ht
theorem defMC (X : K.In h) (G : h.Ns mainGlobals mg) (c : SaysM fa fn K) (i : Nat) {x : Str} {st : Stmt} {ps : List Str} {p P : Addr} (ht : PySem.W.tabIn K x = some (p, P)) (hb : BindsN x x st ps) (e : fn[i]? = some (fnD x x st)) : DefAtC K mg x x st ps p := by
  obtain ⟨fd, F⟩ := defM_fun c i e
  obtain ⟨c1, c2⟩ := c.def_ i e
  obtain ⟨c3, c4⟩ := He.ba c2
  obtain ⟨c5, c6⟩ := He.ba c4
  obtain ⟨oc, od, sl, lk⟩ := fun_lk F
  exact ⟨_, fd, fGlo_ok X G c6, F, F.binds hb, tab_code ht (eqQ_ok c6) lk⟩
/-! ### constants of the top -/
def fInt (x : Str) (i : Int) : Fq := fun K => match PySem.W.nsIn K mainGlobals x with
  | some (some (.int j _)) => decide (j = i)
  | _ => false
theorem fInt_ok (X : K.In h) (G : h.Ns mainGlobals mg) {x : Str} {i : Int} (c : fInt x i K = true) : TopVal K mg x (.int i) := by
  unfold fInt at c
  split at c
  · rename_i j t q
    have e : j = i := of_decide_eq_true c
    subst e
    exact ⟨_, .int j, PySem.W.mg_of X G q, ⟨_, rfl⟩, fun _ => int_rd⟩
  · cases c
def fStr (x z : Str) : Fq := fun K => match PySem.W.nsIn K mainGlobals x with
  | some (some (.str y _)) => decide (y = z)
  | _ => false
theorem fStr_ok (X : K.In h) (G : h.Ns mainGlobals mg) {x z : Str} (c : fStr x z K = true) : TopVal K mg x (.str z) := by
  unfold fStr at c
  split at c
  · rename_i y t q
    have e : y = z := of_decide_eq_true c
    subst e
    exact ⟨_, .str y, PySem.W.mg_of X G q, ⟨_, rfl⟩, fun _ => str_rd⟩
  · cases c
def strsB : List Str → List Value → Bool
  | [], [] => true
  | z :: zs, .str y _ :: vs => decide (y = z) && strsB zs vs
  | _, _ => false
theorem strsB_ok : ∀ {zs : List Str} {vs : List Value}, strsB zs vs = true → Vals (zs.map V.str) vs
  | [], [], _ => .nil
  | [], v :: vs, e => by unfold strsB at e; cases e
  | z :: zs, [], e => by unfold strsB at e; cases e
  | z :: zs, v :: vs, e => by
    cases v with
    | str y t =>
      unfold strsB at e
      obtain ⟨e1, e2⟩ := He.ba e
      have e1' : y = z := of_decide_eq_true e1
      subst e1'
      exact .cons ⟨_, rfl⟩ (strsB_ok e2)
    | _ => unfold strsB at e; cases e
def fStrs (x : Str) (zs : List Str) : Fq := fun K => match PySem.W.nsIn K mainGlobals x with
  | some (some (.ref q)) => (match K.lookup q with
    | some ⟨.type "tuple", none, .seq its _, _⟩ => strsB zs its.toList && decide (its.size ≤ lim)
    | _ => false)
  | _ => false
theorem keyV_strs (zs : List Str) : keyV (zs.map V.str) ≠ true := by cases zs <;> exact Bool.false_ne_true
theorem fStrs_ok (X : K.In h) (G : h.Ns mainGlobals mg) {x : Str} {zs : List Str} (c : fStrs x zs K = true) : TopVal K mg x (.tup (zs.map D.str)) := by
  unfold fStrs at c
  split at c
  · rename_i q e1
    split at c
    · rename_i its n sl e2
      obtain ⟨c1, c2⟩ := He.ba c
      refine ⟨.ref q, .ref q, PySem.W.mg_of X G e1, rfl, fun ω => ?_⟩
      unfold RelD
      exact ⟨q, _, rfl, ⟨.inr ⟨_, its, n, e2, rfl, rfl, lim_le (of_decide_eq_true c2), strsB_ok c1⟩, fun z => absurd z (keyV_strs zs), fun _ => ⟨_, rfl, .inr ⟨e2, rfl⟩⟩⟩, RelL.of_strs zs⟩
    · cases c
  · cases c
/-- (a text, ()) -/
def fStrE (x z : Str) : Fq := fun K => match PySem.W.nsIn K mainGlobals x with
  | some (some (.ref q)) => (match K.lookup q with
    | some ⟨.type "tuple", none, .seq its _, _⟩ => (match its.toList with
      | [.str y _, .ref r] => decide (y = z) && (match K.lookup r with
        | some ⟨.type "tuple", _, .seq is2 _, _⟩ => decide (is2.toList = [])
        | _ => false)
      | _ => false)
    | _ => false)
  | _ => false
theorem fStrE_ok (X : K.In h) (G : h.Ns mainGlobals mg) {x z : Str} (c : fStrE x z K = true) : TopVal K mg x (.tup [.str z, .tup []]) := by
  unfold fStrE at c
  split at c
  · rename_i q e1
    split at c
    · rename_i its n sl e2
      split at c
      · rename_i y t r e3
        obtain ⟨c1, c2⟩ := He.ba c
        have e4 : y = z := of_decide_eq_true c1
        subst e4
        split at c2
        · rename_i od2 is2 n2 sl2 e5
          have e6 : is2.toList = [] := of_decide_eq_true c2
          refine ⟨.ref q, .ref q, PySem.W.mg_of X G e1, rfl, fun ω => ?_⟩
          have l2 : its.size ≤ lim := by rw [← Array.length_toList, e3]; exact (by decide : 2 ≤ lim)
          have l0 : is2.size ≤ lim := by rw [← Array.length_toList, e6]; exact (by decide : 0 ≤ lim)
          unfold RelD
          refine ⟨q, [.str y, .ref r], rfl, ⟨.inr ⟨_, its, n, e2, rfl, rfl, lim_le l2, by rw [e3]; exact .cons ⟨_, rfl⟩ (.cons rfl .nil)⟩, fun z => absurd z Bool.false_ne_true, fun _ => ⟨_, rfl, .inr ⟨e2, rfl⟩⟩⟩, RelL.cons str_rd (RelL.cons ?_ RelL.nil)⟩
          unfold RelD
          exact ⟨r, [], rfl, ⟨.inr ⟨_, is2, n2, e5, rfl, rfl, lim_le l0, by rw [e6]; exact .nil⟩, fun z => absurd z Bool.false_ne_true, fun z => absurd z Bool.false_ne_true⟩, RelL.nil⟩
        · cases c2
      · cases c
    · cases c
  · cases c
/-! ### exceptions of own classes -/
def clsB (C : Addr) (o : Obj) : Bool := match o with
  | ⟨.type "type", _, .cls cd, sl⟩ => (match cd.mro with
      | .ref c :: bm => decide (c = C) && refsE bm
      | _ => false) && (cd.hasDict && (!cd.hasDel && (match sl.toList with
      | [_, _, _, _, some (.builtin "Exception.__new__"), _] => true
      | _ => false)))
  | _ => false
theorem clsB_ok {C : Addr} {o : Obj} (c : clsB C o = true) : ∃ nm q N bs bm sn sub ab col dd k0 k1 k2 k3 k5, o = excClassObj nm q C N bs bm true sn sub ab col dd k0 k1 k2 k3 k5 "Exception.__new__" ∧ refsE bm = true := by
  unfold clsB at c
  split at c
  · rename_i dd cd sl
    obtain ⟨nm, bs, mro, ns, qn, hd, sn, sb, ab, col, del⟩ := cd
    simp only [Bool.and_eq_true] at c
    obtain ⟨c1, c2, c3, c4⟩ := c
    subst c2
    have e2 : del = false := by simpa using c3
    subst e2
    cases mro with
    | nil => cases c1
    | cons v bm =>
      cases v with
      | ref cc =>
        obtain ⟨c5, c6⟩ := He.ba c1
        have e1 : cc = C := of_decide_eq_true c5
        subst e1
        split at c4
        · rename_i k0 k1 k2 k3 k5 e3
          have e4 : sl = #[k0, k1, k2, k3, some (.builtin "Exception.__new__"), k5] := by
            obtain ⟨l⟩ := sl
            simp only at e3
            rw [e3]
          subst e4
          exact ⟨nm, qn, ns, bs, bm, sn, sb, ab, col, dd, k0, k1, k2, k3, k5, rfl, c6⟩
        · cases c4
      | _ => cases c1
  · cases c
/-- what is caught and told -/
def fXrd (x : Str) (fs : List Str) : Fq := fun K => fGlo x K && (eqQ (PySem.W.findIn K (.ref (He.ga K x)) "__getattribute__") (some (some (.builtin "BaseException.__getattribute__"))) && (eqQ (PySem.W.findIn K (.ref (He.ga K x)) "__getattr__") (some none) &&
  (decide (PySem.W.subIn K (.ref (He.ga K x)) (.type "BaseException") = some true) && (PySem.W.hasDictIn K (He.ga K x) && fs.all fun f => eqQ (PySem.W.findIn K (.ref (He.ga K x)) f) (some none)))))
theorem fXrd_ok (X : K.In h) (G : h.Ns mainGlobals mg) {x : Str} {fs : List Str} (c : fXrd x fs K = true) : XRd K mg x (He.ga K x) fs := by
  obtain ⟨c1, c⟩ := He.ba c
  obtain ⟨c2, c⟩ := He.ba c
  obtain ⟨c3, c⟩ := He.ba c
  obtain ⟨c4, c⟩ := He.ba c
  obtain ⟨c5, c6⟩ := He.ba c
  exact ⟨fGlo_ok X G c1, ⟨eqQ_ok c2, eqQ_ok c3, of_decide_eq_true c4, c5⟩, fun f hf => eqQ_ok (List.all_eq_true.mp c6 f hf)⟩
/-- what is raised -/
def fXcl (x : Str) (fs : List Str) : Fq := fun K => fGlo x K && ((match K.lookup (He.ga K x) with
  | some o => clsB (He.ga K x) o
  | none => false) && (eqQ (PySem.W.findIn K (.ref (He.ga K x)) "__setattr__") (some (some (.builtin "object.__setattr__"))) && (decide (PySem.W.subIn K (.ref (He.ga K x)) (.type "BaseException") = some true) && (decide (PySem.W.typeIn K (.ref (He.ga K x)) = some (.type "type")) &&
  (PySem.W.keepIn K (.ref (He.ga K x)) && (eqQ (PySem.W.findIn K (.ref (He.ga K x)) "__init__") (some (some (.ref (He.ma K (He.ga K x) "__init__")))) && (decide (PySem.W.typeIn K (.ref (He.ma K (He.ga K x) "__init__")) = some (.type "function")) && fs.all fun f => eqQ (PySem.W.findIn K (.ref (He.ga K x)) f) (some none))))))))
abbrev fnX (x : Str) (st : Stmt) : He.FnD := ⟨(x, some "__init__"), "__init__", x ++ ".__init__", defArgs st, defBody st, defScope st⟩
theorem fXcl_ok {P : Program} {w : World} (X : K.In h) (G : h.Ns mainGlobals mg) (c : SaysM fa fn K) (i : Nat) {x q : Str} {ps fs : List Str} {st : Stmt} {sp : PySem.W.Frag → Sp} (e : fn[i]? = some ⟨(x, some "__init__"), "__init__", q, defArgs st, defBody st, defScope st⟩) (hb : BindsN "__init__" q st ps)
    (hi : ∀ (f : Addr) (fd : FuncData), Fun K "__init__" q st f fd → ∀ base : Heap, FnOk P w K mg base CX0 1 f fd ps (sp K)) (cx : fXcl x fs K = true) : XCls P w K mg x ps fs sp := by
  obtain ⟨fd, F⟩ := defM_fun c i e
  obtain ⟨c1, cx⟩ := He.ba cx
  obtain ⟨c2, cx⟩ := He.ba cx
  obtain ⟨c3, cx⟩ := He.ba cx
  obtain ⟨c4, cx⟩ := He.ba cx
  obtain ⟨c5, cx⟩ := He.ba cx
  obtain ⟨c6, cx⟩ := He.ba cx
  obtain ⟨c7, cx⟩ := He.ba cx
  obtain ⟨c8, c9⟩ := He.ba cx
  refine ⟨He.ga K x, He.ma K (He.ga K x) "__init__", fd, fGlo_ok X G c1, ⟨?_, eqQ_ok c3, of_decide_eq_true c4, of_decide_eq_true c5, c6⟩, eqQ_ok c7, of_decide_eq_true c8, F.binds hb, hi _ _ F, fun f hf => eqQ_ok (List.all_eq_true.mp c9 f hf)⟩
  cases q2 : K.lookup (He.ga K x) with
  | none => rw [q2] at c2; cases c2
  | some o =>
    rw [q2] at c2
    obtain ⟨nm, q, N, bs, bm, sn, sub, ab, col, dd, k0, k1, k2, k3, k5, e1, e2⟩ := clsB_ok c2
    exact ⟨nm, q, N, bs, bm, sn, sub, ab, col, dd, k0, k1, k2, k3, k5, by rw [e1], e2⟩
def fExm (xs : List (Str × List Str)) : Fq := fun K => exmAll K (xs.map fun x => (He.ga K x.1, x.1, x.2))
end
/-! ### the law -/
theorem walk_lawM {l : PySem.W.OpenLaw} {k : Nat} {q : Program} {loose : List Str} {XP : (Str → Option Value) → Heap → Prop} {fa : List Fq} {fn : List He.FnD} {d : DefRec} (used : List Str) (hn : l.most = some 63) (hdf : d.params.defaults = []) (hr : Room k callerA)
    (rt : ∃ rd, (recsOf q).find? (fun e => e.name == ("law" : Str)) = some rd) (rts : ∀ x ∈ used, ∃ rd, (recsOf q).find? (fun e => e.name == x) = some rd)
    (F : ∀ (w : World) (mg : Str → Option Value) (fa' : Addr) (h : Heap) (K : PySem.W.Frag), SaysM fa fn K → K.In h → h.Ns mainGlobals mg → mg d.name = some (.ref fa') →
      ∃ (fd : FuncData) (c P : Addr), PySem.W.tabIn K "law" = some (c, P) ∧ K.lookup P = none ∧ (∀ x ∈ lamNames, PySem.W.tabIn K x = none ∨ (x ∈ used ∧ ∃ c' P', PySem.W.tabIn K x = some (c', P') ∧ K.lookup P' = none)) ∧
        (∀ (s : Shared) (u : Value), BindsTo s fd ⟨[u], []⟩ [("script", u)]) ∧
        ∀ base : Heap, K.In base → base.Ns mainGlobals mg → LawTab K mg base c P → FnOk l.prog w K mg base (L2.CX l.prog w) k fa' fd ["script"] (spTrue K)) :
    PySem.W.WalkO q loose XP (hookM fa fn).says l.row.toRowW d [] (fun f vs => PySem.call f vs) := by
  refine Att.attach_callB hn hdf fun w s₀ s₁ mg mb fa' o pm cd doc a vs ns G Y ho hd hcd hmg hobj hints hlen hbits hg => ?_
  obtain ⟨K, KX, fk⟩ := Y
  obtain ⟨fd, c, P, ht, nT, hM, hb, hF⟩ := F w mg fa' _ K fk KX G.T.g hmg
  have facts : ∀ p ∈ (("law" : Str) :: lamNames).filterMap (PySem.W.tabIn K), ∃ x ∈ ("law" : Str) :: lamNames, PySem.W.tabIn K x = some p ∧ K.lookup p.2 = none ∧ ∃ rd, (recsOf q).find? (fun e => e.name == x) = some rd := fun p hp => by
    obtain ⟨x, hx, e⟩ := List.mem_filterMap.mp hp
    refine ⟨x, hx, e, ?_⟩
    rcases List.mem_cons.mp hx with z | z
    · subst z
      rw [ht] at e
      cases e
      exact ⟨nT, rt⟩
    · rcases hM x z with h0 | ⟨hu, c', P', h1, h2⟩
      · rw [h0] at e
        cases e
      · rw [h1] at e
        cases e
        exact ⟨h2, rts x hu⟩
  have mem : ∀ x ∈ ("law" : Str) :: lamNames, ∀ p, PySem.W.tabIn K x = some p → p ∈ (("law" : Str) :: lamNames).filterMap (PySem.W.tabIn K) := fun x hx p e => List.mem_filterMap.mpr ⟨x, hx, e⟩
  refine LamX.law_callTs (cs := (("law" : Str) :: lamNames).filterMap (PySem.W.tabIn K)) (sp := spTrue K) KX G.T.g G.T.b G.T.builtins G.T.nolimit hg (fun p hp => ?_) (fun p hp => ?_) (fun p hp => ?_) G.T.bmain hobj hints (Nat.le_trans hlen (by decide)) hr
    (fun base hk hns tb => hF base hk hns ⟨tb (c, P) (mem "law" (List.mem_cons_self ..) _ ht), ht, fun x hx c' P' e => tb (c', P') (mem x (List.mem_cons_of_mem _ hx) _ e)⟩) hb (fun H hH hS => ⟨a, ns, rfl, ?_, hS, hlen, fun _ => rfl⟩) fun H e s' z => ?_
  · obtain ⟨x, hx, e, h2, rd, hrd⟩ := facts p hp
    exact (PySem.W.tab_of G.T KX hrd e).2
  · obtain ⟨x, hx, e, h2, rd, hrd⟩ := facts p hp
    exact h2
  · obtain ⟨x, hx, e, h2, rd, hrd⟩ := facts p hp
    exact (PySem.W.tab_of G.T KX hrd e).1
  · intro p hp
    obtain ⟨x, c', hx, e, _⟩ := tab_all hp
    exact LamX.TabS.nil (hH (c', p.1) (mem x hx _ e))
  · obtain ⟨_, _, _, _, _, _, _, _, _, _, _, _, e⟩ := z
    exact e
/-- the end of a law, from its def's promise -/
theorem law_fin {l : PySem.W.OpenLaw} {w : World} {K : PySem.W.Frag} {mg : Str → Option Value} {fa' c P : Addr} {lv : Nat} {used : List Str} {st : Stmt} {m : Fn} (hfa : mg "law" = some (.ref fa')) (DL : DefAtC K mg "law" "law" st ["script"] c) (ht : PySem.W.tabIn K "law" = some (c, P)) (nT : K.lookup P = none)
    (hM : ∀ x ∈ lamNames, PySem.W.tabIn K x = none ∨ (x ∈ used ∧ ∃ c' P', PySem.W.tabIn K x = some (c', P') ∧ K.lookup P' = none))
    (hb : BindsN "law" "law" st ["script"]) (hlaw : ∀ (b : Bool) (ns : List Int), ns.length ≤ 63 → ∃ h, m [scD b (ns.map D.int)] [] = .ok (.bl true) h)
    (GL : ∀ base : Heap, LawTab K mg base c P → Good l.prog w K mg base "law" lv ["script"] m) :
    ∃ (fd : FuncData) (c P : Addr), PySem.W.tabIn K "law" = some (c, P) ∧ K.lookup P = none ∧ (∀ x ∈ lamNames, PySem.W.tabIn K x = none ∨ (x ∈ used ∧ ∃ c' P', PySem.W.tabIn K x = some (c', P') ∧ K.lookup P' = none)) ∧ (∀ (s : Shared) (v : Value), BindsTo s fd ⟨[v], []⟩ [("script", v)]) ∧ ∀ base : Heap, K.In base → base.Ns mainGlobals mg → LawTab K mg base c P → FnOk l.prog w K mg base (L2.CX l.prog w) lv fa' fd ["script"] (spTrue K) := by
  obtain ⟨f, fd, g, F, b, hc⟩ := DL
  have e1 : f = fa' := by
    have z := g.symm.trans hfa
    cases z; rfl
  subst e1
  obtain ⟨oc, od, kV, doc, pm, an, cdv, ct, osl, rfl, lk, hcd⟩ := F.ex
  refine ⟨_, c, P, ht, nT, hM, fun s v => .of_eq (hb kV doc pm an cdv ct [v] rfl), fun base _ _ TB => ?_⟩
  obtain ⟨fz, fdz, gz, _, _, ⟨o1, o2, o3, lk2⟩, Fz⟩ := GL base TB
  have e1 : fz = f := by
    have z := gz.symm.trans g
    cases z; rfl
  rw [e1] at lk2 Fz
  have e2 := lk2.symm.trans lk
  cases e2
  exact Fz.imp fun vs H Q E z => law_sp hlaw z
/-- the run's equation, part by part -/
theorem run_parts {α β γ δ : Type} {o : Option α} {f : α → β} {g : α → γ} {k : α → δ} {b : β} {c : γ} {d : δ} (h1 : o.map f = some b) (h2 : o.map g = some c) (h3 : o.map k = some d) : (o.map fun x => (f x, g x, k x)) = some (b, c, d) := by
  cases o with
  | none => cases h1
  | some x =>
    have e1 := Option.some.inj h1
    have e2 := Option.some.inj h2
    have e3 := Option.some.inj h3
    rw [Option.map_some, e1, e2, e3]
theorem obs_parts {α : Type} {o : Option α} {k : α → He.Al} {b : Bool} {c : List He.FnV} (h1 : o.map (fun x => (k x).1) = some b) (h2 : o.map (fun x => (k x).2) = some c) : o.map k = some (b, c) := by
  cases o with
  | none => cases h1
  | some x =>
    have e1 := Option.some.inj h1
    have e2 := Option.some.inj h2
    have e1' : (k x).1 = b := e1
    have e2' : (k x).2 = c := e2
    rw [Option.map_some, ← e1', ← e2']
end Mp
namespace Mp
open PySem PySem.Spec PyProof.Rows L2
/-! ### the defs are as their mirrors say -/
def topS (i : Nat) : Stmt := PySem.Challenge.pw_mendplan_k21_blame.main.body.getD i (.Pass ⟨0, 0, 0, 0⟩)
/-- what the top has left of names that are no defs -/
structure Tx (P : Program) (w : World) (K : PySem.W.Frag) (mg : Str → Option Value) : Prop where
  ok : True
  b_range : mg "range" = none
  b_int : mg "int" = none
  b_len : mg "len" = none
  b_sorted : mg "sorted" = none
  b_tuple : mg "tuple" = none
  b_isinstance : mg "isinstance" = none
  b_list : mg "list" = none
  b_str : mg "str" = none
  b_all : mg "all" = none
  b_bool : mg "bool" = none
  b_enumerate : mg "enumerate" = none
  i_gcd : mg "gcd" = some (.builtin "math.gcd")
  c_WORDS : TopVal K mg "WORDS" (.tup [(.str "and"), (.str "or"), (.str "of"), (.str "always"), (.str "never")])
  c_LETTERS : TopVal K mg "LETTERS" (.str "abcdefghijklmnopqrstuvwxyz")
  c_MOST_ODDS : TopVal K mg "MOST_ODDS" (.int 20)
  c_MOST_MEMBERS : TopVal K mg "MOST_MEMBERS" (.int 8)
  c_MOST_SHAPES : TopVal K mg "MOST_SHAPES" (.int 60)
  c_MOST_LEVELS : TopVal K mg "MOST_LEVELS" (.int 10)
  c_MOST_PARTS : TopVal K mg "MOST_PARTS" (.int 10)
  x_BadValue : XCls P w K mg "BadValue" ["self", "at"] ["at"] (spX1 "at")
  x_Unknown : XCls P w K mg "Unknown" ["self", "name"] ["name"] (spX1 "name")
  x_NoChance : XCls P w K mg "NoChance" ["self", "word"] ["word"] (spX1 "word")
section
variable {P : Program} {w : World} {K : PySem.W.Frag} {mg : Str → Option Value} {base : Heap}
abbrev sx_BadValue : Stmt := inClass (topS 35) 0
theorem scx_BadValue : FnScope ["self", "at"] ["self", "at"] (defScope sx_BadValue) := ⟨rfl, rfl, rfl, by decide +kernel, rfl, by decide +kernel, by decide +kernel⟩
theorem init_BadValue {f : Addr} {fd : FuncData} (F : Fun K "__init__" "BadValue.__init__" sx_BadValue f fd) : FnOk P w K mg base CX0 1 f fd ["self", "at"] (spX1 "at" K) := F.ok scx_BadValue (fun vs H Q E h => x1_len vs H Q E h) fun cdv A outer s H vs Q E hr h => ⟨_, pss_one (ps_xst (pv 0) (pv 1)), x1_rd rfl h⟩
abbrev sx_Unknown : Stmt := inClass (topS 37) 0
theorem scx_Unknown : FnScope ["self", "name"] ["self", "name"] (defScope sx_Unknown) := ⟨rfl, rfl, rfl, by decide +kernel, rfl, by decide +kernel, by decide +kernel⟩
theorem init_Unknown {f : Addr} {fd : FuncData} (F : Fun K "__init__" "Unknown.__init__" sx_Unknown f fd) : FnOk P w K mg base CX0 1 f fd ["self", "name"] (spX1 "name" K) := F.ok scx_Unknown (fun vs H Q E h => x1_len vs H Q E h) fun cdv A outer s H vs Q E hr h => ⟨_, pss_one (ps_xst (pv 0) (pv 1)), x1_rd rfl h⟩
abbrev sx_NoChance : Stmt := inClass (topS 38) 0
theorem scx_NoChance : FnScope ["self", "word"] ["self", "word"] (defScope sx_NoChance) := ⟨rfl, rfl, rfl, by decide +kernel, rfl, by decide +kernel, by decide +kernel⟩
theorem init_NoChance {f : Addr} {fd : FuncData} (F : Fun K "__init__" "NoChance.__init__" sx_NoChance f fd) : FnOk P w K mg base CX0 1 f fd ["self", "word"] (spX1 "word" K) := F.ok scx_NoChance (fun vs H Q E h => x1_len vs H Q E h) fun cdv A outer s H vs Q E hr h => ⟨_, pss_one (ps_xst (pv 0) (pv 1)), x1_rd rfl h⟩
abbrev sm_law_told : Stmt := topS 78
theorem tell_mk {C0 C1 C2 C3 C4 C5 C6 C7 C8 : Addr} (D : DefAt K mg "_law_told" "_law_told" sm_law_told ["deed"]) (r0 : XRd K mg "BadValue" C0 ["at"]) (r1 : XRd K mg "BadText" C1 ["at"]) (r2 : XRd K mg "Unknown" C2 ["name"]) (r3 : XRd K mg "NoChance" C3 ["word"]) (r4 : XRd K mg "Crowded" C4 ["first", "last"]) (r5 : XRd K mg "NoDay" C5 ["name"]) (r6 : XRd K mg "Missing" C6 ["at"]) (r7 : XRd K mg "TakenName" C7 ["name"]) (r8 : XRd K mg "Short" C8 ["rows"]) (he : exmAll K [(C0, "BadValue", ["at"]), (C1, "BadText", ["at"]), (C2, "Unknown", ["name"]), (C3, "NoChance", ["word"]), (C4, "Crowded", ["first", "last"]), (C5, "NoDay", ["name"]), (C6, "Missing", ["at"]), (C7, "TakenName", ["name"]), (C8, "Short", ["rows"])] = true) : TellTxt K mg sm_law_told :=
  ⟨D, ⟨rfl, rfl, rfl, by decide +kernel, rfl, by decide +kernel, by decide +kernel⟩, rfl, .inl rfl, rfl, [(C0, "BadValue", ["at"]), (C1, "BadText", ["at"]), (C2, "Unknown", ["name"]), (C3, "NoChance", ["word"]), (C4, "Crowded", ["first", "last"]), (C5, "NoDay", ["name"]), (C6, "Missing", ["at"]), (C7, "TakenName", ["name"]), (C8, "Short", ["rows"])], _, _, _, _, _, _, _, _, _, _, rfl, (.one r0 rfl (by decide) (.one r1 rfl (by decide) (.one r2 rfl (by decide) (.one r3 rfl (by decide) (.two r4 rfl (by decide) (.one r5 rfl (by decide) (.one r6 rfl (by decide) (.one r7 rfl (by decide) (.one r8 rfl (by decide) .nil))))))))), rfl, he⟩
abbrev sm_law_numbers : Stmt := topS 53
theorem scm_law_numbers : FnScope ["script", "row", "cell", "left", "k", "mixed"] ["script"] (defScope sm_law_numbers) := ⟨rfl, rfl, rfl, by decide +kernel, rfl, by decide +kernel, by decide +kernel⟩
theorem goodm_law_numbers (T : Tx P w K mg) (D : DefAt K mg "_law_numbers" "_law_numbers" sm_law_numbers ["script"])  : Good P w K mg base "_law_numbers" 1 ["script"] m_law_numbers :=
  (D.good (N := ["script", "row", "cell", "left", "k", "mixed"]) scm_law_numbers fun f cdv A outer s H E hr =>
  (dss_cons (ds_set (ps_set (i := 1) scm_law_numbers.nd rfl (by first | exact .inl rfl | exact .inr rfl) (de_cell da_nil)))
  (dss_cons (ds_for (ps_for (passes_of rfl) rfl (di_seq (de_sl (pe_slice sl_all (de_var (pv 0)) do_none (do_some de_int)) sld_f)) (dg_n (pg_name (i := 2) scm_law_numbers.nd rfl (by first | exact .inl rfl | exact .inr rfl)))
    (dss_one (ds_if (dt_cmp op_geA opd_ord (de_var (pv 2)) (de_op op_pow opd_pow de_int de_int) rfl)
      (dss_cons (ds_set (ps_set (i := 3) scm_law_numbers.nd rfl (by first | exact .inl rfl | exact .inr rfl) (de_var (pv 2))))
      (dss_one (ds_for (ps_for (passes_of rfl) rfl (di_rg1 (pi_range1 rfl T.b_range (da_cons de_int da_nil))) (dg_n (pg_name (i := 4) scm_law_numbers.nd rfl (by first | exact .inl rfl | exact .inr rfl)))
        (dss_cons (ds_if (dt_cmp (op_eqA (hu_of64 hr)) opd_eqA (de_var (pv 3)) de_int rfl)
          (dss_one ds_break)
          dss_nil)
        (dss_cons (ds_drop (de_bm (pe_bm PySem.F.plainAttrs_list PySem.F.slot_list_append PySem.F.type_list_append mt_append (de_var (pv 1)) (da_cons (de_op op_mod opd_mod (de_cb (pe_callTy call_int1 rfl T.b_int (by decide +kernel) (da_cons (de_var (pv 3)) da_nil)) cd_int) de_int) da_nil)) md_app))
        (dss_one (ds_set (ps_set (i := 3) scm_law_numbers.nd rfl (by first | exact .inl rfl | exact .inr rfl) (de_op op_fdivA opd_fdiv (de_var (pv 3)) de_int))))))))))
      (dss_one (ds_for (ps_for (passes_of rfl) rfl (di_rg1 (pi_range1 rfl T.b_range (da_cons de_int da_nil))) (dg_n (pg_name (i := 4) scm_law_numbers.nd rfl (by first | exact .inl rfl | exact .inr rfl)))
        (dss_cons (ds_set (ps_set (i := 5) scm_law_numbers.nd rfl (by first | exact .inl rfl | exact .inr rfl) (de_op op_mod opd_mod (de_cb (pe_callTy call_int1 rfl T.b_int (by decide +kernel) (da_cons (de_op op_addA opd_add (de_op op_addA opd_add (de_op op_mulA opd_mul (de_var (pv 2)) de_int) (de_op op_mulA opd_mul (de_var (pv 4)) de_int)) de_int) da_nil)) cd_int) de_int)))
        (dss_one (ds_drop (de_bm (pe_bm PySem.F.plainAttrs_list PySem.F.slot_list_append PySem.F.type_list_append mt_append (de_var (pv 1)) (da_cons (de_op op_mod opd_mod (de_cb (pe_callTy call_int1 rfl T.b_int (by decide +kernel) (da_cons (de_op op_addA opd_add (de_op op_mulA opd_mul (de_var (pv 5)) de_int) (de_var (pv 4))) da_nil)) cd_int) de_int) da_nil)) md_app)))))))))))
  (dss_cons (ds_if (dt_cmp (op_eqA (hu_of64 hr)) opd_eqA (de_cb (pe_callB call_lenA rfl T.b_len (by decide +kernel) (da_cons (de_var (pv 1)) da_nil)) cd_len) de_int rfl)
    (dss_one (ds_drop (de_bm (pe_bm PySem.F.plainAttrs_list PySem.F.slot_list_append PySem.F.type_list_append mt_append (de_var (pv 1)) (da_cons de_int da_nil)) md_app)))
    dss_nil)
  (dss_one (ds_ret (de_var (pv 1))))))))
abbrev sm_law_draw : Stmt := topS 54
theorem scm_law_draw : FnScope ["row", "at", "limit", "mixed"] ["row", "at", "limit"] (defScope sm_law_draw) := ⟨rfl, rfl, rfl, by decide +kernel, rfl, by decide +kernel, by decide +kernel⟩
theorem goodm_law_draw (T : Tx P w K mg) (D : DefAt K mg "_law_draw" "_law_draw" sm_law_draw ["row", "at", "limit"])  : Good P w K mg base "_law_draw" 1 ["row", "at", "limit"] m_law_draw :=
  (D.good (N := ["row", "at", "limit", "mixed"]) scm_law_draw fun f cdv A outer s H E hr =>
  (dss_cons (ds_if (dt_cmp op_ltA opd_ord (de_var (pv 1)) (de_cb (pe_callB call_lenA rfl T.b_len (by decide +kernel) (da_cons (de_var (pv 0)) da_nil)) cd_len) rfl)
    (dss_one (ds_ret (de_op op_mod opd_mod (de_cb (pe_callTy call_int1 rfl T.b_int (by decide +kernel) (da_cons (de_ix ix_seq opd_ix (de_var (pv 0)) (de_var (pv 1)) (fun _ _ => rfl)) da_nil)) cd_int) (de_var (pv 2)))))
    dss_nil)
  (dss_cons (ds_set (ps_set (i := 3) scm_law_draw.nd rfl (by first | exact .inl rfl | exact .inr rfl) (de_op op_mod opd_mod (de_cb (pe_callTy call_int1 rfl T.b_int (by decide +kernel) (da_cons (de_op op_addA opd_add (de_op op_addA opd_add (de_op op_mulA opd_mul (de_ix ix_seq opd_ix (de_var (pv 0)) (de_op op_mod opd_mod (de_cb (pe_callTy call_int1 rfl T.b_int (by decide +kernel) (da_cons (de_var (pv 1)) da_nil)) cd_int) (de_cb (pe_callB call_lenA rfl T.b_len (by decide +kernel) (da_cons (de_var (pv 0)) da_nil)) cd_len)) (fun _ _ => rfl)) de_int) (de_op op_mulA opd_mul (de_var (pv 1)) de_int)) de_int) da_nil)) cd_int) de_int)))
  (dss_one (ds_ret (de_op op_mod opd_mod (de_cb (pe_callTy call_int1 rfl T.b_int (by decide +kernel) (da_cons (de_op op_mod opd_mod (de_cb (pe_callTy call_int1 rfl T.b_int (by decide +kernel) (da_cons (de_op op_addA opd_add (de_op op_mulA opd_mul (de_var (pv 3)) de_int) (de_var (pv 1))) da_nil)) cd_int) de_int) da_nil)) cd_int) (de_var (pv 2))))))))
abbrev sm_law_take : Stmt := topS 55
theorem scm_law_take : FnScope ["row", "spot", "limit"] ["row", "spot", "limit"] (defScope sm_law_take) := ⟨rfl, rfl, rfl, by decide +kernel, rfl, by decide +kernel, by decide +kernel⟩
theorem goodm_law_take (T : Tx P w K mg) (D : DefAt K mg "_law_take" "_law_take" sm_law_take ["row", "spot", "limit"]) (G_law_draw : Good P w K mg base "_law_draw" 1 ["row", "at", "limit"] m_law_draw) : Good P w K mg base "_law_take" 2 ["row", "spot", "limit"] m_law_take :=
  (D.good (N := ["row", "spot", "limit"]) scm_law_take fun f cdv A outer s H E hr =>
  (dss_cons (ds_put (ps_asg (de_op op_addA opd_add (de_ix ix_seq opd_ix (de_var (pv 1)) de_int (fun _ _ => rfl)) de_int) (pg_sub (de_var (pv 1)) de_int set_list)) sd_set)
  (dss_one (ds_ret (dc (takes_of rfl rfl rfl rfl) G_law_draw (hr.mono (by decide)) rfl rfl ((aCons_len (aCons_len (aCons_len aNil_len)))) (da_cons (de_var (pv 0)) (da_cons (de_op op_sub opd_sub (de_ix ix_seq opd_ix (de_var (pv 1)) de_int (fun _ _ => rfl)) de_int) (da_cons (de_var (pv 2)) da_nil))))))))
abbrev sm_law_letters : Stmt := topS 59
theorem scm_law_letters : FnScope ["row", "spot", "many", "made", "k"] ["row", "spot", "many"] (defScope sm_law_letters) := ⟨rfl, rfl, rfl, by decide +kernel, rfl, by decide +kernel, by decide +kernel⟩
theorem goodm_law_letters (T : Tx P w K mg) (D : DefAt K mg "_law_letters" "_law_letters" sm_law_letters ["row", "spot", "many"]) (G_law_take : Good P w K mg base "_law_take" 2 ["row", "spot", "limit"] m_law_take) : Good P w K mg base "_law_letters" 3 ["row", "spot", "many"] m_law_letters :=
  (D.good (N := ["row", "spot", "many", "made", "k"]) scm_law_letters fun f cdv A outer s H E hr =>
  (dss_cons (ds_set (ps_set (i := 3) scm_law_letters.nd rfl (by first | exact .inl rfl | exact .inr rfl) de_str))
  (dss_cons (ds_for (ps_for (passes_of rfl) rfl (di_rg1 (pi_range1 rfl T.b_range (da_cons (de_var (pv 2)) da_nil))) (dg_n (pg_name (i := 4) scm_law_letters.nd rfl (by first | exact .inl rfl | exact .inr rfl)))
    (dss_one (ds_set (ps_set (i := 3) scm_law_letters.nd rfl (by first | exact .inl rfl | exact .inr rfl) (de_op op_addA opd_add (de_var (pv 3)) (de_ix ix_seq opd_ix de_str (dc (takes_of rfl rfl rfl rfl) G_law_take (hr.mono (by decide)) rfl rfl ((aCons_len (aCons_len (aCons_len aNil_len)))) (da_cons (de_var (pv 0)) (da_cons (de_var (pv 1)) (da_cons de_int da_nil)))) (fun _ _ => rfl))))))))
  (dss_one (ds_ret (de_var (pv 3)))))))
abbrev sm_law_reserved : Stmt := topS 60
theorem scm_law_reserved : FnScope [] [] (defScope sm_law_reserved) := ⟨rfl, rfl, rfl, by decide +kernel, rfl, by decide +kernel, by decide +kernel⟩
theorem goodm_law_reserved (T : Tx P w K mg) (D : DefAt K mg "_law_reserved" "_law_reserved" sm_law_reserved [])  : Good P w K mg base "_law_reserved" 1 [] m_law_reserved :=
  (D.good (N := []) scm_law_reserved fun f cdv A outer s H E hr =>
  (dss_one (ds_ret (de_lst (da_cons de_str (da_cons de_str (da_cons de_str (da_cons de_str (da_cons de_str da_nil)))))))))
abbrev sm_law_name : Stmt := topS 61
theorem scm_law_name : FnScope ["row", "spot", "used", "made", "k"] ["row", "spot", "used"] (defScope sm_law_name) := ⟨rfl, rfl, rfl, by decide +kernel, rfl, by decide +kernel, by decide +kernel⟩
theorem goodm_law_name (T : Tx P w K mg) (D : DefAt K mg "_law_name" "_law_name" sm_law_name ["row", "spot", "used"]) (G_law_letters : Good P w K mg base "_law_letters" 3 ["row", "spot", "many"] m_law_letters) (G_law_take : Good P w K mg base "_law_take" 2 ["row", "spot", "limit"] m_law_take) (G_law_reserved : Good P w K mg base "_law_reserved" 1 [] m_law_reserved) : Good P w K mg base "_law_name" 4 ["row", "spot", "used"] m_law_name :=
  (D.good (N := ["row", "spot", "used", "made", "k"]) scm_law_name fun f cdv A outer s H E hr =>
  (dss_cons (ds_set (ps_set (i := 3) scm_law_name.nd rfl (by first | exact .inl rfl | exact .inr rfl) (dc (takes_of rfl rfl rfl rfl) G_law_letters (hr.mono (by decide)) rfl rfl ((aCons_len (aCons_len (aCons_len aNil_len)))) (da_cons (de_var (pv 0)) (da_cons (de_var (pv 1)) (da_cons (de_op op_addA opd_add de_int (dc (takes_of rfl rfl rfl rfl) G_law_take (hr.mono (by decide)) rfl rfl ((aCons_len (aCons_len (aCons_len aNil_len)))) (da_cons (de_var (pv 0)) (da_cons (de_var (pv 1)) (da_cons (de_if (dt_cmp op_gtA opd_ord (dc (takes_of rfl rfl rfl rfl) G_law_take (hr.mono (by decide)) rfl rfl ((aCons_len (aCons_len (aCons_len aNil_len)))) (da_cons (de_var (pv 0)) (da_cons (de_var (pv 1)) (da_cons de_int da_nil)))) de_int rfl) de_int de_int) da_nil))))) da_nil))))))
  (dss_cons (ds_for (ps_for (passes_of rfl) rfl (di_rg1 (pi_range1 rfl T.b_range (da_cons de_int da_nil))) (dg_n (pg_name (i := 4) scm_law_name.nd rfl (by first | exact .inl rfl | exact .inr rfl)))
    (dss_cons (ds_if (PW.pt (dw_and (dt_cmp op_notInA opd_in (de_var (pv 3)) (de_var (pv 2)) rfl) (dw_and1 (dt_cmp op_notInA opd_in (de_var (pv 3)) (dc0 (takes_of rfl rfl rfl rfl) G_law_reserved (hr.mono (by decide)) rfl rfl) rfl))))
      (dss_one ds_break)
      dss_nil)
    (dss_cons (ds_set (ps_set (i := 3) scm_law_name.nd rfl (by first | exact .inl rfl | exact .inr rfl) (de_op op_addA opd_add (de_sl (pe_slice sl_all (de_var (pv 3)) do_none (do_some de_int)) sld_f) (de_ix ix_seq opd_ix de_str (de_op op_mod opd_mod (de_cb (pe_callTy call_int1 rfl T.b_int (by decide +kernel) (da_cons (de_op op_addA opd_add (de_op op_mulA opd_mul (de_var (pv 4)) de_int) (de_cb (pe_callB call_lenA rfl T.b_len (by decide +kernel) (da_cons (de_var (pv 2)) da_nil)) cd_len)) da_nil)) cd_int) de_int) (fun _ _ => rfl)))))
    (dss_one (ds_if (dt_cmp op_gtA opd_ord (de_var (pv 4)) de_int rfl)
      (dss_one (ds_set (ps_set (i := 3) scm_law_name.nd rfl (by first | exact .inl rfl | exact .inr rfl) (de_op op_addA opd_add (de_sl (pe_slice sl_all (de_var (pv 3)) (do_some de_int) do_none) sld_f) de_str))))
      dss_nil))))))
  (dss_cons (ds_drop (de_bm (pe_bm PySem.F.plainAttrs_list PySem.F.slot_list_append PySem.F.type_list_append mt_append (de_var (pv 2)) (da_cons (de_var (pv 3)) da_nil)) md_app))
  (dss_one (ds_ret (de_var (pv 3))))))))
abbrev sm_law_names : Stmt := topS 62
theorem scm_law_names : FnScope ["row", "spot", "many", "used", "k"] ["row", "spot", "many"] (defScope sm_law_names) := ⟨rfl, rfl, rfl, by decide +kernel, rfl, by decide +kernel, by decide +kernel⟩
theorem goodm_law_names (T : Tx P w K mg) (D : DefAt K mg "_law_names" "_law_names" sm_law_names ["row", "spot", "many"]) (G_law_name : Good P w K mg base "_law_name" 4 ["row", "spot", "used"] m_law_name) : Good P w K mg base "_law_names" 5 ["row", "spot", "many"] m_law_names :=
  (D.good (N := ["row", "spot", "many", "used", "k"]) scm_law_names fun f cdv A outer s H E hr =>
  (dss_cons (ds_set (ps_set (i := 3) scm_law_names.nd rfl (by first | exact .inl rfl | exact .inr rfl) (de_cell da_nil)))
  (dss_cons (ds_for (ps_for (passes_of rfl) rfl (di_rg1 (pi_range1 rfl T.b_range (da_cons (de_var (pv 2)) da_nil))) (dg_n (pg_name (i := 4) scm_law_names.nd rfl (by first | exact .inl rfl | exact .inr rfl)))
    (dss_one (ds_drop (dc (takes_of rfl rfl rfl rfl) G_law_name (hr.mono (by decide)) rfl rfl ((aCons_len (aCons_len (aCons_len aNil_len)))) (da_cons (de_var (pv 0)) (da_cons (de_var (pv 1)) (da_cons (de_var (pv 3)) da_nil))))))))
  (dss_one (ds_ret (de_cb (pe_callB (call_sortA rfl) rfl T.b_sorted (by decide +kernel) (da_cons (de_var (pv 3)) da_nil)) cd_sort))))))
abbrev sm_law_pick : Stmt := topS 58
theorem scm_law_pick : FnScope ["row", "spot", "things"] ["row", "spot", "things"] (defScope sm_law_pick) := ⟨rfl, rfl, rfl, by decide +kernel, rfl, by decide +kernel, by decide +kernel⟩
theorem goodm_law_pick (T : Tx P w K mg) (D : DefAt K mg "_law_pick" "_law_pick" sm_law_pick ["row", "spot", "things"]) (G_law_take : Good P w K mg base "_law_take" 2 ["row", "spot", "limit"] m_law_take) : Good P w K mg base "_law_pick" 3 ["row", "spot", "things"] m_law_pick :=
  (D.good (N := ["row", "spot", "things"]) scm_law_pick fun f cdv A outer s H E hr =>
  (dss_one (ds_ret (de_ix ix_seq opd_ix (de_var (pv 2)) (dc (takes_of rfl rfl rfl rfl) G_law_take (hr.mono (by decide)) rfl rfl ((aCons_len (aCons_len (aCons_len aNil_len)))) (da_cons (de_var (pv 0)) (da_cons (de_var (pv 1)) (da_cons (de_cb (pe_callB call_lenA rfl T.b_len (by decide +kernel) (da_cons (de_var (pv 2)) da_nil)) cd_len) da_nil)))) (fun _ _ => rfl)))))
abbrev sm_law_tree : Stmt := topS 70
theorem scm_law_tree : FnScope ["row", "spot", "names", "depth", "most", "kind", "many", "es", "k"] ["row", "spot", "names", "depth", "most"] (defScope sm_law_tree) := ⟨rfl, rfl, rfl, by decide +kernel, rfl, by decide +kernel, by decide +kernel⟩
theorem goodm_law_tree (T : Tx P w K mg) (D : DefAt K mg "_law_tree" "_law_tree" sm_law_tree ["row", "spot", "names", "depth", "most"]) (G_law_take : Good P w K mg base "_law_take" 2 ["row", "spot", "limit"] m_law_take) (G_law_pick : Good P w K mg base "_law_pick" 3 ["row", "spot", "things"] m_law_pick) : ∀ n, Good P w K mg base "_law_tree" (4 + n) ["row", "spot", "names", "depth", "most"] (m_law_tree n)
  | 0 => (D.none scm_law_tree).mono (by omega)
  | n + 1 => have G := goodm_law_tree T D G_law_take G_law_pick n
  (D.good (N := ["row", "spot", "names", "depth", "most", "kind", "many", "es", "k"]) scm_law_tree fun f cdv A outer s H E hr =>
  (dss_cons (ds_set (ps_set (i := 5) scm_law_tree.nd rfl (by first | exact .inl rfl | exact .inr rfl) (dc (takes_of rfl rfl rfl rfl) G_law_take (hr.mono (by first | omega | (simp only [Nat.add_eq]; omega))) rfl rfl ((aCons_len (aCons_len (aCons_len aNil_len)))) (da_cons (de_var (pv 0)) (da_cons (de_var (pv 1)) (da_cons de_int da_nil))))))
  (dss_cons (ds_if (PW.pt (dw_or (dt_cmp op_leA opd_ord (de_var (pv 3)) de_int rfl) (dw_or1 (dt_cmp op_leA opd_ord (de_var (pv 5)) de_int rfl))))
    (dss_cons (ds_if (PW.pt (dw_and (dt_cmp (op_eqA (hu_of64 hr)) opd_eqA (de_var (pv 5)) de_int rfl) (dw_and1 (dt_cmp (op_eqA (hu_of64 hr)) opd_eqA (dc (takes_of rfl rfl rfl rfl) G_law_take (hr.mono (by first | omega | (simp only [Nat.add_eq]; omega))) rfl rfl ((aCons_len (aCons_len (aCons_len aNil_len)))) (da_cons (de_var (pv 0)) (da_cons (de_var (pv 1)) (da_cons de_int da_nil)))) de_int rfl))))
      (dss_one (ds_ret (de_if (dt_cmp (op_eqA (hu_of64 hr)) opd_eqA (dc (takes_of rfl rfl rfl rfl) G_law_take (hr.mono (by first | omega | (simp only [Nat.add_eq]; omega))) rfl rfl ((aCons_len (aCons_len (aCons_len aNil_len)))) (da_cons (de_var (pv 0)) (da_cons (de_var (pv 1)) (da_cons de_int da_nil)))) de_int rfl) (de_tup (da_cons de_str (da_cons (de_tup da_nil) da_nil))) (de_tup (da_cons de_str (da_cons (de_tup da_nil) da_nil))))))
      dss_nil)
    (dss_one (ds_ret (de_tup (da_cons de_str (da_cons (dc (takes_of rfl rfl rfl rfl) G_law_pick (hr.mono (by first | omega | (simp only [Nat.add_eq]; omega))) rfl rfl ((aCons_len (aCons_len (aCons_len aNil_len)))) (da_cons (de_var (pv 0)) (da_cons (de_var (pv 1)) (da_cons (de_var (pv 2)) da_nil)))) da_nil))))))
    dss_nil)
  (dss_cons (ds_set (ps_set (i := 6) scm_law_tree.nd rfl (by first | exact .inl rfl | exact .inr rfl) (de_op op_addA opd_add de_int (dc (takes_of rfl rfl rfl rfl) G_law_take (hr.mono (by first | omega | (simp only [Nat.add_eq]; omega))) rfl rfl ((aCons_len (aCons_len (aCons_len aNil_len)))) (da_cons (de_var (pv 0)) (da_cons (de_var (pv 1)) (da_cons (de_op op_sub opd_sub (de_var (pv 4)) de_int) da_nil)))))))
  (dss_cons (ds_if (dt_cmp op_geA opd_ord (de_var (pv 5)) de_int rfl)
    (dss_one (ds_set (ps_set (i := 6) scm_law_tree.nd rfl (by first | exact .inl rfl | exact .inr rfl) (de_op op_addA opd_add de_int (dc (takes_of rfl rfl rfl rfl) G_law_take (hr.mono (by first | omega | (simp only [Nat.add_eq]; omega))) rfl rfl ((aCons_len (aCons_len (aCons_len aNil_len)))) (da_cons (de_var (pv 0)) (da_cons (de_var (pv 1)) (da_cons (de_var (pv 4)) da_nil))))))))
    dss_nil)
  (dss_cons (ds_set (ps_set (i := 7) scm_law_tree.nd rfl (by first | exact .inl rfl | exact .inr rfl) (de_cell da_nil)))
  (dss_cons (ds_for (ps_for (passes_of rfl) rfl (di_rg1 (pi_range1 rfl T.b_range (da_cons (de_var (pv 6)) da_nil))) (dg_n (pg_name (i := 8) scm_law_tree.nd rfl (by first | exact .inl rfl | exact .inr rfl)))
    (dss_one (ds_drop (de_bm (pe_bm PySem.F.plainAttrs_list PySem.F.slot_list_append PySem.F.type_list_append mt_append (de_var (pv 7)) (da_cons (dc (takes_of rfl rfl rfl rfl) G (hr.mono (by first | omega | (simp only [Nat.add_eq]; omega))) rfl rfl ((aCons_len (aCons_len (aCons_len (aCons_len (aCons_len aNil_len)))))) (da_cons (de_var (pv 0)) (da_cons (de_var (pv 1)) (da_cons (de_var (pv 2)) (da_cons (de_op op_sub opd_sub (de_var (pv 3)) de_int) (da_cons (de_if (dt_cmp op_gtA opd_ord (de_var (pv 3)) de_int rfl) (de_var (pv 4)) de_int) da_nil)))))) da_nil)) md_app)))))
  (dss_cons (ds_if (dt_cmp op_leA opd_ord (de_var (pv 5)) de_int rfl)
    (dss_one (ds_ret (de_tup (da_cons de_str (da_cons (de_cb (pe_callTy call_tupF rfl T.b_tuple (by decide +kernel) (da_cons (de_var (pv 7)) da_nil)) cd_tuple) da_nil)))))
    dss_nil)
  (dss_cons (ds_if (dt_cmp op_leA opd_ord (de_var (pv 5)) de_int rfl)
    (dss_one (ds_ret (de_tup (da_cons de_str (da_cons (de_cb (pe_callTy call_tupF rfl T.b_tuple (by decide +kernel) (da_cons (de_var (pv 7)) da_nil)) cd_tuple) da_nil)))))
    dss_nil)
  (dss_one (ds_ret (de_tup (da_cons de_str (da_cons (de_op op_addA opd_add de_int (dc (takes_of rfl rfl rfl rfl) G_law_take (hr.mono (by first | omega | (simp only [Nat.add_eq]; omega))) rfl rfl ((aCons_len (aCons_len (aCons_len aNil_len)))) (da_cons (de_var (pv 0)) (da_cons (de_var (pv 1)) (da_cons (de_var (pv 6)) da_nil))))) (da_cons (de_cb (pe_callTy call_tupF rfl T.b_tuple (by decide +kernel) (da_cons (de_var (pv 7)) da_nil)) cd_tuple) da_nil)))))))))))))))
abbrev sm_law_small : Stmt := topS 79
theorem scm_law_small : FnScope ["row", "spot", "names"] ["row", "spot", "names"] (defScope sm_law_small) := ⟨rfl, rfl, rfl, by decide +kernel, rfl, by decide +kernel, by decide +kernel⟩
theorem goodm_law_small (T : Tx P w K mg) (D : DefAt K mg "_law_small" "_law_small" sm_law_small ["row", "spot", "names"]) (G_law_tree : ∀ n, Good P w K mg base "_law_tree" (4 + n) ["row", "spot", "names", "depth", "most"] (m_law_tree n)) (G_law_take : Good P w K mg base "_law_take" 2 ["row", "spot", "limit"] m_law_take) : Good P w K mg base "_law_small" 29 ["row", "spot", "names"] m_law_small :=
  (D.good (N := ["row", "spot", "names"]) scm_law_small fun f cdv A outer s H E hr =>
  (dss_one (ds_ret (dc (takes_of rfl rfl rfl rfl) (G_law_tree 24) (hr.mono (by decide)) rfl rfl ((aCons_len (aCons_len (aCons_len (aCons_len (aCons_len aNil_len)))))) (da_cons (de_var (pv 0)) (da_cons (de_var (pv 1)) (da_cons (de_var (pv 2)) (da_cons (de_op op_addA opd_add de_int (dc (takes_of rfl rfl rfl rfl) G_law_take (hr.mono (by decide)) rfl rfl ((aCons_len (aCons_len (aCons_len aNil_len)))) (da_cons (de_var (pv 0)) (da_cons (de_var (pv 1)) (da_cons de_int da_nil))))) (da_cons de_int da_nil)))))))))
abbrev sm_law_gcd : Stmt := topS 63
theorem scm_law_gcd : FnScope ["one", "other", "left", "right", "k", "rest"] ["one", "other"] (defScope sm_law_gcd) := ⟨rfl, rfl, rfl, by decide +kernel, rfl, by decide +kernel, by decide +kernel⟩
theorem goodm_law_gcd (T : Tx P w K mg) (D : DefAt K mg "_law_gcd" "_law_gcd" sm_law_gcd ["one", "other"])  : Good P w K mg base "_law_gcd" 1 ["one", "other"] m_law_gcd :=
  (D.good (N := ["one", "other", "left", "right", "k", "rest"]) scm_law_gcd fun f cdv A outer s H E hr =>
  (dss_cons (ds_set (ps_set (i := 2) scm_law_gcd.nd rfl (by first | exact .inl rfl | exact .inr rfl) (de_if (dt_cmp op_geA opd_ord (de_var (pv 0)) de_int rfl) (de_var (pv 0)) (de_un un_neg und_neg (de_var (pv 0))))))
  (dss_cons (ds_set (ps_set (i := 3) scm_law_gcd.nd rfl (by first | exact .inl rfl | exact .inr rfl) (de_if (dt_cmp op_geA opd_ord (de_var (pv 1)) de_int rfl) (de_var (pv 1)) (de_un un_neg und_neg (de_var (pv 1))))))
  (dss_cons (ds_for (ps_for (passes_of rfl) rfl (di_rg1 (pi_range1 rfl T.b_range (da_cons de_int da_nil))) (dg_n (pg_name (i := 4) scm_law_gcd.nd rfl (by first | exact .inl rfl | exact .inr rfl)))
    (dss_cons (ds_if (dt_cmp (op_eqA (hu_of64 hr)) opd_eqA (de_var (pv 3)) de_int rfl)
      (dss_one ds_break)
      dss_nil)
    (dss_cons (ds_set (ps_set (i := 5) scm_law_gcd.nd rfl (by first | exact .inl rfl | exact .inr rfl) (de_op op_mod opd_mod (de_cb (pe_callTy call_int1 rfl T.b_int (by decide +kernel) (da_cons (de_var (pv 2)) da_nil)) cd_int) (de_var (pv 3)))))
    (dss_cons (ds_set (ps_set (i := 2) scm_law_gcd.nd rfl (by first | exact .inl rfl | exact .inr rfl) (de_var (pv 3))))
    (dss_one (ds_set (ps_set (i := 3) scm_law_gcd.nd rfl (by first | exact .inl rfl | exact .inr rfl) (de_var (pv 5))))))))))
  (dss_one (ds_ret (de_var (pv 2))))))))
abbrev sm_law_red : Stmt := topS 64
theorem scm_law_red : FnScope ["n", "d", "common"] ["n", "d"] (defScope sm_law_red) := ⟨rfl, rfl, rfl, by decide +kernel, rfl, by decide +kernel, by decide +kernel⟩
theorem goodm_law_red (T : Tx P w K mg) (D : DefAt K mg "_law_red" "_law_red" sm_law_red ["n", "d"]) (G_law_gcd : Good P w K mg base "_law_gcd" 1 ["one", "other"] m_law_gcd) : ∀ n, Good P w K mg base "_law_red" (2 + n) ["n", "d"] (m_law_red n)
  | 0 => (D.none scm_law_red).mono (by omega)
  | n + 1 => have G := goodm_law_red T D G_law_gcd n
  (D.good (N := ["n", "d", "common"]) scm_law_red fun f cdv A outer s H E hr =>
  (dss_cons (ds_if (dt_cmp op_ltA opd_ord (de_var (pv 1)) de_int rfl)
    (dss_one (ds_ret (dc (takes_of rfl rfl rfl rfl) G (hr.mono (by first | omega | (simp only [Nat.add_eq]; omega))) rfl rfl ((aCons_len (aCons_len aNil_len))) (da_cons (de_un un_neg und_neg (de_var (pv 0))) (da_cons (de_un un_neg und_neg (de_var (pv 1))) da_nil)))))
    dss_nil)
  (dss_cons (ds_set (ps_set (i := 2) scm_law_red.nd rfl (by first | exact .inl rfl | exact .inr rfl) (dc (takes_of rfl rfl rfl rfl) G_law_gcd (hr.mono (by first | omega | (simp only [Nat.add_eq]; omega))) rfl rfl ((aCons_len (aCons_len aNil_len))) (da_cons (de_var (pv 0)) (da_cons (de_var (pv 1)) da_nil)))))
  (dss_cons (ds_if (dt_cmp (op_eqA (hu_of64 hr)) opd_eqA (de_var (pv 2)) de_int rfl)
    (dss_one (ds_ret (de_tup (da_cons de_int (da_cons de_int da_nil)))))
    dss_nil)
  (dss_one (ds_ret (de_tup (da_cons (de_op op_fdivA opd_fdiv (de_var (pv 0)) (de_var (pv 2))) (da_cons (de_op op_fdivA opd_fdiv (de_var (pv 1)) (de_var (pv 2))) da_nil)))))))))
abbrev sm_law_chance : Stmt := topS 69
theorem scm_law_chance : FnScope ["row", "spot", "kind", "low"] ["row", "spot"] (defScope sm_law_chance) := ⟨rfl, rfl, rfl, by decide +kernel, rfl, by decide +kernel, by decide +kernel⟩
theorem goodm_law_chance (T : Tx P w K mg) (D : DefAt K mg "_law_chance" "_law_chance" sm_law_chance ["row", "spot"]) (G_law_take : Good P w K mg base "_law_take" 2 ["row", "spot", "limit"] m_law_take) (G_law_red : ∀ n, Good P w K mg base "_law_red" (2 + n) ["n", "d"] (m_law_red n)) : Good P w K mg base "_law_chance" 27 ["row", "spot"] m_law_chance :=
  (D.good (N := ["row", "spot", "kind", "low"]) scm_law_chance fun f cdv A outer s H E hr =>
  (dss_cons (ds_set (ps_set (i := 2) scm_law_chance.nd rfl (by first | exact .inl rfl | exact .inr rfl) (dc (takes_of rfl rfl rfl rfl) G_law_take (hr.mono (by decide)) rfl rfl ((aCons_len (aCons_len (aCons_len aNil_len)))) (da_cons (de_var (pv 0)) (da_cons (de_var (pv 1)) (da_cons de_int da_nil))))))
  (dss_cons (ds_if (dt_cmp (op_eqA (hu_of64 hr)) opd_eqA (de_var (pv 2)) de_int rfl)
    (dss_one (ds_ret (de_tup (da_cons de_int (da_cons de_int da_nil)))))
    dss_nil)
  (dss_cons (ds_if (dt_cmp (op_eqA (hu_of64 hr)) opd_eqA (de_var (pv 2)) de_int rfl)
    (dss_one (ds_ret (de_tup (da_cons de_int (da_cons de_int da_nil)))))
    dss_nil)
  (dss_cons (ds_set (ps_set (i := 3) scm_law_chance.nd rfl (by first | exact .inl rfl | exact .inr rfl) (de_op op_addA opd_add de_int (dc (takes_of rfl rfl rfl rfl) G_law_take (hr.mono (by decide)) rfl rfl ((aCons_len (aCons_len (aCons_len aNil_len)))) (da_cons (de_var (pv 0)) (da_cons (de_var (pv 1)) (da_cons de_int da_nil)))))))
  (dss_one (ds_ret (dc (takes_of rfl rfl rfl rfl) (G_law_red 24) (hr.mono (by decide)) rfl rfl ((aCons_len (aCons_len aNil_len))) (da_cons (dc (takes_of rfl rfl rfl rfl) G_law_take (hr.mono (by decide)) rfl rfl ((aCons_len (aCons_len (aCons_len aNil_len)))) (da_cons (de_var (pv 0)) (da_cons (de_var (pv 1)) (da_cons (de_op op_addA opd_add (de_var (pv 3)) de_int) da_nil)))) (da_cons (de_var (pv 3)) da_nil))))))))))
abbrev sm_law_odds : Stmt := topS 77
theorem scm_law_odds : FnScope ["row", "spot", "names", "made", "name", "at"] ["row", "spot", "names"] (defScope sm_law_odds) := ⟨rfl, rfl, rfl, by decide +kernel, rfl, by decide +kernel, by decide +kernel⟩
theorem goodm_law_odds (T : Tx P w K mg) (D : DefAt K mg "_law_odds" "_law_odds" sm_law_odds ["row", "spot", "names"]) (G_law_take : Good P w K mg base "_law_take" 2 ["row", "spot", "limit"] m_law_take) (G_law_chance : Good P w K mg base "_law_chance" 27 ["row", "spot"] m_law_chance) : Good P w K mg base "_law_odds" 28 ["row", "spot", "names"] m_law_odds :=
  (D.good (N := ["row", "spot", "names", "made", "name", "at"]) scm_law_odds fun f cdv A outer s H E hr =>
  (dss_cons (ds_set (ps_set (i := 3) scm_law_odds.nd rfl (by first | exact .inl rfl | exact .inr rfl) (de_cell da_nil)))
  (dss_cons (ds_for (ps_for (passes_of rfl) rfl (di_seq (de_var (pv 2))) (dg_n (pg_name (i := 4) scm_law_odds.nd rfl (by first | exact .inl rfl | exact .inr rfl)))
    (dss_cons (ds_set (ps_set (i := 5) scm_law_odds.nd rfl (by first | exact .inl rfl | exact .inr rfl) (dc (takes_of rfl rfl rfl rfl) G_law_take (hr.mono (by decide)) rfl rfl ((aCons_len (aCons_len (aCons_len aNil_len)))) (da_cons (de_var (pv 0)) (da_cons (de_var (pv 1)) (da_cons (de_op op_addA opd_add (de_cb (pe_callB call_lenA rfl T.b_len (by decide +kernel) (da_cons (de_var (pv 3)) da_nil)) cd_len) de_int) da_nil))))))
    (dss_one (ds_set (ps_set (i := 3) scm_law_odds.nd rfl (by first | exact .inl rfl | exact .inr rfl) (de_op op_addA opd_add (de_op op_addA opd_add (de_sl (pe_slice sl_all (de_var (pv 3)) do_none (do_some (de_var (pv 5)))) sld_f) (de_lst (da_cons (de_tup (da_cons (de_var (pv 4)) (da_cons (dc (takes_of rfl rfl rfl rfl) G_law_chance (hr.mono (by decide)) rfl rfl ((aCons_len (aCons_len aNil_len))) (da_cons (de_var (pv 0)) (da_cons (de_var (pv 1)) da_nil))) da_nil))) da_nil))) (de_sl (pe_slice sl_all (de_var (pv 3)) (do_some (de_var (pv 5))) do_none) sld_f))))))))
  (dss_one (ds_ret (de_cb (pe_callTy call_tupF rfl T.b_tuple (by decide +kernel) (da_cons (de_var (pv 3)) da_nil)) cd_tuple))))))
abbrev sm_law_parts : Stmt := topS 71
theorem scm_law_parts : FnScope ["e", "made", "one", "name"] ["e"] (defScope sm_law_parts) := ⟨rfl, rfl, rfl, by decide +kernel, rfl, by decide +kernel, by decide +kernel⟩
theorem goodm_law_parts (T : Tx P w K mg) (D : DefAt K mg "_law_parts" "_law_parts" sm_law_parts ["e"])  : ∀ n, Good P w K mg base "_law_parts" (1 + n) ["e"] (m_law_parts n)
  | 0 => (D.none scm_law_parts).mono (by omega)
  | n + 1 => have G := goodm_law_parts T D  n
  (D.good (N := ["e", "made", "one", "name"]) scm_law_parts fun f cdv A outer s H E hr =>
  (dss_cons (ds_if (dt_cmp (op_eqA (hu_of64 hr)) opd_eqA (de_ix ix_seq opd_ix (de_var (pv 0)) de_int (fun _ _ => rfl)) de_str rfl)
    (dss_one (ds_ret (de_lst (da_cons (de_ix ix_seq opd_ix (de_var (pv 0)) de_int (fun _ _ => rfl)) da_nil))))
    dss_nil)
  (dss_cons (ds_set (ps_set (i := 1) scm_law_parts.nd rfl (by first | exact .inl rfl | exact .inr rfl) (de_cell da_nil)))
  (dss_cons (ds_for (ps_for (passes_of rfl) rfl (di_seq (de_ix ix_seq opd_ix (de_var (pv 0)) (de_op op_sub opd_sub (de_cb (pe_callB call_lenA rfl T.b_len (by decide +kernel) (da_cons (de_var (pv 0)) da_nil)) cd_len) de_int) (fun _ _ => rfl))) (dg_n (pg_name (i := 2) scm_law_parts.nd rfl (by first | exact .inl rfl | exact .inr rfl)))
    (dss_one (ds_for (ps_for (passes_of rfl) rfl (di_seq (dc (takes_of rfl rfl rfl rfl) G (hr.mono (by first | omega | (simp only [Nat.add_eq]; omega))) rfl rfl ((aCons_len aNil_len)) (da_cons (de_var (pv 2)) da_nil))) (dg_n (pg_name (i := 3) scm_law_parts.nd rfl (by first | exact .inl rfl | exact .inr rfl)))
      (dss_one (ds_if (dt_cmp op_notInA opd_in (de_var (pv 3)) (de_var (pv 1)) rfl)
        (dss_one (ds_drop (de_bm (pe_bm PySem.F.plainAttrs_list PySem.F.slot_list_append PySem.F.type_list_append mt_append (de_var (pv 1)) (da_cons (de_var (pv 3)) da_nil)) md_app)))
        dss_nil)))))))
  (dss_one (ds_ret (de_cb (pe_callB (call_sortA rfl) rfl T.b_sorted (by decide +kernel) (da_cons (de_var (pv 1)) da_nil)) cd_sort)))))))
abbrev sm_law_sub : Stmt := topS 66
theorem scm_law_sub : FnScope ["one", "other"] ["one", "other"] (defScope sm_law_sub) := ⟨rfl, rfl, rfl, by decide +kernel, rfl, by decide +kernel, by decide +kernel⟩
theorem goodm_law_sub (T : Tx P w K mg) (D : DefAt K mg "_law_sub" "_law_sub" sm_law_sub ["one", "other"]) (G_law_red : ∀ n, Good P w K mg base "_law_red" (2 + n) ["n", "d"] (m_law_red n)) : Good P w K mg base "_law_sub" 27 ["one", "other"] m_law_sub :=
  (D.good (N := ["one", "other"]) scm_law_sub fun f cdv A outer s H E hr =>
  (dss_one (ds_ret (dc (takes_of rfl rfl rfl rfl) (G_law_red 24) (hr.mono (by decide)) rfl rfl ((aCons_len (aCons_len aNil_len))) (da_cons (de_op op_sub opd_sub (de_op op_mulA opd_mul (de_ix ix_seq opd_ix (de_var (pv 0)) de_int (fun _ _ => rfl)) (de_ix ix_seq opd_ix (de_var (pv 1)) de_int (fun _ _ => rfl))) (de_op op_mulA opd_mul (de_ix ix_seq opd_ix (de_var (pv 1)) de_int (fun _ _ => rfl)) (de_ix ix_seq opd_ix (de_var (pv 0)) de_int (fun _ _ => rfl)))) (da_cons (de_op op_mulA opd_mul (de_ix ix_seq opd_ix (de_var (pv 0)) de_int (fun _ _ => rfl)) (de_ix ix_seq opd_ix (de_var (pv 1)) de_int (fun _ _ => rfl))) da_nil))))))
abbrev sm_law_not : Stmt := topS 81
theorem scm_law_not : FnScope ["one"] ["one"] (defScope sm_law_not) := ⟨rfl, rfl, rfl, by decide +kernel, rfl, by decide +kernel, by decide +kernel⟩
theorem goodm_law_not (T : Tx P w K mg) (D : DefAt K mg "_law_not" "_law_not" sm_law_not ["one"]) (G_law_sub : Good P w K mg base "_law_sub" 27 ["one", "other"] m_law_sub) : Good P w K mg base "_law_not" 28 ["one"] m_law_not :=
  (D.good (N := ["one"]) scm_law_not fun f cdv A outer s H E hr =>
  (dss_one (ds_ret (dc (takes_of rfl rfl rfl rfl) G_law_sub (hr.mono (by decide)) rfl rfl ((aCons_len (aCons_len aNil_len))) (da_cons (de_tup (da_cons de_int (da_cons de_int da_nil))) (da_cons (de_var (pv 0)) da_nil))))))
abbrev sm_law_sets : Stmt := topS 73
theorem scm_law_sets : FnScope ["names", "made", "name", "one"] ["names"] (defScope sm_law_sets) := ⟨rfl, rfl, rfl, by decide +kernel, rfl, by decide +kernel, by decide +kernel⟩
theorem goodm_law_sets (T : Tx P w K mg) (D : DefAt K mg "_law_sets" "_law_sets" sm_law_sets ["names"])  : Good P w K mg base "_law_sets" 1 ["names"] m_law_sets :=
  (D.good (N := ["names", "made", "name", "one"]) scm_law_sets fun f cdv A outer s H E hr =>
  (dss_cons (ds_set (ps_set (i := 1) scm_law_sets.nd rfl (by first | exact .inl rfl | exact .inr rfl) (de_cell (da_cons (de_lst da_nil) da_nil))))
  (dss_cons (ds_for (ps_for (passes_of rfl) rfl (di_seq (de_var (pv 0))) (dg_n (pg_name (i := 2) scm_law_sets.nd rfl (by first | exact .inl rfl | exact .inr rfl)))
    (dss_one (ds_set (ps_set (i := 1) scm_law_sets.nd rfl (by first | exact .inl rfl | exact .inr rfl) (de_op op_addA opd_add (de_var (pv 1)) (de_lc (by decide) (pe_lc (own := [("one", 3)]) rfl scm_law_sets.nd (di_seq (de_var (pv 1))) (blkOk_by (N := ["names", "made", "name", "one"]) (sc := (defScope sm_law_sets)) (by decide +kernel)) (fun _ _ _ _ _ => (dg_n (pg_name (i := 3) scm_law_sets.nd rfl (by first | exact .inl rfl | exact .inr rfl)))) (fun _ _ _ _ _ => dts_nil) (fun _ _ _ _ _ => (de_op op_addA opd_add (de_var (pv 3)) (de_lst (da_cons (de_var (pv 2)) da_nil))))))))))))
  (dss_one (ds_ret (de_var (pv 1)))))))
abbrev sm_law_works : Stmt := topS 72
theorem scm_law_works : FnScope ["e", "up", "many", "one"] ["e", "up"] (defScope sm_law_works) := ⟨rfl, rfl, rfl, by decide +kernel, rfl, by decide +kernel, by decide +kernel⟩
theorem goodm_law_works (T : Tx P w K mg) (D : DefAt K mg "_law_works" "_law_works" sm_law_works ["e", "up"])  : ∀ n, Good P w K mg base "_law_works" (1 + n) ["e", "up"] (m_law_works n)
  | 0 => (D.none scm_law_works).mono (by omega)
  | n + 1 => have G := goodm_law_works T D  n
  (D.good (N := ["e", "up", "many", "one"]) scm_law_works fun f cdv A outer s H E hr =>
  (dss_cons (ds_if (dt_cmp (op_eqA (hu_of64 hr)) opd_eqA (de_ix ix_seq opd_ix (de_var (pv 0)) de_int (fun _ _ => rfl)) de_str rfl)
    (dss_one (ds_ret (de_cmp op_inA opd_in (de_ix ix_seq opd_ix (de_var (pv 0)) de_int (fun _ _ => rfl)) (de_var (pv 1)) rfl)))
    dss_nil)
  (dss_cons (ds_set (ps_set (i := 2) scm_law_works.nd rfl (by first | exact .inl rfl | exact .inr rfl) (de_cb (pe_callB call_lenA rfl T.b_len (by decide +kernel) (da_cons (de_lc (by decide) (pe_lc (own := [("one", 3)]) rfl scm_law_works.nd (di_seq (de_ix ix_seq opd_ix (de_var (pv 0)) (de_op op_sub opd_sub (de_cb (pe_callB call_lenA rfl T.b_len (by decide +kernel) (da_cons (de_var (pv 0)) da_nil)) cd_len) de_int) (fun _ _ => rfl))) (blkOk_by (N := ["e", "up", "many", "one"]) (sc := (defScope sm_law_works)) (by decide +kernel)) (fun _ _ _ _ _ => (dg_n (pg_name (i := 3) scm_law_works.nd rfl (by first | exact .inl rfl | exact .inr rfl)))) (fun _ _ _ _ _ => (dts_one (dt_tru (dc takes0 G (hr.mono (by first | omega | (simp only [Nat.add_eq]; omega))) rfl rfl ((aCons_len (aCons_len aNil_len))) (da_cons (de_var (pv 3)) (da_cons (de_var (pv 1)) da_nil)))))) (fun _ _ _ _ _ => (de_var (pv 3))))) da_nil)) cd_len)))
  (dss_cons (ds_if (dt_cmp (op_eqA (hu_of64 hr)) opd_eqA (de_ix ix_seq opd_ix (de_var (pv 0)) de_int (fun _ _ => rfl)) de_str rfl)
    (dss_one (ds_ret (de_cmp (op_eqA (hu_of64 hr)) opd_eqA (de_var (pv 2)) (de_cb (pe_callB call_lenA rfl T.b_len (by decide +kernel) (da_cons (de_ix ix_seq opd_ix (de_var (pv 0)) de_int (fun _ _ => rfl)) da_nil)) cd_len) rfl)))
    dss_nil)
  (dss_cons (ds_if (dt_cmp (op_eqA (hu_of64 hr)) opd_eqA (de_ix ix_seq opd_ix (de_var (pv 0)) de_int (fun _ _ => rfl)) de_str rfl)
    (dss_one (ds_ret (de_cmp op_gtA opd_ord (de_var (pv 2)) de_int rfl)))
    dss_nil)
  (dss_one (ds_ret (de_cmp op_geA opd_ord (de_var (pv 2)) (de_ix ix_seq opd_ix (de_var (pv 0)) de_int (fun _ _ => rfl)) rfl))))))))
abbrev sm_law_add : Stmt := topS 65
theorem scm_law_add : FnScope ["one", "other"] ["one", "other"] (defScope sm_law_add) := ⟨rfl, rfl, rfl, by decide +kernel, rfl, by decide +kernel, by decide +kernel⟩
theorem goodm_law_add (T : Tx P w K mg) (D : DefAt K mg "_law_add" "_law_add" sm_law_add ["one", "other"]) (G_law_red : ∀ n, Good P w K mg base "_law_red" (2 + n) ["n", "d"] (m_law_red n)) : Good P w K mg base "_law_add" 27 ["one", "other"] m_law_add :=
  (D.good (N := ["one", "other"]) scm_law_add fun f cdv A outer s H E hr =>
  (dss_one (ds_ret (dc (takes_of rfl rfl rfl rfl) (G_law_red 24) (hr.mono (by decide)) rfl rfl ((aCons_len (aCons_len aNil_len))) (da_cons (de_op op_addA opd_add (de_op op_mulA opd_mul (de_ix ix_seq opd_ix (de_var (pv 0)) de_int (fun _ _ => rfl)) (de_ix ix_seq opd_ix (de_var (pv 1)) de_int (fun _ _ => rfl))) (de_op op_mulA opd_mul (de_ix ix_seq opd_ix (de_var (pv 1)) de_int (fun _ _ => rfl)) (de_ix ix_seq opd_ix (de_var (pv 0)) de_int (fun _ _ => rfl)))) (da_cons (de_op op_mulA opd_mul (de_ix ix_seq opd_ix (de_var (pv 0)) de_int (fun _ _ => rfl)) (de_ix ix_seq opd_ix (de_var (pv 1)) de_int (fun _ _ => rfl))) da_nil))))))
abbrev sm_law_mul : Stmt := topS 67
theorem scm_law_mul : FnScope ["one", "other"] ["one", "other"] (defScope sm_law_mul) := ⟨rfl, rfl, rfl, by decide +kernel, rfl, by decide +kernel, by decide +kernel⟩
theorem goodm_law_mul (T : Tx P w K mg) (D : DefAt K mg "_law_mul" "_law_mul" sm_law_mul ["one", "other"]) (G_law_red : ∀ n, Good P w K mg base "_law_red" (2 + n) ["n", "d"] (m_law_red n)) : Good P w K mg base "_law_mul" 27 ["one", "other"] m_law_mul :=
  (D.good (N := ["one", "other"]) scm_law_mul fun f cdv A outer s H E hr =>
  (dss_one (ds_ret (dc (takes_of rfl rfl rfl rfl) (G_law_red 24) (hr.mono (by decide)) rfl rfl ((aCons_len (aCons_len aNil_len))) (da_cons (de_op op_mulA opd_mul (de_ix ix_seq opd_ix (de_var (pv 0)) de_int (fun _ _ => rfl)) (de_ix ix_seq opd_ix (de_var (pv 1)) de_int (fun _ _ => rfl))) (da_cons (de_op op_mulA opd_mul (de_ix ix_seq opd_ix (de_var (pv 0)) de_int (fun _ _ => rfl)) (de_ix ix_seq opd_ix (de_var (pv 1)) de_int (fun _ _ => rfl))) da_nil))))))
abbrev sm_law_prior : Stmt := topS 75
theorem scm_law_prior : FnScope ["names", "odds", "broken", "made", "name", "pair"] ["names", "odds", "broken"] (defScope sm_law_prior) := ⟨rfl, rfl, rfl, by decide +kernel, rfl, by decide +kernel, by decide +kernel⟩
theorem goodm_law_prior (T : Tx P w K mg) (D : DefAt K mg "_law_prior" "_law_prior" sm_law_prior ["names", "odds", "broken"]) (G_law_mul : Good P w K mg base "_law_mul" 27 ["one", "other"] m_law_mul) (G_law_sub : Good P w K mg base "_law_sub" 27 ["one", "other"] m_law_sub) : Good P w K mg base "_law_prior" 28 ["names", "odds", "broken"] m_law_prior :=
  (D.good (N := ["names", "odds", "broken", "made", "name", "pair"]) scm_law_prior fun f cdv A outer s H E hr =>
  (dss_cons (ds_set (ps_set (i := 3) scm_law_prior.nd rfl (by first | exact .inl rfl | exact .inr rfl) (de_tup (da_cons de_int (da_cons de_int da_nil)))))
  (dss_cons (ds_for (ps_for (passes_of rfl) rfl (di_seq (de_var (pv 0))) (dg_n (pg_name (i := 4) scm_law_prior.nd rfl (by first | exact .inl rfl | exact .inr rfl)))
    (dss_one (ds_for (ps_for (passes_of rfl) rfl (di_seq (de_var (pv 1))) (dg_n (pg_name (i := 5) scm_law_prior.nd rfl (by first | exact .inl rfl | exact .inr rfl)))
      (dss_one (ds_if (dt_cmp (op_eqA (hu_of64 hr)) opd_eqA (de_ix ix_seq opd_ix (de_var (pv 5)) de_int (fun _ _ => rfl)) (de_var (pv 4)) rfl)
        (dss_one (ds_set (ps_set (i := 3) scm_law_prior.nd rfl (by first | exact .inl rfl | exact .inr rfl) (dc (takes_of rfl rfl rfl rfl) G_law_mul (hr.mono (by decide)) rfl rfl ((aCons_len (aCons_len aNil_len))) (da_cons (de_var (pv 3)) (da_cons (de_if (dt_cmp op_inA opd_in (de_var (pv 4)) (de_var (pv 2)) rfl) (dc (takes_of rfl rfl rfl rfl) G_law_sub (hr.mono (by decide)) rfl rfl ((aCons_len (aCons_len aNil_len))) (da_cons (de_tup (da_cons de_int (da_cons de_int da_nil))) (da_cons (de_ix ix_seq opd_ix (de_var (pv 5)) de_int (fun _ _ => rfl)) da_nil))) (de_ix ix_seq opd_ix (de_var (pv 5)) de_int (fun _ _ => rfl))) da_nil))))))
        dss_nil)))))))
  (dss_one (ds_ret (de_var (pv 3)))))))
abbrev sm_law_others : Stmt := topS 74
theorem scm_law_others : FnScope ["names", "some", "name"] ["names", "some"] (defScope sm_law_others) := ⟨rfl, rfl, rfl, by decide +kernel, rfl, by decide +kernel, by decide +kernel⟩
theorem goodm_law_others (T : Tx P w K mg) (D : DefAt K mg "_law_others" "_law_others" sm_law_others ["names", "some"])  : Good P w K mg base "_law_others" 1 ["names", "some"] m_law_others :=
  (D.good (N := ["names", "some", "name"]) scm_law_others fun f cdv A outer s H E hr =>
  (dss_one (ds_ret (de_lc (by decide) (pe_lc (own := [("name", 2)]) rfl scm_law_others.nd (di_seq (de_var (pv 0))) (blkOk_by (N := ["names", "some", "name"]) (sc := (defScope sm_law_others)) (by decide +kernel)) (fun _ _ _ _ _ => (dg_n (pg_name (i := 2) scm_law_others.nd rfl (by first | exact .inl rfl | exact .inr rfl)))) (fun _ _ _ _ _ => (dts_one (dt_cmp op_notInA opd_in (de_var (pv 2)) (de_var (pv 1)) rfl))) (fun _ _ _ _ _ => (de_var (pv 2))))))))
abbrev sm_law_sum_chance : Stmt := topS 76
theorem scm_law_sum_chance : FnScope ["e", "odds", "names", "total", "one"] ["e", "odds"] (defScope sm_law_sum_chance) := ⟨rfl, rfl, rfl, by decide +kernel, rfl, by decide +kernel, by decide +kernel⟩
theorem goodm_law_sum_chance (T : Tx P w K mg) (D : DefAt K mg "_law_sum_chance" "_law_sum_chance" sm_law_sum_chance ["e", "odds"]) (G_law_parts : ∀ n, Good P w K mg base "_law_parts" (1 + n) ["e"] (m_law_parts n)) (G_law_sets : Good P w K mg base "_law_sets" 1 ["names"] m_law_sets) (G_law_works : ∀ n, Good P w K mg base "_law_works" (1 + n) ["e", "up"] (m_law_works n)) (G_law_add : Good P w K mg base "_law_add" 27 ["one", "other"] m_law_add) (G_law_prior : Good P w K mg base "_law_prior" 28 ["names", "odds", "broken"] m_law_prior) (G_law_others : Good P w K mg base "_law_others" 1 ["names", "some"] m_law_others) : Good P w K mg base "_law_sum_chance" 29 ["e", "odds"] m_law_sum_chance :=
  (D.good (N := ["e", "odds", "names", "total", "one"]) scm_law_sum_chance fun f cdv A outer s H E hr =>
  (dss_cons (ds_set (ps_set (i := 2) scm_law_sum_chance.nd rfl (by first | exact .inl rfl | exact .inr rfl) (dc (takes_of rfl rfl rfl rfl) (G_law_parts 24) (hr.mono (by decide)) rfl rfl ((aCons_len aNil_len)) (da_cons (de_var (pv 0)) da_nil))))
  (dss_cons (ds_set (ps_set (i := 3) scm_law_sum_chance.nd rfl (by first | exact .inl rfl | exact .inr rfl) (de_tup (da_cons de_int (da_cons de_int da_nil)))))
  (dss_cons (ds_for (ps_for (passes_of rfl) rfl (di_seq (dc (takes_of rfl rfl rfl rfl) G_law_sets (hr.mono (by decide)) rfl rfl ((aCons_len aNil_len)) (da_cons (de_var (pv 2)) da_nil))) (dg_n (pg_name (i := 4) scm_law_sum_chance.nd rfl (by first | exact .inl rfl | exact .inr rfl)))
    (dss_one (ds_if (dt_tru (dc (takes_of rfl rfl rfl rfl) (G_law_works 24) (hr.mono (by decide)) rfl rfl ((aCons_len (aCons_len aNil_len))) (da_cons (de_var (pv 0)) (da_cons (de_var (pv 4)) da_nil))))
      (dss_one (ds_set (ps_set (i := 3) scm_law_sum_chance.nd rfl (by first | exact .inl rfl | exact .inr rfl) (dc (takes_of rfl rfl rfl rfl) G_law_add (hr.mono (by decide)) rfl rfl ((aCons_len (aCons_len aNil_len))) (da_cons (de_var (pv 3)) (da_cons (dc (takes_of rfl rfl rfl rfl) G_law_prior (hr.mono (by decide)) rfl rfl ((aCons_len (aCons_len (aCons_len aNil_len)))) (da_cons (de_var (pv 2)) (da_cons (de_var (pv 1)) (da_cons (dc (takes_of rfl rfl rfl rfl) G_law_others (hr.mono (by decide)) rfl rfl ((aCons_len (aCons_len aNil_len))) (da_cons (de_var (pv 2)) (da_cons (de_var (pv 4)) da_nil))) da_nil)))) da_nil))))))
      dss_nil))))
  (dss_one (ds_ret (de_var (pv 3))))))))
abbrev sm_is_sequence : Stmt := topS 6
theorem scm_is_sequence : FnScope ["x"] ["x"] (defScope sm_is_sequence) := ⟨rfl, rfl, rfl, by decide +kernel, rfl, by decide +kernel, by decide +kernel⟩
theorem goodm_is_sequence (T : Tx P w K mg) (D : DefAt K mg "is_sequence" "is_sequence" sm_is_sequence ["x"])  : Good P w K mg base "is_sequence" 1 ["x"] m_is_sequence :=
  (D.good (N := ["x"]) scm_is_sequence fun f cdv A outer s H E hr =>
  (dss_one (ds_ret (de_is2 (pe_callB call_isiT rfl T.b_isinstance PyProof.Rows.boot_isinstance (pa_cons (de_var (pv 0)) (pa_cons (pe_tup (pa_cons (pe_bltn rfl T.b_list (by decide +kernel) rfl) (pa_cons (pe_bltn rfl T.b_tuple (by decide +kernel) rfl) pa_nil))) pa_nil)))))))
abbrev sm_is_row : Stmt := topS 7
theorem scm_is_row : FnScope ["x", "least", "most"] ["x", "least", "most"] (defScope sm_is_row) := ⟨rfl, rfl, rfl, by decide +kernel, rfl, by decide +kernel, by decide +kernel⟩
theorem goodm_is_row (T : Tx P w K mg) (D : DefAt K mg "is_row" "is_row" sm_is_row ["x", "least", "most"]) (Gis_sequence : Good P w K mg base "is_sequence" 1 ["x"] m_is_sequence) : Good P w K mg base "is_row" 2 ["x", "least", "most"] m_is_row :=
  (D.good (N := ["x", "least", "most"]) scm_is_row fun f cdv A outer s H E hr =>
  (dss_one (ds_ret (de_and (dc (takes_of rfl rfl rfl rfl) Gis_sequence (hr.mono (by decide)) rfl rfl ((aCons_len aNil_len)) (da_cons (de_var (pv 0)) da_nil)) (de_and (de_cmp op_leA opd_ord (de_var (pv 1)) (de_cb (pe_callB call_lenA rfl T.b_len (by decide +kernel) (da_cons (de_var (pv 0)) da_nil)) cd_len) rfl) (de_one (de_cmp op_leA opd_ord (de_cb (pe_callB call_lenA rfl T.b_len (by decide +kernel) (da_cons (de_var (pv 0)) da_nil)) cd_len) (de_var (pv 2)) rfl)))))))
abbrev sm_is_name : Stmt := topS 8
theorem scm_is_name : FnScope ["x", "sign"] ["x"] (defScope sm_is_name) := ⟨rfl, rfl, rfl, by decide +kernel, rfl, by decide +kernel, by decide +kernel⟩
theorem goodm_is_name (T : Tx P w K mg) (D : DefAt K mg "is_name" "is_name" sm_is_name ["x"])  : Good P w K mg base "is_name" 1 ["x"] m_is_name :=
  (D.good (N := ["x", "sign"]) scm_is_name fun f cdv A outer s H E hr =>
  (dss_cons (ds_if (PW.pt (dw_or (dt_not (dt_tru (de_cb (pe_callB call_isi rfl T.b_isinstance (by decide +kernel) (da_cons (de_var (pv 0)) (da_cons (de_bty rfl T.b_str (by decide +kernel)) da_nil))) cd_is))) (dw_or (dt_cmp (op_eqA (hu_of64 hr)) opd_eqA (de_cb (pe_callB call_lenA rfl T.b_len (by decide +kernel) (da_cons (de_var (pv 0)) da_nil)) cd_len) de_int rfl) (dw_or (dt_cmp op_gtA opd_ord (de_cb (pe_callB call_lenA rfl T.b_len (by decide +kernel) (da_cons (de_var (pv 0)) da_nil)) cd_len) de_int rfl) (dw_or1 (dt_cmp op_inA opd_in (de_var (pv 0)) (de_top rfl T.c_WORDS) rfl))))))
    (dss_one (ds_ret de_bl))
    dss_nil)
  (dss_one (ds_ret (de_cb (pe_callB (cr_all rfl) rfl T.b_all (by decide +kernel) (da_cons (de_lc (by decide) (pe_lc (own := [("sign", 1)]) rfl scm_is_name.nd (di_str (de_var (pv 0))) (blkOk_by (N := ["x", "sign"]) (sc := (defScope sm_is_name)) (by decide +kernel)) (fun _ _ _ _ _ => (dg_n (pg_name (i := 1) scm_is_name.nd rfl (by first | exact .inl rfl | exact .inr rfl)))) (fun _ _ _ _ _ => dts_nil) (fun _ _ _ _ _ => (de_cmp op_inA opd_in (de_var (pv 1)) (de_top rfl T.c_LETTERS) rfl)))) da_nil)) cd_all)))))
abbrev sm_is_integer : Stmt := topS 4
theorem scm_is_integer : FnScope ["x"] ["x"] (defScope sm_is_integer) := ⟨rfl, rfl, rfl, by decide +kernel, rfl, by decide +kernel, by decide +kernel⟩
theorem goodm_is_integer (T : Tx P w K mg) (D : DefAt K mg "is_integer" "is_integer" sm_is_integer ["x"])  : Good P w K mg base "is_integer" 1 ["x"] m_is_integer :=
  (D.good (N := ["x"]) scm_is_integer fun f cdv A outer s H E hr =>
  (dss_one (ds_ret (de_and (de_cb (pe_callB call_isi rfl T.b_isinstance (by decide +kernel) (da_cons (de_var (pv 0)) (da_cons (de_bty rfl T.b_int (by decide +kernel)) da_nil))) cd_is) (de_one (de_not (de_cb (pe_callB call_isi rfl T.b_isinstance (by decide +kernel) (da_cons (de_var (pv 0)) (da_cons (de_bty rfl T.b_bool (by decide +kernel)) da_nil))) cd_is)))))))
abbrev sm_is_fraction : Stmt := topS 9
theorem scm_is_fraction : FnScope ["x"] ["x"] (defScope sm_is_fraction) := ⟨rfl, rfl, rfl, by decide +kernel, rfl, by decide +kernel, by decide +kernel⟩
theorem goodm_is_fraction (T : Tx P w K mg) (D : DefAt K mg "is_fraction" "is_fraction" sm_is_fraction ["x"]) (Gis_row : Good P w K mg base "is_row" 2 ["x", "least", "most"] m_is_row) (Gis_integer : Good P w K mg base "is_integer" 1 ["x"] m_is_integer) : Good P w K mg base "is_fraction" 3 ["x"] m_is_fraction :=
  (D.good (N := ["x"]) scm_is_fraction fun f cdv A outer s H E hr =>
  (dss_cons (ds_if (PW.pt (dw_or (dt_not (dt_tru (dc (takes_of rfl rfl rfl rfl) Gis_row (hr.mono (by decide)) rfl rfl ((aCons_len (aCons_len (aCons_len aNil_len)))) (da_cons (de_var (pv 0)) (da_cons de_int (da_cons de_int da_nil)))))) (dw_or (dt_not (dt_tru (dc (takes_of rfl rfl rfl rfl) Gis_integer (hr.mono (by decide)) rfl rfl ((aCons_len aNil_len)) (da_cons (de_ix ix_seq opd_ix (de_var (pv 0)) de_int (fun _ _ => rfl)) da_nil)))) (dw_or1 (dt_not (dt_tru (dc (takes_of rfl rfl rfl rfl) Gis_integer (hr.mono (by decide)) rfl rfl ((aCons_len aNil_len)) (da_cons (de_ix ix_seq opd_ix (de_var (pv 0)) de_int (fun _ _ => rfl)) da_nil))))))))
    (dss_one (ds_ret de_bl))
    dss_nil)
  (dss_one (ds_ret (de_and (de_cmp op_geA opd_ord (de_ix ix_seq opd_ix (de_var (pv 0)) de_int (fun _ _ => rfl)) de_int rfl) (de_one (de_cmp (op_eqA (hu_of64 hr)) opd_eqA (de_cb (pe_callBfun cr_gcd rfl T.i_gcd (da_cons (de_ix ix_seq opd_ix (de_var (pv 0)) de_int (fun _ _ => rfl)) (da_cons (de_ix ix_seq opd_ix (de_var (pv 0)) de_int (fun _ _ => rfl)) da_nil))) cd_gcd) de_int rfl)))))))
abbrev sm_is_chance : Stmt := topS 10
theorem scm_is_chance : FnScope ["x"] ["x"] (defScope sm_is_chance) := ⟨rfl, rfl, rfl, by decide +kernel, rfl, by decide +kernel, by decide +kernel⟩
theorem goodm_is_chance (T : Tx P w K mg) (D : DefAt K mg "is_chance" "is_chance" sm_is_chance ["x"]) (Gis_fraction : Good P w K mg base "is_fraction" 3 ["x"] m_is_fraction) : Good P w K mg base "is_chance" 4 ["x"] m_is_chance :=
  (D.good (N := ["x"]) scm_is_chance fun f cdv A outer s H E hr =>
  (dss_one (ds_ret (de_and (dc (takes_of rfl rfl rfl rfl) Gis_fraction (hr.mono (by decide)) rfl rfl ((aCons_len aNil_len)) (da_cons (de_var (pv 0)) da_nil)) (de_and (de_cmp op_leA opd_ord de_int (de_ix ix_seq opd_ix (de_var (pv 0)) de_int (fun _ _ => rfl)) rfl) (de_one (de_cmp op_leA opd_ord (de_ix ix_seq opd_ix (de_var (pv 0)) de_int (fun _ _ => rfl)) (de_ix ix_seq opd_ix (de_var (pv 0)) de_int (fun _ _ => rfl)) rfl)))))))
abbrev sm_odds_of : Stmt := topS 13
theorem scm_odds_of : FnScope ["value", "found", "pair"] ["value"] (defScope sm_odds_of) := ⟨rfl, rfl, rfl, by decide +kernel, rfl, by decide +kernel, by decide +kernel⟩
theorem goodm_odds_of (T : Tx P w K mg) (D : DefAt K mg "odds_of" "odds_of" sm_odds_of ["value"]) (Gis_row : Good P w K mg base "is_row" 2 ["x", "least", "most"] m_is_row) (Gis_name : Good P w K mg base "is_name" 1 ["x"] m_is_name) (Gis_chance : Good P w K mg base "is_chance" 4 ["x"] m_is_chance) : Good P w K mg base "odds_of" 5 ["value"] m_odds_of :=
  (D.good (N := ["value", "found", "pair"]) scm_odds_of fun f cdv A outer s H E hr =>
  (dss_cons (ds_if (dt_not (dt_tru (dc (takes_of rfl rfl rfl rfl) Gis_row (hr.mono (by decide)) rfl rfl ((aCons_len (aCons_len (aCons_len aNil_len)))) (da_cons (de_var (pv 0)) (da_cons de_int (da_cons (de_top rfl T.c_MOST_ODDS) da_nil))))))
    (dss_one (ds_ret de_non))
    dss_nil)
  (dss_cons (ds_set (ps_set (i := 1) scm_odds_of.nd rfl (by first | exact .inl rfl | exact .inr rfl) de_dct0))
  (dss_cons (ds_for (ps_for (passes_of rfl) rfl (di_seq (de_var (pv 0))) (dg_n (pg_name (i := 2) scm_odds_of.nd rfl (by first | exact .inl rfl | exact .inr rfl)))
    (dss_cons (ds_if (PW.pt (dw_or (dt_not (dt_tru (dc (takes_of rfl rfl rfl rfl) Gis_row (hr.mono (by decide)) rfl rfl ((aCons_len (aCons_len (aCons_len aNil_len)))) (da_cons (de_var (pv 2)) (da_cons de_int (da_cons de_int da_nil)))))) (dw_or (dt_not (dt_tru (dc (takes_of rfl rfl rfl rfl) Gis_name (hr.mono (by decide)) rfl rfl ((aCons_len aNil_len)) (da_cons (de_ix ix_seq opd_ix (de_var (pv 2)) de_int (fun _ _ => rfl)) da_nil)))) (dw_or1 (dt_not (dt_tru (dc (takes_of rfl rfl rfl rfl) Gis_chance (hr.mono (by decide)) rfl rfl ((aCons_len aNil_len)) (da_cons (de_ix ix_seq opd_ix (de_var (pv 2)) de_int (fun _ _ => rfl)) da_nil))))))))
      (dss_one (ds_ret de_non))
      dss_nil)
    (dss_cons (ds_if (dt_din (hu_1 hr) (de_ix ix_seq opd_ix (de_var (pv 2)) de_int (fun _ _ => rfl)) (de_var (pv 1)))
      (dss_one (ds_ret de_non))
      dss_nil)
    (dss_one (ds_dput (hu_1 hr) (de_var (pv 1)) (de_ix ix_seq opd_ix (de_var (pv 2)) de_int (fun _ _ => rfl)) (de_tup (da_cons (de_ix ix_seq opd_ix (de_ix ix_seq opd_ix (de_var (pv 2)) de_int (fun _ _ => rfl)) de_int (fun _ _ => rfl)) (da_cons (de_ix ix_seq opd_ix (de_ix ix_seq opd_ix (de_var (pv 2)) de_int (fun _ _ => rfl)) de_int (fun _ _ => rfl)) da_nil)))))))))
  (dss_one (ds_ret (de_var (pv 1))))))))
abbrev sm_is_within : Stmt := topS 5
theorem scm_is_within : FnScope ["x", "low", "high"] ["x", "low", "high"] (defScope sm_is_within) := ⟨rfl, rfl, rfl, by decide +kernel, rfl, by decide +kernel, by decide +kernel⟩
theorem goodm_is_within (T : Tx P w K mg) (D : DefAt K mg "is_within" "is_within" sm_is_within ["x", "low", "high"]) (Gis_integer : Good P w K mg base "is_integer" 1 ["x"] m_is_integer) : Good P w K mg base "is_within" 2 ["x", "low", "high"] m_is_within :=
  (D.good (N := ["x", "low", "high"]) scm_is_within fun f cdv A outer s H E hr =>
  (dss_one (ds_ret (de_and (dc (takes_of rfl rfl rfl rfl) Gis_integer (hr.mono (by decide)) rfl rfl ((aCons_len aNil_len)) (da_cons (de_var (pv 0)) da_nil)) (de_and (de_cmp op_leA opd_ord (de_var (pv 1)) (de_var (pv 0)) rfl) (de_one (de_cmp op_leA opd_ord (de_var (pv 0)) (de_var (pv 2)) rfl)))))))
abbrev sm_is_outline : Stmt := topS 24
theorem scm_is_outline : FnScope ["e"] ["e"] (defScope sm_is_outline) := ⟨rfl, rfl, rfl, by decide +kernel, rfl, by decide +kernel, by decide +kernel⟩
theorem goodm_is_outline (T : Tx P w K mg) (D : DefAt K mg "_is_outline" "_is_outline" sm_is_outline ["e"]) (Gis_name : Good P w K mg base "is_name" 1 ["x"] m_is_name) (Gis_row : Good P w K mg base "is_row" 2 ["x", "least", "most"] m_is_row) (Gis_sequence : Good P w K mg base "is_sequence" 1 ["x"] m_is_sequence) (Gis_within : Good P w K mg base "is_within" 2 ["x", "low", "high"] m_is_within) : Good P w K mg base "_is_outline" 3 ["e"] m_is_outline :=
  (D.good (N := ["e"]) scm_is_outline fun f cdv A outer s H E hr =>
  (dss_cons (ds_if (PW.pt (dw_or (dt_not (dt_tru (dc (takes_of rfl rfl rfl rfl) Gis_sequence (hr.mono (by decide)) rfl rfl ((aCons_len aNil_len)) (da_cons (de_var (pv 0)) da_nil)))) (dw_or (dt_cmp op_ltA opd_ord (de_cb (pe_callB call_lenA rfl T.b_len (by decide +kernel) (da_cons (de_var (pv 0)) da_nil)) cd_len) de_int rfl) (dw_or (dt_cmp op_gtA opd_ord (de_cb (pe_callB call_lenA rfl T.b_len (by decide +kernel) (da_cons (de_var (pv 0)) da_nil)) cd_len) de_int rfl) (dw_or1 (dt_not (dt_tru (de_cb (pe_callB call_isi rfl T.b_isinstance (by decide +kernel) (da_cons (de_ix ix_seq opd_ix (de_var (pv 0)) de_int (fun _ _ => rfl)) (da_cons (de_bty rfl T.b_str (by decide +kernel)) da_nil))) cd_is))))))))
    (dss_one (ds_ret de_bl))
    dss_nil)
  (dss_cons (ds_if (dt_cmp (op_eqA (hu_of64 hr)) opd_eqA (de_cb (pe_callB call_lenA rfl T.b_len (by decide +kernel) (da_cons (de_var (pv 0)) da_nil)) cd_len) de_int rfl)
    (dss_one (ds_ret (de_and (de_cmp (op_eqA (hu_of64 hr)) opd_eqA (de_ix ix_seq opd_ix (de_var (pv 0)) de_int (fun _ _ => rfl)) de_str rfl) (de_and (dc (takes_of rfl rfl rfl rfl) Gis_row (hr.mono (by decide)) rfl rfl ((aCons_len (aCons_len (aCons_len aNil_len)))) (da_cons (de_ix ix_seq opd_ix (de_var (pv 0)) de_int (fun _ _ => rfl)) (da_cons de_int (da_cons (de_top rfl T.c_MOST_MEMBERS) da_nil)))) (de_one (dc (takes_of rfl rfl rfl rfl) Gis_within (hr.mono (by decide)) rfl rfl ((aCons_len (aCons_len (aCons_len aNil_len)))) (da_cons (de_ix ix_seq opd_ix (de_var (pv 0)) de_int (fun _ _ => rfl)) (da_cons de_int (da_cons (de_cb (pe_callB call_lenA rfl T.b_len (by decide +kernel) (da_cons (de_ix ix_seq opd_ix (de_var (pv 0)) de_int (fun _ _ => rfl)) da_nil)) cd_len) da_nil)))))))))
    dss_nil)
  (dss_cons (ds_if (dt_cmp (op_eqA (hu_of64 hr)) opd_eqA (de_ix ix_seq opd_ix (de_var (pv 0)) de_int (fun _ _ => rfl)) de_str rfl)
    (dss_one (ds_ret (dc (takes_of rfl rfl rfl rfl) Gis_name (hr.mono (by decide)) rfl rfl ((aCons_len aNil_len)) (da_cons (de_ix ix_seq opd_ix (de_var (pv 0)) de_int (fun _ _ => rfl)) da_nil))))
    dss_nil)
  (dss_cons (ds_if (PW.pt (dw_and (dt_cmp (op_neA (hu_of64 hr)) opd_eqA (de_ix ix_seq opd_ix (de_var (pv 0)) de_int (fun _ _ => rfl)) de_str rfl) (dw_and1 (dt_cmp (op_neA (hu_of64 hr)) opd_eqA (de_ix ix_seq opd_ix (de_var (pv 0)) de_int (fun _ _ => rfl)) de_str rfl))))
    (dss_one (ds_ret de_bl))
    dss_nil)
  (dss_one (ds_ret (de_and (dc (takes_of rfl rfl rfl rfl) Gis_row (hr.mono (by decide)) rfl rfl ((aCons_len (aCons_len (aCons_len aNil_len)))) (da_cons (de_ix ix_seq opd_ix (de_var (pv 0)) de_int (fun _ _ => rfl)) (da_cons de_int (da_cons (de_top rfl T.c_MOST_MEMBERS) da_nil)))) (de_one (de_cmp (op_neA (hu_of64 hr)) opd_eqA (de_cb (pe_callB call_lenA rfl T.b_len (by decide +kernel) (da_cons (de_ix ix_seq opd_ix (de_var (pv 0)) de_int (fun _ _ => rfl)) da_nil)) cd_len) de_int rfl))))))))))
abbrev sm_is_structure : Stmt := topS 25
theorem scm_is_structure : FnScope ["e", "names", "count", "waiting", "one", "level", "member"] ["e"] (defScope sm_is_structure) := ⟨rfl, rfl, rfl, by decide +kernel, rfl, by decide +kernel, by decide +kernel⟩
theorem goodm_is_structure (T : Tx P w K mg) (D : DefAt K mg "is_structure" "is_structure" sm_is_structure ["e"]) (G_is_outline : Good P w K mg base "_is_outline" 3 ["e"] m_is_outline) : Good P w K mg base "is_structure" 4 ["e"] m_is_structure :=
  (D.good (N := ["e", "names", "count", "waiting", "one", "level", "member"]) scm_is_structure fun f cdv A outer s H E hr =>
  (dss_cons (ds_set (ps_set (i := 1) scm_is_structure.nd rfl (by first | exact .inl rfl | exact .inr rfl) de_dct0))
  (dss_cons (ds_set (ps_set (i := 2) scm_is_structure.nd rfl (by first | exact .inl rfl | exact .inr rfl) de_int))
  (dss_cons (ds_set (ps_set (i := 3) scm_is_structure.nd rfl (by first | exact .inl rfl | exact .inr rfl) (de_cell (da_cons (de_tup (da_cons (de_var (pv 0)) (da_cons de_int da_nil))) da_nil))))
  (dss_cons (ds_while 100000 (passes_of rfl) (dt_tru (de_var (pv 3)))
    (dss_cons (ds_asg (ps_asg (de_bm0 (pe_bm0 PySem.F.plainAttrs_list PySem.F.slot_list_pop PySem.F.type_list_pop mt_pop (de_var (pv 3))) md_pop) (dgT rfl (dgsC (dg_n (pg_name (i := 4) scm_is_structure.nd rfl (by first | exact .inl rfl | exact .inr rfl))) (dgsC (dg_n (pg_name (i := 5) scm_is_structure.nd rfl (by first | exact .inl rfl | exact .inr rfl))) dgs_nil (fun a b => pgs_cons a b)) (fun a b => pgs_cons a b)) (fun a => pg_tup rfl a) (fun a => pg_lst rfl a))))
    (dss_cons (ds_aug (ps_aug (i := 2) scm_is_structure.nd rfl (by first | exact .inl rfl | exact .inr rfl) de_int iop_add) opd_addI)
    (dss_cons (ds_if (PW.pt (dw_or (dt_cmp op_gtA opd_ord (de_var (pv 2)) (de_top rfl T.c_MOST_SHAPES) rfl) (dw_or (dt_cmp op_gtA opd_ord (de_var (pv 5)) (de_top rfl T.c_MOST_LEVELS) rfl) (dw_or1 (dt_not (dt_tru (dc (takes_of rfl rfl rfl rfl) G_is_outline (hr.mono (by decide)) rfl rfl ((aCons_len aNil_len)) (da_cons (de_var (pv 4)) da_nil))))))))
      (dss_one (ds_ret de_bl))
      dss_nil)
    (dss_one (ds_if (dt_cmp (op_eqA (hu_of64 hr)) opd_eqA (de_ix ix_seq opd_ix (de_var (pv 4)) de_int (fun _ _ => rfl)) de_str rfl)
      (dss_cons (ds_dput (hu_1 hr) (de_var (pv 1)) (de_ix ix_seq opd_ix (de_var (pv 4)) de_int (fun _ _ => rfl)) de_bl)
      (dss_one (ds_if (dt_cmp op_gtA opd_ord (de_cb (pe_callB call_lenA rfl T.b_len (by decide +kernel) (da_cons (de_var (pv 1)) da_nil)) cd_len) (de_top rfl T.c_MOST_PARTS) rfl)
        (dss_one (ds_ret de_bl))
        dss_nil)))
      (dss_one (ds_for (ps_for (passes_of rfl) rfl (di_seq (de_ix ix_seq opd_ix (de_var (pv 4)) (de_un un_neg und_neg de_int) (fun _ _ => rfl))) (dg_n (pg_name (i := 6) scm_is_structure.nd rfl (by first | exact .inl rfl | exact .inr rfl)))
        (dss_one (ds_drop (de_bm (pe_bm PySem.F.plainAttrs_list PySem.F.slot_list_append PySem.F.type_list_append mt_append (de_var (pv 3)) (da_cons (de_tup (da_cons (de_var (pv 6)) (da_cons (de_op op_addA opd_add (de_var (pv 5)) de_int) da_nil))) da_nil)) md_app))))))))))))
  (dss_one (ds_ret de_bl)))))))
abbrev sm_known_odds : Stmt := topS 47
theorem scm_known_odds : FnScope ["e", "odds", "known"] ["e", "odds"] (defScope sm_known_odds) := ⟨rfl, rfl, rfl, by decide +kernel, rfl, by decide +kernel, by decide +kernel⟩
theorem goodm_known_odds (T : Tx P w K mg) (D : DefAt K mg "_known_odds" "_known_odds" sm_known_odds ["e", "odds"]) (Godds_of : Good P w K mg base "odds_of" 5 ["value"] m_odds_of) (Gis_structure : Good P w K mg base "is_structure" 4 ["e"] m_is_structure) : Good P w K mg base "_known_odds" 6 ["e", "odds"] m_known_odds :=
  (D.good (N := ["e", "odds", "known"]) scm_known_odds fun f cdv A outer s H E hr =>
  (dss_cons (ds_if (dt_not (dt_tru (dc (takes_of rfl rfl rfl rfl) Gis_structure (hr.mono (by decide)) rfl rfl ((aCons_len aNil_len)) (da_cons (de_var (pv 0)) da_nil))))
    (dss_one (ds_raise1 rfl (takes_of rfl rfl rfl rfl) T.x_BadValue (hr.mono (by decide)) rfl (da_cons de_int da_nil)))
    dss_nil)
  (dss_cons (ds_set (ps_set (i := 2) scm_known_odds.nd rfl (by first | exact .inl rfl | exact .inr rfl) (dc (takes_of rfl rfl rfl rfl) Godds_of (hr.mono (by decide)) rfl rfl ((aCons_len aNil_len)) (da_cons (de_var (pv 1)) da_nil))))
  (dss_cons (ds_if (dt_cmp op_isN opd_isn (de_var (pv 2)) de_non rfl)
    (dss_one (ds_raise1 rfl (takes_of rfl rfl rfl rfl) T.x_BadValue (hr.mono (by decide)) rfl (da_cons de_int da_nil)))
    dss_nil)
  (dss_one (ds_ret (de_var (pv 2))))))))
abbrev sm_names_in : Stmt := topS 26
theorem scm_names_in : FnScope ["e", "names", "waiting", "one", "member"] ["e"] (defScope sm_names_in) := ⟨rfl, rfl, rfl, by decide +kernel, rfl, by decide +kernel, by decide +kernel⟩
theorem goodm_names_in (T : Tx P w K mg) (D : DefAt K mg "names_in" "names_in" sm_names_in ["e"])  : Good P w K mg base "names_in" 1 ["e"] m_names_in :=
  (D.good (N := ["e", "names", "waiting", "one", "member"]) scm_names_in fun f cdv A outer s H E hr =>
  (dss_cons (ds_set (ps_set (i := 1) scm_names_in.nd rfl (by first | exact .inl rfl | exact .inr rfl) de_dct0))
  (dss_cons (ds_set (ps_set (i := 2) scm_names_in.nd rfl (by first | exact .inl rfl | exact .inr rfl) (de_cell (da_cons (de_var (pv 0)) da_nil))))
  (dss_cons (ds_while 100000 (passes_of rfl) (dt_tru (de_var (pv 2)))
    (dss_cons (ds_set (ps_set (i := 3) scm_names_in.nd rfl (by first | exact .inl rfl | exact .inr rfl) (de_bm0 (pe_bm0 PySem.F.plainAttrs_list PySem.F.slot_list_pop PySem.F.type_list_pop mt_pop (de_var (pv 2))) md_pop)))
    (dss_one (ds_if (dt_cmp (op_eqA (hu_of64 hr)) opd_eqA (de_ix ix_seq opd_ix (de_var (pv 3)) de_int (fun _ _ => rfl)) de_str rfl)
      (dss_one (ds_dput (hu_1 hr) (de_var (pv 1)) (de_ix ix_seq opd_ix (de_var (pv 3)) de_int (fun _ _ => rfl)) de_bl))
      (dss_one (ds_for (ps_for (passes_of rfl) rfl (di_seq (de_ix ix_seq opd_ix (de_var (pv 3)) (de_un un_neg und_neg de_int) (fun _ _ => rfl))) (dg_n (pg_name (i := 4) scm_names_in.nd rfl (by first | exact .inl rfl | exact .inr rfl)))
        (dss_one (ds_drop (de_bm (pe_bm PySem.F.plainAttrs_list PySem.F.slot_list_append PySem.F.type_list_append mt_append (de_var (pv 2)) (da_cons (de_var (pv 4)) da_nil)) md_app))))))))))
  (dss_one (ds_ret (de_cb (pe_callTy call_tupF rfl T.b_tuple (by decide +kernel) (da_cons (de_cb (pe_callB (call_sortA rfl) rfl T.b_sorted (by decide +kernel) (da_cons (de_var (pv 1)) da_nil)) cd_sort) da_nil)) cd_tuple)))))))
abbrev sm_first_lacking : Stmt := topS 14
theorem scm_first_lacking : FnScope ["names", "known", "name"] ["names", "known"] (defScope sm_first_lacking) := ⟨rfl, rfl, rfl, by decide +kernel, rfl, by decide +kernel, by decide +kernel⟩
theorem goodm_first_lacking (T : Tx P w K mg) (D : DefAt K mg "first_lacking" "first_lacking" sm_first_lacking ["names", "known"])  : Good P w K mg base "first_lacking" 1 ["names", "known"] m_first_lacking :=
  (D.good (N := ["names", "known", "name"]) scm_first_lacking fun f cdv A outer s H E hr =>
  (dss_cons (ds_for (ps_for (passes_of rfl) rfl (di_seq (de_var (pv 0))) (dg_n (pg_name (i := 2) scm_first_lacking.nd rfl (by first | exact .inl rfl | exact .inr rfl)))
    (dss_one (ds_if (dt_dnin (hu_1 hr) (de_var (pv 2)) (de_var (pv 1)))
      (dss_one (ds_ret (de_var (pv 2))))
      dss_nil))))
  (dss_one (ds_ret de_non))))
abbrev sm_look_up : Stmt := topS 48
theorem scm_look_up : FnScope ["names", "known", "lacking"] ["names", "known"] (defScope sm_look_up) := ⟨rfl, rfl, rfl, by decide +kernel, rfl, by decide +kernel, by decide +kernel⟩
theorem goodm_look_up (T : Tx P w K mg) (D : DefAt K mg "_look_up" "_look_up" sm_look_up ["names", "known"]) (Gfirst_lacking : Good P w K mg base "first_lacking" 1 ["names", "known"] m_first_lacking) : Good P w K mg base "_look_up" 3 ["names", "known"] m_look_up :=
  (D.good (N := ["names", "known", "lacking"]) scm_look_up fun f cdv A outer s H E hr =>
  (dss_cons (ds_set (ps_set (i := 2) scm_look_up.nd rfl (by first | exact .inl rfl | exact .inr rfl) (dc (takes_of rfl rfl rfl rfl) Gfirst_lacking (hr.mono (by decide)) rfl rfl ((aCons_len (aCons_len aNil_len))) (da_cons (de_var (pv 0)) (da_cons (de_var (pv 1)) da_nil)))))
  (dss_one (ds_if (dt_cmp op_notN opd_notn (de_var (pv 2)) de_non rfl)
    (dss_one (ds_raise1 rfl (takes_of rfl rfl rfl rfl) T.x_Unknown (hr.mono (by decide)) rfl (da_cons (de_var (pv 2)) da_nil)))
    dss_nil))))
abbrev sm_named_odds : Stmt := topS 49
theorem scm_named_odds : FnScope ["e", "odds", "name", "known", "names"] ["e", "odds", "name"] (defScope sm_named_odds) := ⟨rfl, rfl, rfl, by decide +kernel, rfl, by decide +kernel, by decide +kernel⟩
theorem goodm_named_odds (T : Tx P w K mg) (D : DefAt K mg "_named_odds" "_named_odds" sm_named_odds ["e", "odds", "name"]) (G_known_odds : Good P w K mg base "_known_odds" 6 ["e", "odds"] m_known_odds) (Gnames_in : Good P w K mg base "names_in" 1 ["e"] m_names_in) (G_look_up : Good P w K mg base "_look_up" 3 ["names", "known"] m_look_up) (Gis_name : Good P w K mg base "is_name" 1 ["x"] m_is_name) : Good P w K mg base "_named_odds" 7 ["e", "odds", "name"] m_named_odds :=
  (D.good (N := ["e", "odds", "name", "known", "names"]) scm_named_odds fun f cdv A outer s H E hr =>
  (dss_cons (ds_set (ps_set (i := 3) scm_named_odds.nd rfl (by first | exact .inl rfl | exact .inr rfl) (dc (takes_of rfl rfl rfl rfl) G_known_odds (hr.mono (by decide)) rfl rfl ((aCons_len (aCons_len aNil_len))) (da_cons (de_var (pv 0)) (da_cons (de_var (pv 1)) da_nil)))))
  (dss_cons (ds_if (dt_not (dt_tru (dc (takes_of rfl rfl rfl rfl) Gis_name (hr.mono (by decide)) rfl rfl ((aCons_len aNil_len)) (da_cons (de_var (pv 2)) da_nil))))
    (dss_one (ds_raise1 rfl (takes_of rfl rfl rfl rfl) T.x_BadValue (hr.mono (by decide)) rfl (da_cons de_int da_nil)))
    dss_nil)
  (dss_cons (ds_set (ps_set (i := 4) scm_named_odds.nd rfl (by first | exact .inl rfl | exact .inr rfl) (dc (takes_of rfl rfl rfl rfl) Gnames_in (hr.mono (by decide)) rfl rfl ((aCons_len aNil_len)) (da_cons (de_var (pv 0)) da_nil))))
  (dss_cons (ds_drop (dc (takes_of rfl rfl rfl rfl) G_look_up (hr.mono (by decide)) rfl rfl ((aCons_len (aCons_len aNil_len))) (da_cons (de_var (pv 4)) (da_cons (de_var (pv 3)) da_nil))))
  (dss_cons (ds_drop (dc (takes_of rfl rfl rfl rfl) G_look_up (hr.mono (by decide)) rfl rfl ((aCons_len (aCons_len aNil_len))) (da_cons (de_tup (da_cons (de_var (pv 2)) da_nil)) (da_cons (de_var (pv 3)) da_nil))))
  (dss_one (ds_ret (de_tup (da_cons (de_var (pv 4)) (da_cons (de_var (pv 3)) da_nil)))))))))))
abbrev sm_weights_of_2 : Stmt := topS 15
theorem scm_weights_of_2 : FnScope ["names", "known", "name"] ["names", "known"] (defScope sm_weights_of_2) := ⟨rfl, rfl, rfl, by decide +kernel, rfl, by decide +kernel, by decide +kernel⟩
theorem goodm_weights_of_2 (T : Tx P w K mg) (D : DefAt K mg "weights_of" "weights_of" sm_weights_of_2 ["names", "known"])  : Good P w K mg base "weights_of" 1 ["names", "known"] m_weights_of_2 :=
  (D.good (N := ["names", "known", "name"]) scm_weights_of_2 fun f cdv A outer s H E hr =>
  (dss_one (ds_ret (de_lcC (by decide) (pe_lc (own := [("name", 2)]) rfl scm_weights_of_2.nd (di_seq (de_var (pv 0))) (blkOk_by (N := ["names", "known", "name"]) (sc := (defScope sm_weights_of_2)) (by decide +kernel)) (fun _ _ _ _ _ => (dg_n (pg_name (i := 2) scm_weights_of_2.nd rfl (by first | exact .inl rfl | exact .inr rfl)))) (fun _ _ _ _ _ => dts_nil) (fun _ _ _ _ _ => (de_tup (da_cons (de_ix ix_seq opd_ix (de_dget (hu_1 hr) (de_var (pv 1)) (de_var (pv 2)) (fun _ _ => rfl)) de_int (fun _ _ => rfl)) (da_cons (de_op op_sub opd_sub (de_ix ix_seq opd_ix (de_dget (hu_1 hr) (de_var (pv 1)) (de_var (pv 2)) (fun _ _ => rfl)) de_int (fun _ _ => rfl)) (de_ix ix_seq opd_ix (de_dget (hu_1 hr) (de_var (pv 1)) (de_var (pv 2)) (fun _ _ => rfl)) de_int (fun _ _ => rfl))) da_nil)))))))))
abbrev sm_folded : Stmt := topS 17
theorem scm_folded : FnScope ["row", "weights", "up", "down", "k"] ["row", "weights"] (defScope sm_folded) := ⟨rfl, rfl, rfl, by decide +kernel, rfl, by decide +kernel, by decide +kernel⟩
theorem goodm_folded (T : Tx P w K mg) (D : DefAt K mg "folded" "folded" sm_folded ["row", "weights"])  : Good P w K mg base "folded" 1 ["row", "weights"] m_folded :=
  (D.good (N := ["row", "weights", "up", "down", "k"]) scm_folded fun f cdv A outer s H E hr =>
  (dss_cons (ds_for (ps_for (passes_of rfl) rfl (di_seq (de_var (pv 1))) (dgT rfl (dgsC (dg_n (pg_name (i := 2) scm_folded.nd rfl (by first | exact .inl rfl | exact .inr rfl))) (dgsC (dg_n (pg_name (i := 3) scm_folded.nd rfl (by first | exact .inl rfl | exact .inr rfl))) dgs_nil (fun a b => pgs_cons a b)) (fun a b => pgs_cons a b)) (fun a => pg_tup rfl a) (fun a => pg_lst rfl a))
    (dss_one (ds_set (ps_set (i := 0) scm_folded.nd rfl (by first | exact .inl rfl | exact .inr rfl) (de_lc (by decide) (pe_lc (own := [("k", 4)]) rfl scm_folded.nd (di_rg3 (pi_range3 rfl T.b_range (da_cons de_int (da_cons (de_cb (pe_callB call_lenA rfl T.b_len (by decide +kernel) (da_cons (de_var (pv 0)) da_nil)) cd_len) (da_cons de_int da_nil))))) (blkOk_by (N := ["row", "weights", "up", "down", "k"]) (sc := (defScope sm_folded)) (by decide +kernel)) (fun _ _ _ _ _ => (dg_n (pg_name (i := 4) scm_folded.nd rfl (by first | exact .inl rfl | exact .inr rfl)))) (fun _ _ _ _ _ => dts_nil) (fun _ _ _ _ _ => (de_op op_addA opd_add (de_op op_mulA opd_mul (de_var (pv 3)) (de_ix ix_seq opd_ix (de_var (pv 0)) (de_var (pv 4)) (fun _ _ => rfl))) (de_op op_mulA opd_mul (de_var (pv 2)) (de_ix ix_seq opd_ix (de_var (pv 0)) (de_op op_addA opd_add (de_var (pv 4)) de_int) (fun _ _ => rfl))))))))))))
  (dss_one (ds_ret (de_var (pv 0))))))
abbrev sm_bits_of : Stmt := topS 16
theorem scm_bits_of : FnScope ["told", "count", "mask"] ["told", "count"] (defScope sm_bits_of) := ⟨rfl, rfl, rfl, by decide +kernel, rfl, by decide +kernel, by decide +kernel⟩
theorem goodm_bits_of (T : Tx P w K mg) (D : DefAt K mg "bits_of" "bits_of" sm_bits_of ["told", "count"])  : Good P w K mg base "bits_of" 1 ["told", "count"] m_bits_of :=
  (D.good (N := ["told", "count", "mask"]) scm_bits_of fun f cdv A outer s H E hr =>
  (dss_one (ds_ret (de_lc (by decide) (pe_lc (own := [("mask", 2)]) rfl scm_bits_of.nd (di_rg1 (pi_range1 rfl T.b_range (da_cons (de_op op_shlW opd_shl de_int (de_var (pv 1))) da_nil))) (blkOk_by (N := ["told", "count", "mask"]) (sc := (defScope sm_bits_of)) (by decide +kernel)) (fun _ _ _ _ _ => (dg_n (pg_name (i := 2) scm_bits_of.nd rfl (by first | exact .inl rfl | exact .inr rfl)))) (fun _ _ _ _ _ => dts_nil) (fun _ _ _ _ _ => (de_op op_and opd_band (de_op op_shr opd_shr (de_var (pv 0)) (de_var (pv 2))) de_int)))))))
abbrev sm_weighed : Stmt := topS 18
theorem scm_weighed : FnScope ["told", "weights"] ["told", "weights"] (defScope sm_weighed) := ⟨rfl, rfl, rfl, by decide +kernel, rfl, by decide +kernel, by decide +kernel⟩
theorem goodm_weighed (T : Tx P w K mg) (D : DefAt K mg "weighed" "weighed" sm_weighed ["told", "weights"]) (Gfolded : Good P w K mg base "folded" 1 ["row", "weights"] m_folded) (Gbits_of : Good P w K mg base "bits_of" 1 ["told", "count"] m_bits_of) : Good P w K mg base "weighed" 2 ["told", "weights"] m_weighed :=
  (D.good (N := ["told", "weights"]) scm_weighed fun f cdv A outer s H E hr =>
  (dss_one (ds_ret (de_ix ix_seq opd_ix (dc (takes_of rfl rfl rfl rfl) Gfolded (hr.mono (by decide)) rfl rfl ((aCons_len (aCons_len aNil_len))) (da_cons (dc (takes_of rfl rfl rfl rfl) Gbits_of (hr.mono (by decide)) rfl rfl ((aCons_len (aCons_len aNil_len))) (da_cons (de_var (pv 0)) (da_cons (de_cb (pe_callB call_lenA rfl T.b_len (by decide +kernel) (da_cons (de_var (pv 1)) da_nil)) cd_len) da_nil))) (da_cons (de_var (pv 1)) da_nil))) de_int (fun _ _ => rfl)))))
abbrev sm_lowest : Stmt := topS 45
theorem scm_lowest : FnScope ["n", "d", "common"] ["n", "d"] (defScope sm_lowest) := ⟨rfl, rfl, rfl, by decide +kernel, rfl, by decide +kernel, by decide +kernel⟩
theorem goodm_lowest (T : Tx P w K mg) (D : DefAt K mg "lowest" "lowest" sm_lowest ["n", "d"])  : Good P w K mg base "lowest" 1 ["n", "d"] m_lowest :=
  (D.good (N := ["n", "d", "common"]) scm_lowest fun f cdv A outer s H E hr =>
  (dss_cons (ds_set (ps_set (i := 2) scm_lowest.nd rfl (by first | exact .inl rfl | exact .inr rfl) (de_cb (pe_callBfun cr_gcd rfl T.i_gcd (da_cons (de_var (pv 0)) (da_cons (de_var (pv 1)) da_nil))) cd_gcd)))
  (dss_cons (ds_if (dt_cmp op_ltA opd_ord (de_var (pv 1)) de_int rfl)
    (dss_one (ds_set (ps_set (i := 2) scm_lowest.nd rfl (by first | exact .inl rfl | exact .inr rfl) (de_un un_neg und_neg (de_var (pv 2))))))
    dss_nil)
  (dss_one (ds_ret (de_tup (da_cons (de_op op_fdivA opd_fdiv (de_var (pv 0)) (de_var (pv 2))) (da_cons (de_op op_fdivA opd_fdiv (de_var (pv 1)) (de_var (pv 2))) da_nil))))))))
abbrev sm_enough : Stmt := topS 30
theorem scm_enough : FnScope ["tables", "least", "whole", "reached", "one", "j"] ["tables", "least", "whole"] (defScope sm_enough) := ⟨rfl, rfl, rfl, by decide +kernel, rfl, by decide +kernel, by decide +kernel⟩
theorem goodm_enough (T : Tx P w K mg) (D : DefAt K mg "enough" "enough" sm_enough ["tables", "least", "whole"])  : Good P w K mg base "enough" 1 ["tables", "least", "whole"] m_enough :=
  (D.good (N := ["tables", "least", "whole", "reached", "one", "j"]) scm_enough fun f cdv A outer s H E hr =>
  (dss_cons (ds_set (ps_set (i := 3) scm_enough.nd rfl (by first | exact .inl rfl | exact .inr rfl) (de_op op_addA opd_addC (de_lst (da_cons (de_var (pv 2)) da_nil)) (de_op op_mulA opd_mul (de_lst (da_cons de_int da_nil)) (de_var (pv 1))))))
  (dss_cons (ds_for (ps_for (passes_of rfl) rfl (di_seq (de_var (pv 0))) (dg_n (pg_name (i := 4) scm_enough.nd rfl (by first | exact .inl rfl | exact .inr rfl)))
    (dss_one (ds_for (ps_for (passes_of rfl) rfl (di_rg3 (pi_range3 rfl T.b_range (da_cons (de_var (pv 1)) (da_cons de_int (da_cons (de_un un_neg und_neg de_int) da_nil))))) (dg_n (pg_name (i := 5) scm_enough.nd rfl (by first | exact .inl rfl | exact .inr rfl)))
      (dss_one (ds_put (ps_asg (de_op op_or opd_bor (de_ix ix_seq opd_ix (de_var (pv 3)) (de_var (pv 5)) (fun _ _ => rfl)) (de_op op_and opd_band (de_ix ix_seq opd_ix (de_var (pv 3)) (de_op op_sub opd_sub (de_var (pv 5)) de_int) (fun _ _ => rfl)) (de_var (pv 4)))) (pg_sub (de_var (pv 3)) (de_var (pv 5)) set_list)) sd_set)))))))
  (dss_one (ds_ret (de_ix ix_seq opd_ix (de_var (pv 3)) (de_var (pv 1)) (fun _ _ => rfl)))))))
abbrev sm_joined : Stmt := topS 31
theorem scm_joined : FnScope ["e", "columns", "whole", "tables", "told", "one", "member"] ["e", "columns", "whole"] (defScope sm_joined) := ⟨rfl, rfl, rfl, by decide +kernel, rfl, by decide +kernel, by decide +kernel⟩
theorem goodm_joined (T : Tx P w K mg) (D : DefAt K mg "joined" "joined" sm_joined ["e", "columns", "whole"]) (Genough : Good P w K mg base "enough" 1 ["tables", "least", "whole"] m_enough) : ∀ n, Good P w K mg base "joined" (2 + n) ["e", "columns", "whole"] (m_joined n)
  | 0 => (D.none scm_joined).mono (by omega)
  | n + 1 => have G := goodm_joined T D Genough n
  (D.good (N := ["e", "columns", "whole", "tables", "told", "one", "member"]) scm_joined fun f cdv A outer s H E hr =>
  (dss_cons (ds_if (dt_cmp (op_eqA (hu_of64 hr)) opd_eqA (de_ix ix_seq opd_ix (de_var (pv 0)) de_int (fun _ _ => rfl)) de_str rfl)
    (dss_one (ds_ret (de_dget (hu_1 hr) (de_var (pv 1)) (de_ix ix_seq opd_ix (de_var (pv 0)) de_int (fun _ _ => rfl)) (fun _ _ => rfl))))
    dss_nil)
  (dss_cons (ds_setLc (by decide) (ps_setLc (own := [("member", 6)]) rfl scm_joined.nd rfl rfl (sw_true rfl rfl rfl (by decide +kernel)) (di_seq (de_ix ix_seq opd_ix (de_var (pv 0)) (de_un un_neg und_neg de_int) (fun _ _ => rfl))) (blkOk_by (N := ["e", "columns", "whole", "tables", "told", "one", "member"]) (sc := (defScope sm_joined)) (by decide +kernel)) (fun _ _ _ _ _ => (dg_n (pg_name (i := 6) scm_joined.nd rfl (by first | exact .inl rfl | exact .inr rfl)))) (fun _ _ _ _ _ => dts_nil) (fun _ _ _ _ _ => (dc takes0 G (hr.mono (by first | omega | (simp only [Nat.add_eq]; omega))) rfl rfl ((aCons_len (aCons_len (aCons_len aNil_len)))) (da_cons (de_var (pv 6)) (da_cons (de_var (pv 1)) (da_cons (de_var (pv 2)) da_nil)))))))
  (dss_cons (ds_if (dt_cmp (op_eqA (hu_of64 hr)) opd_eqA (de_ix ix_seq opd_ix (de_var (pv 0)) de_int (fun _ _ => rfl)) de_str rfl)
    (dss_one (ds_ret (dc (takes_of rfl rfl rfl rfl) Genough (hr.mono (by first | omega | (simp only [Nat.add_eq]; omega))) rfl rfl ((aCons_len (aCons_len (aCons_len aNil_len)))) (da_cons (de_var (pv 3)) (da_cons (de_ix ix_seq opd_ix (de_var (pv 0)) de_int (fun _ _ => rfl)) (da_cons (de_var (pv 2)) da_nil))))))
    dss_nil)
  (dss_cons (ds_if (dt_cmp (op_eqA (hu_of64 hr)) opd_eqA (de_ix ix_seq opd_ix (de_var (pv 0)) de_int (fun _ _ => rfl)) de_str rfl)
    (dss_cons (ds_set (ps_set (i := 4) scm_joined.nd rfl (by first | exact .inl rfl | exact .inr rfl) (de_var (pv 2))))
    (dss_cons (ds_for (ps_for (passes_of rfl) rfl (di_seq (de_var (pv 3))) (dg_n (pg_name (i := 5) scm_joined.nd rfl (by first | exact .inl rfl | exact .inr rfl)))
      (dss_one (ds_set (ps_set (i := 4) scm_joined.nd rfl (by first | exact .inl rfl | exact .inr rfl) (de_op op_and opd_band (de_var (pv 4)) (de_var (pv 5))))))))
    (dss_one (ds_ret (de_var (pv 4))))))
    dss_nil)
  (dss_cons (ds_set (ps_set (i := 4) scm_joined.nd rfl (by first | exact .inl rfl | exact .inr rfl) de_int))
  (dss_cons (ds_for (ps_for (passes_of rfl) rfl (di_seq (de_var (pv 3))) (dg_n (pg_name (i := 5) scm_joined.nd rfl (by first | exact .inl rfl | exact .inr rfl)))
    (dss_one (ds_set (ps_set (i := 4) scm_joined.nd rfl (by first | exact .inl rfl | exact .inr rfl) (de_op op_or opd_bor (de_var (pv 4)) (de_var (pv 5))))))))
  (dss_one (ds_ret (de_var (pv 4)))))))))))
abbrev sm_everywhere : Stmt := topS 28
theorem scm_everywhere : FnScope ["count"] ["count"] (defScope sm_everywhere) := ⟨rfl, rfl, rfl, by decide +kernel, rfl, by decide +kernel, by decide +kernel⟩
theorem goodm_everywhere (T : Tx P w K mg) (D : DefAt K mg "everywhere" "everywhere" sm_everywhere ["count"])  : Good P w K mg base "everywhere" 1 ["count"] m_everywhere :=
  (D.good (N := ["count"]) scm_everywhere fun f cdv A outer s H E hr =>
  (dss_one (ds_ret (de_op op_sub opd_sub (de_op op_shlW opd_shl de_int (de_op op_shlW opd_shl de_int (de_var (pv 0)))) de_int))))
abbrev sm_column : Stmt := topS 29
theorem scm_column : FnScope ["place", "count", "run"] ["place", "count"] (defScope sm_column) := ⟨rfl, rfl, rfl, by decide +kernel, rfl, by decide +kernel, by decide +kernel⟩
theorem goodm_column (T : Tx P w K mg) (D : DefAt K mg "column" "column" sm_column ["place", "count"]) (Geverywhere : Good P w K mg base "everywhere" 1 ["count"] m_everywhere) : Good P w K mg base "column" 2 ["place", "count"] m_column :=
  (D.good (N := ["place", "count", "run"]) scm_column fun f cdv A outer s H E hr =>
  (dss_cons (ds_set (ps_set (i := 2) scm_column.nd rfl (by first | exact .inl rfl | exact .inr rfl) (de_op op_shlW opd_shl de_int (de_var (pv 0)))))
  (dss_one (ds_ret (de_op op_shlW opd_shl (de_op op_fdivA opd_fdiv (dc (takes_of rfl rfl rfl rfl) Geverywhere (hr.mono (by decide)) rfl rfl ((aCons_len aNil_len)) (da_cons (de_var (pv 1)) da_nil)) (de_op op_addA opd_add (de_op op_shlW opd_shl de_int (de_var (pv 2))) de_int)) (de_var (pv 2)))))))
abbrev sm_table : Stmt := topS 32
theorem scm_table : FnScope ["e", "names", "count", "columns", "k", "name"] ["e", "names"] (defScope sm_table) := ⟨rfl, rfl, rfl, by decide +kernel, rfl, by decide +kernel, by decide +kernel⟩
theorem goodm_table (T : Tx P w K mg) (D : DefAt K mg "table" "table" sm_table ["e", "names"]) (Gjoined : ∀ n, Good P w K mg base "joined" (2 + n) ["e", "columns", "whole"] (m_joined n)) (Gcolumn : Good P w K mg base "column" 2 ["place", "count"] m_column) (Geverywhere : Good P w K mg base "everywhere" 1 ["count"] m_everywhere) : Good P w K mg base "table" 27 ["e", "names"] m_table :=
  (D.good (N := ["e", "names", "count", "columns", "k", "name"]) scm_table fun f cdv A outer s H E hr =>
  (dss_cons (ds_set (ps_set (i := 2) scm_table.nd rfl (by first | exact .inl rfl | exact .inr rfl) (de_cb (pe_callB call_lenA rfl T.b_len (by decide +kernel) (da_cons (de_var (pv 1)) da_nil)) cd_len)))
  (dss_cons (ds_setDc (by decide) (ps_setDc (own := [("k", 4), ("name", 5)]) rfl scm_table.nd rfl rfl (swD_true rfl rfl rfl (by decide +kernel)) (di_enu (pi_enB rfl T.b_enumerate (da_cons (de_var (pv 1)) da_nil))) (blkOk_by (N := ["e", "names", "count", "columns", "k", "name"]) (sc := (defScope sm_table)) (by decide +kernel)) (fun _ _ _ _ _ => (dgT rfl (dgsC (dg_n (pg_name (i := 4) scm_table.nd rfl (by first | exact .inl rfl | exact .inr rfl))) (dgsC (dg_n (pg_name (i := 5) scm_table.nd rfl (by first | exact .inl rfl | exact .inr rfl))) dgs_nil (fun a b => pgs_cons a b)) (fun a b => pgs_cons a b)) (fun a => pg_tup rfl a) (fun a => pg_lst rfl a))) (fun _ _ _ _ _ => dts_nil) (fun _ _ _ _ _ => (de_var (pv 5))) (fun _ _ _ _ _ => (dc takes0 Gcolumn (hr.mono (by decide)) rfl rfl ((aCons_len (aCons_len aNil_len))) (da_cons (de_var (pv 4)) (da_cons (de_var (pv 2)) da_nil))))))
  (dss_one (ds_ret (dc (takes_of rfl rfl rfl rfl) (Gjoined 24) (hr.mono (by decide)) rfl rfl ((aCons_len (aCons_len (aCons_len aNil_len)))) (da_cons (de_var (pv 0)) (da_cons (de_var (pv 3)) (da_cons (dc (takes_of rfl rfl rfl rfl) Geverywhere (hr.mono (by decide)) rfl rfl ((aCons_len aNil_len)) (da_cons (de_var (pv 2)) da_nil)) da_nil)))))))))
abbrev sm_blame : Stmt := topS 50
theorem scm_blame : FnScope ["e", "odds", "name", "names", "known", "weights", "failing", "whole", "up", "broken", "place"] ["e", "odds", "name"] (defScope sm_blame) := ⟨rfl, rfl, rfl, by decide +kernel, rfl, by decide +kernel, by decide +kernel⟩
theorem goodm_blame (T : Tx P w K mg) (D : DefAt K mg "blame" "blame" sm_blame ["e", "odds", "name"]) (G_named_odds : Good P w K mg base "_named_odds" 7 ["e", "odds", "name"] m_named_odds) (Gweights_of : Good P w K mg base "weights_of" 1 ["names", "known"] m_weights_of_2) (Gweighed : Good P w K mg base "weighed" 2 ["told", "weights"] m_weighed) (Glowest : Good P w K mg base "lowest" 1 ["n", "d"] m_lowest) (Gtable : Good P w K mg base "table" 27 ["e", "names"] m_table) (Geverywhere : Good P w K mg base "everywhere" 1 ["count"] m_everywhere) : Good P w K mg base "blame" 28 ["e", "odds", "name"] m_blame :=
  (D.good (N := ["e", "odds", "name", "names", "known", "weights", "failing", "whole", "up", "broken", "place"]) scm_blame fun f cdv A outer s H E hr =>
  (dss_cons (ds_asg (ps_asg (dc (takes_of rfl rfl rfl rfl) G_named_odds (hr.mono (by decide)) rfl rfl ((aCons_len (aCons_len (aCons_len aNil_len)))) (da_cons (de_var (pv 0)) (da_cons (de_var (pv 1)) (da_cons (de_var (pv 2)) da_nil)))) (dgT rfl (dgsC (dg_n (pg_name (i := 3) scm_blame.nd rfl (by first | exact .inl rfl | exact .inr rfl))) (dgsC (dg_n (pg_name (i := 4) scm_blame.nd rfl (by first | exact .inl rfl | exact .inr rfl))) dgs_nil (fun a b => pgs_cons a b)) (fun a b => pgs_cons a b)) (fun a => pg_tup rfl a) (fun a => pg_lst rfl a))))
  (dss_cons (ds_set (ps_set (i := 5) scm_blame.nd rfl (by first | exact .inl rfl | exact .inr rfl) (dcG (takes_of rfl rfl rfl rfl) Gweights_of (hr.mono (by decide)) rfl rfl ((aCons_len (aCons_len aNil_len))) (da_cons (de_var (pv 3)) (da_cons (de_var (pv 4)) da_nil)))))
  (dss_cons (ds_set (ps_set (i := 6) scm_blame.nd rfl (by first | exact .inl rfl | exact .inr rfl) (de_op op_xor opd_bxor (dc (takes_of rfl rfl rfl rfl) Gtable (hr.mono (by decide)) rfl rfl ((aCons_len (aCons_len aNil_len))) (da_cons (de_var (pv 0)) (da_cons (de_var (pv 3)) da_nil))) (dc (takes_of rfl rfl rfl rfl) Geverywhere (hr.mono (by decide)) rfl rfl ((aCons_len aNil_len)) (da_cons (de_cb (pe_callB call_lenA rfl T.b_len (by decide +kernel) (da_cons (de_var (pv 3)) da_nil)) cd_len) da_nil)))))
  (dss_cons (ds_set (ps_set (i := 7) scm_blame.nd rfl (by first | exact .inl rfl | exact .inr rfl) (dc (takes_of rfl rfl rfl rfl) Gweighed (hr.mono (by decide)) rfl rfl ((aCons_len (aCons_len aNil_len))) (da_cons (de_var (pv 6)) (da_cons (de_var (pv 5)) da_nil)))))
  (dss_cons (ds_if (dt_cmp (op_eqA (hu_of64 hr)) opd_eqA (de_var (pv 7)) de_int rfl)
    (dss_one (ds_raise1 rfl (takes_of rfl rfl rfl rfl) T.x_NoChance (hr.mono (by decide)) rfl (da_cons de_str da_nil)))
    dss_nil)
  (dss_cons (ds_if (dt_cmp op_notInA opd_in (de_var (pv 2)) (de_var (pv 3)) rfl)
    (dss_cons (ds_par (ps_par (i := 8) (j := 9) rfl scm_blame.nd rfl rfl (by decide) rfl rfl (da_cons (de_ix ix_seq opd_ix (de_dget (hu_1 hr) (de_var (pv 4)) (de_var (pv 2)) (fun _ _ => rfl)) de_int (fun _ _ => rfl)) (da_cons (de_ix ix_seq opd_ix (de_dget (hu_1 hr) (de_var (pv 4)) (de_var (pv 2)) (fun _ _ => rfl)) de_int (fun _ _ => rfl)) da_nil)) rfl))
    (dss_one (ds_ret (dc (takes_of rfl rfl rfl rfl) Glowest (hr.mono (by decide)) rfl rfl ((aCons_len (aCons_len aNil_len))) (da_cons (de_op op_sub opd_sub (de_var (pv 9)) (de_var (pv 8))) (da_cons (de_var (pv 9)) da_nil))))))
    dss_nil)
  (dss_cons (ds_set (ps_set (i := 10) scm_blame.nd rfl (by first | exact .inl rfl | exact .inr rfl) (de_ixt (pe_bmT PySem.F.plainAttrs_tuple PySem.F.slot_tuple_index PySem.F.type_tuple_index mt_tup_index (de_var (pv 3)) (da_cons (de_var (pv 2)) da_nil)) md_ixt)))
  (dss_cons (ds_put (ps_asg (de_tup (da_cons de_int (da_cons (de_ix ix_seq opd_ix (de_ix ix_seq opd_ix (de_var (pv 5)) (de_var (pv 10)) (fun _ _ => rfl)) de_int (fun _ _ => rfl)) da_nil))) (pg_sub (de_var (pv 5)) (de_var (pv 10)) set_list)) sd_set)
  (dss_one (ds_ret (dc (takes_of rfl rfl rfl rfl) Glowest (hr.mono (by decide)) rfl rfl ((aCons_len (aCons_len aNil_len))) (da_cons (dc (takes_of rfl rfl rfl rfl) Gweighed (hr.mono (by decide)) rfl rfl ((aCons_len (aCons_len aNil_len))) (da_cons (de_var (pv 6)) (da_cons (de_var (pv 5)) da_nil))) (da_cons (de_var (pv 7)) da_nil))))))))))))))
abbrev sm_law_listed : Stmt := topS 56
theorem scm_law_listed : FnScope ["value", "one"] ["value"] (defScope sm_law_listed) := ⟨rfl, rfl, rfl, by decide +kernel, rfl, by decide +kernel, by decide +kernel⟩
theorem goodm_law_listed (T : Tx P w K mg) (D : DefAt K mg "_law_listed" "_law_listed" sm_law_listed ["value"])  : ∀ n, Good P w K mg base "_law_listed" (1 + n) ["value"] (m_law_listed n)
  | 0 => (D.none scm_law_listed).mono (by omega)
  | n + 1 => have G := goodm_law_listed T D  n
  (D.good (N := ["value", "one"]) scm_law_listed fun f cdv A outer s H E hr =>
  (dss_cons (ds_if (dt_tru (de_cb (pe_callB call_isi rfl T.b_isinstance (by decide +kernel) (da_cons (de_var (pv 0)) (da_cons (de_bty rfl T.b_tuple (by decide +kernel)) da_nil))) cd_is))
    (dss_one (ds_ret (de_lc (by decide) (pe_lc (own := [("one", 1)]) rfl scm_law_listed.nd (di_seq (de_var (pv 0))) (blkOk_by (N := ["value", "one"]) (sc := (defScope sm_law_listed)) (by decide +kernel)) (fun _ _ _ _ _ => (dg_n (pg_name (i := 1) scm_law_listed.nd rfl (by first | exact .inl rfl | exact .inr rfl)))) (fun _ _ _ _ _ => dts_nil) (fun _ _ _ _ _ => (dc takes0 G (hr.mono (by first | omega | (simp only [Nat.add_eq]; omega))) rfl rfl ((aCons_len aNil_len)) (da_cons (de_var (pv 1)) da_nil)))))))
    dss_nil)
  (dss_one (ds_ret (de_var (pv 0))))))
abbrev sm_law_handed : Stmt := topS 57
theorem scm_law_handed : FnScope ["row", "spot", "value"] ["row", "spot", "value"] (defScope sm_law_handed) := ⟨rfl, rfl, rfl, by decide +kernel, rfl, by decide +kernel, by decide +kernel⟩
theorem goodm_law_handed (T : Tx P w K mg) (D : DefAt K mg "_law_handed" "_law_handed" sm_law_handed ["row", "spot", "value"]) (G_law_listed : ∀ n, Good P w K mg base "_law_listed" (1 + n) ["value"] (m_law_listed n)) (G_law_take : Good P w K mg base "_law_take" 2 ["row", "spot", "limit"] m_law_take) : Good P w K mg base "_law_handed" 26 ["row", "spot", "value"] m_law_handed :=
  (D.good (N := ["row", "spot", "value"]) scm_law_handed fun f cdv A outer s H E hr =>
  (dss_one (ds_ret (de_if (dt_cmp (op_eqA (hu_of64 hr)) opd_eqA (dc (takes_of rfl rfl rfl rfl) G_law_take (hr.mono (by decide)) rfl rfl ((aCons_len (aCons_len (aCons_len aNil_len)))) (da_cons (de_var (pv 0)) (da_cons (de_var (pv 1)) (da_cons de_int da_nil)))) de_int rfl) (dc (takes_of rfl rfl rfl rfl) (G_law_listed 24) (hr.mono (by decide)) rfl rfl ((aCons_len aNil_len)) (da_cons (de_var (pv 2)) da_nil)) (de_var (pv 2))))))
abbrev sm_law_so : Stmt := topS 52
theorem scm_law_so : FnScope ["found", "meant", "k"] ["found", "meant"] (defScope sm_law_so) := ⟨rfl, rfl, rfl, by decide +kernel, rfl, by decide +kernel, by decide +kernel⟩
theorem goodm_law_so (T : Tx P w K mg) (D : DefAt K mg "_law_so" "_law_so" sm_law_so ["found", "meant"])  : ∀ n, Good P w K mg base "_law_so" (1 + n) ["found", "meant"] (m_law_so n)
  | 0 => (D.none scm_law_so).mono (by omega)
  | n + 1 => have G := goodm_law_so T D  n
  (D.good (N := ["found", "meant", "k"]) scm_law_so fun f cdv A outer s H E hr =>
  (dss_cons (ds_if (dt_cmp op_isN opd_isn (de_var (pv 1)) de_non rfl)
    (dss_one (ds_ret (de_cmp op_isN opd_isn (de_var (pv 0)) de_non rfl)))
    dss_nil)
  (dss_cons (ds_if (dt_tru (de_cb (pe_callB call_isi rfl T.b_isinstance (by decide +kernel) (da_cons (de_var (pv 1)) (da_cons (de_bty rfl T.b_tuple (by decide +kernel)) da_nil))) cd_is))
    (dss_cons (ds_if (PW.pt (dw_or (dt_not (dt_tru (de_cb (pe_callB call_isi rfl T.b_isinstance (by decide +kernel) (da_cons (de_var (pv 0)) (da_cons (de_bty rfl T.b_tuple (by decide +kernel)) da_nil))) cd_is))) (dw_or1 (dt_cmp (op_neA (hu_of64 hr)) opd_eqA (de_cb (pe_callB call_lenA rfl T.b_len (by decide +kernel) (da_cons (de_var (pv 0)) da_nil)) cd_len) (de_cb (pe_callB call_lenA rfl T.b_len (by decide +kernel) (da_cons (de_var (pv 1)) da_nil)) cd_len) rfl))))
      (dss_one (ds_ret de_bl))
      dss_nil)
    (dss_cons (ds_for (ps_for (passes_of rfl) rfl (di_rg1 (pi_range1 rfl T.b_range (da_cons (de_cb (pe_callB call_lenA rfl T.b_len (by decide +kernel) (da_cons (de_var (pv 1)) da_nil)) cd_len) da_nil))) (dg_n (pg_name (i := 2) scm_law_so.nd rfl (by first | exact .inl rfl | exact .inr rfl)))
      (dss_one (ds_if (dt_not (dt_tru (dc (takes_of rfl rfl rfl rfl) G (hr.mono (by first | omega | (simp only [Nat.add_eq]; omega))) rfl rfl ((aCons_len (aCons_len aNil_len))) (da_cons (de_ix ix_seq opd_ix (de_var (pv 0)) (de_var (pv 2)) (fun _ _ => rfl)) (da_cons (de_ix ix_seq opd_ix (de_var (pv 1)) (de_var (pv 2)) (fun _ _ => rfl)) da_nil)))))
        (dss_one (ds_ret de_bl))
        dss_nil))))
    (dss_one (ds_ret de_bl))))
    dss_nil)
  (dss_cons (ds_if (PW.pt (dw_or (dt_tru (de_cb (pe_callB call_isi rfl T.b_isinstance (by decide +kernel) (da_cons (de_var (pv 1)) (da_cons (de_bty rfl T.b_bool (by decide +kernel)) da_nil))) cd_is)) (dw_or1 (dt_tru (de_cb (pe_callB call_isi rfl T.b_isinstance (by decide +kernel) (da_cons (de_var (pv 0)) (da_cons (de_bty rfl T.b_bool (by decide +kernel)) da_nil))) cd_is)))))
    (dss_one (ds_ret (de_and (de_cb (pe_callB call_isi rfl T.b_isinstance (by decide +kernel) (da_cons (de_var (pv 1)) (da_cons (de_bty rfl T.b_bool (by decide +kernel)) da_nil))) cd_is) (de_and (de_cb (pe_callB call_isi rfl T.b_isinstance (by decide +kernel) (da_cons (de_var (pv 0)) (da_cons (de_bty rfl T.b_bool (by decide +kernel)) da_nil))) cd_is) (de_one (de_cmp (op_eqA (hu_of64 hr)) opd_eqA (de_var (pv 0)) (de_var (pv 1)) rfl))))))
    dss_nil)
  (dss_cons (ds_if (dt_tru (de_cb (pe_callB call_isi rfl T.b_isinstance (by decide +kernel) (da_cons (de_var (pv 1)) (da_cons (de_bty rfl T.b_int (by decide +kernel)) da_nil))) cd_is))
    (dss_one (ds_ret (de_and (de_cb (pe_callB call_isi rfl T.b_isinstance (by decide +kernel) (da_cons (de_var (pv 0)) (da_cons (de_bty rfl T.b_int (by decide +kernel)) da_nil))) cd_is) (de_one (de_cmp (op_eqA (hu_of64 hr)) opd_eqA (de_var (pv 0)) (de_var (pv 1)) rfl)))))
    dss_nil)
  (dss_one (ds_ret (de_and (de_cb (pe_callB call_isi rfl T.b_isinstance (by decide +kernel) (da_cons (de_var (pv 1)) (da_cons (de_bty rfl T.b_str (by decide +kernel)) da_nil))) cd_is) (de_and (de_cb (pe_callB call_isi rfl T.b_isinstance (by decide +kernel) (da_cons (de_var (pv 0)) (da_cons (de_bty rfl T.b_str (by decide +kernel)) da_nil))) cd_is) (de_one (de_cmp (op_eqA (hu_of64 hr)) opd_eqA (de_var (pv 0)) (de_var (pv 1)) rfl)))))))))))
abbrev sm_law_div : Stmt := topS 68
theorem scm_law_div : FnScope ["one", "other"] ["one", "other"] (defScope sm_law_div) := ⟨rfl, rfl, rfl, by decide +kernel, rfl, by decide +kernel, by decide +kernel⟩
theorem goodm_law_div (T : Tx P w K mg) (D : DefAt K mg "_law_div" "_law_div" sm_law_div ["one", "other"]) (G_law_red : ∀ n, Good P w K mg base "_law_red" (2 + n) ["n", "d"] (m_law_red n)) : Good P w K mg base "_law_div" 27 ["one", "other"] m_law_div :=
  (D.good (N := ["one", "other"]) scm_law_div fun f cdv A outer s H E hr =>
  (dss_one (ds_ret (dc (takes_of rfl rfl rfl rfl) (G_law_red 24) (hr.mono (by decide)) rfl rfl ((aCons_len (aCons_len aNil_len))) (da_cons (de_op op_mulA opd_mul (de_ix ix_seq opd_ix (de_var (pv 0)) de_int (fun _ _ => rfl)) (de_ix ix_seq opd_ix (de_var (pv 1)) de_int (fun _ _ => rfl))) (da_cons (de_op op_mulA opd_mul (de_ix ix_seq opd_ix (de_var (pv 0)) de_int (fun _ _ => rfl)) (de_ix ix_seq opd_ix (de_var (pv 1)) de_int (fun _ _ => rfl))) da_nil))))))
abbrev sm_law_odd : Stmt := topS 80
theorem scm_law_odd : FnScope ["odds", "name", "pair"] ["odds", "name"] (defScope sm_law_odd) := ⟨rfl, rfl, rfl, by decide +kernel, rfl, by decide +kernel, by decide +kernel⟩
theorem goodm_law_odd (T : Tx P w K mg) (D : DefAt K mg "_law_odd" "_law_odd" sm_law_odd ["odds", "name"])  : Good P w K mg base "_law_odd" 1 ["odds", "name"] m_law_odd :=
  (D.good (N := ["odds", "name", "pair"]) scm_law_odd fun f cdv A outer s H E hr =>
  (dss_cons (ds_for (ps_for (passes_of rfl) rfl (di_seq (de_var (pv 0))) (dg_n (pg_name (i := 2) scm_law_odd.nd rfl (by first | exact .inl rfl | exact .inr rfl)))
    (dss_one (ds_if (dt_cmp (op_eqA (hu_of64 hr)) opd_eqA (de_ix ix_seq opd_ix (de_var (pv 2)) de_int (fun _ _ => rfl)) (de_var (pv 1)) rfl)
      (dss_one (ds_ret (de_ix ix_seq opd_ix (de_var (pv 2)) de_int (fun _ _ => rfl))))
      dss_nil))))
  (dss_one (ds_ret de_non))))
abbrev sm_law : Stmt := topS 82
theorem scm_law : FnScope ["script", "row", "spot", "names", "e", "odds", "own", "down", "name", "told", "total", "one"] ["script"] (defScope sm_law) := ⟨rfl, rfl, rfl, by decide +kernel, rfl, by decide +kernel, by decide +kernel⟩
theorem goodm_law {cL PL : Addr} (T : Tx P w K mg) (D : DefAtC K mg "law" "law" sm_law ["script"] cL) (TT : TellTxt K mg sm_law_told) (TB : LawTab K mg base cL PL) (G_law_numbers : Good P w K mg base "_law_numbers" 1 ["script"] m_law_numbers) (G_law_names : Good P w K mg base "_law_names" 5 ["row", "spot", "many"] m_law_names) (G_law_small : Good P w K mg base "_law_small" 29 ["row", "spot", "names"] m_law_small) (G_law_odds : Good P w K mg base "_law_odds" 28 ["row", "spot", "names"] m_law_odds) (G_law_parts : ∀ n, Good P w K mg base "_law_parts" (1 + n) ["e"] (m_law_parts n)) (G_law_not : Good P w K mg base "_law_not" 28 ["one"] m_law_not) (G_law_sum_chance : Good P w K mg base "_law_sum_chance" 29 ["e", "odds"] m_law_sum_chance) (G_law_take : Good P w K mg base "_law_take" 2 ["row", "spot", "limit"] m_law_take) (G_law_sets : Good P w K mg base "_law_sets" 1 ["names"] m_law_sets) (Gblame : Good P w K mg base "blame" 28 ["e", "odds", "name"] m_blame) (G_law_handed : Good P w K mg base "_law_handed" 26 ["row", "spot", "value"] m_law_handed) (G_law_add : Good P w K mg base "_law_add" 27 ["one", "other"] m_law_add) (G_law_so : ∀ n, Good P w K mg base "_law_so" (1 + n) ["found", "meant"] (m_law_so n)) (G_law_mul : Good P w K mg base "_law_mul" 27 ["one", "other"] m_law_mul) (G_law_works : ∀ n, Good P w K mg base "_law_works" (1 + n) ["e", "up"] (m_law_works n)) (G_law_prior : Good P w K mg base "_law_prior" 28 ["names", "odds", "broken"] m_law_prior) (G_law_div : Good P w K mg base "_law_div" 27 ["one", "other"] m_law_div) (G_law_others : Good P w K mg base "_law_others" 1 ["names", "some"] m_law_others) (G_law_odd : Good P w K mg base "_law_odd" 1 ["odds", "name"] m_law_odd) : Good P w K mg base "law" 32 ["script"] m_law :=
  (D.good (N := ["script", "row", "spot", "names", "e", "odds", "own", "down", "name", "told", "total", "one"]) scm_law fun f A outer s H E hr =>
  (dss_cons (ds_set (ps_set (i := 1) scm_law.nd rfl (by first | exact .inl rfl | exact .inr rfl) (dc (takes_of rfl rfl rfl rfl) G_law_numbers (hr.mono (by decide)) rfl rfl ((aCons_len aNil_len)) (da_cons (de_var (pv 0)) da_nil))))
  (dss_cons (ds_set (ps_set (i := 2) scm_law.nd rfl (by first | exact .inl rfl | exact .inr rfl) (de_cell (da_cons de_int da_nil))))
  (dss_cons (ds_set (ps_set (i := 3) scm_law.nd rfl (by first | exact .inl rfl | exact .inr rfl) (dc (takes_of rfl rfl rfl rfl) G_law_names (hr.mono (by decide)) rfl rfl ((aCons_len (aCons_len (aCons_len aNil_len)))) (da_cons (de_var (pv 1)) (da_cons (de_var (pv 2)) (da_cons (de_op op_addA opd_add de_int (dc (takes_of rfl rfl rfl rfl) G_law_take (hr.mono (by decide)) rfl rfl ((aCons_len (aCons_len (aCons_len aNil_len)))) (da_cons (de_var (pv 1)) (da_cons (de_var (pv 2)) (da_cons de_int da_nil))))) da_nil))))))
  (dss_cons (ds_set (ps_set (i := 4) scm_law.nd rfl (by first | exact .inl rfl | exact .inr rfl) (dc (takes_of rfl rfl rfl rfl) G_law_small (hr.mono (by decide)) rfl rfl ((aCons_len (aCons_len (aCons_len aNil_len)))) (da_cons (de_var (pv 1)) (da_cons (de_var (pv 2)) (da_cons (de_var (pv 3)) da_nil))))))
  (dss_cons (ds_set (ps_set (i := 5) scm_law.nd rfl (by first | exact .inl rfl | exact .inr rfl) (dc (takes_of rfl rfl rfl rfl) G_law_odds (hr.mono (by decide)) rfl rfl ((aCons_len (aCons_len (aCons_len aNil_len)))) (da_cons (de_var (pv 1)) (da_cons (de_var (pv 2)) (da_cons (de_var (pv 3)) da_nil))))))
  (dss_cons (ds_set (ps_set (i := 6) scm_law.nd rfl (by first | exact .inl rfl | exact .inr rfl) (dc (takes_of rfl rfl rfl rfl) (G_law_parts 24) (hr.mono (by decide)) rfl rfl ((aCons_len aNil_len)) (da_cons (de_var (pv 4)) da_nil))))
  (dss_cons (ds_set (ps_set (i := 7) scm_law.nd rfl (by first | exact .inl rfl | exact .inr rfl) (dc (takes_of rfl rfl rfl rfl) G_law_not (hr.mono (by decide)) rfl rfl ((aCons_len aNil_len)) (da_cons (dc (takes_of rfl rfl rfl rfl) G_law_sum_chance (hr.mono (by decide)) rfl rfl ((aCons_len (aCons_len aNil_len))) (da_cons (de_var (pv 4)) (da_cons (de_var (pv 5)) da_nil))) da_nil))))
  (dss_cons (ds_for (ps_for (passes_of rfl) rfl (di_seq (de_var (pv 3))) (dg_n (pg_name (i := 8) scm_law.nd rfl (by first | exact .inl rfl | exact .inr rfl)))
    (dss_cons (ds_set (ps_set (i := 9) scm_law.nd rfl (by first | exact .inl rfl | exact .inr rfl) (de_told (k := 29) TT TB rfl (by kernel_rfl) (hr.mono (by decide)) (LamX.lamS_by (sc := defScope sm_law) (by decide +kernel)) rfl rfl (fun _ _ _ _ _ => rfl) (fun A outer s H E f c hr => (dc (takes_of rfl rfl rfl rfl) Gblame (hr.mono (by decide)) rfl rfl ((aCons_len (aCons_len (aCons_len aNil_len)))) (da_cons (dc (takes_of rfl rfl rfl rfl) G_law_handed (hr.mono (by decide)) rfl rfl ((aCons_len (aCons_len (aCons_len aNil_len)))) (da_cons (de_var (pv 1)) (da_cons (de_var (pv 2)) (da_cons (de_var (pv 4)) da_nil)))) (da_cons (de_var (pv 5)) (da_cons (de_var (pv 8)) da_nil))))))))
    (dss_one (ds_if (dt_cmp (op_eqA (hu_of64 hr)) opd_eqA (de_var (pv 7)) (de_tup (da_cons de_int (da_cons de_int da_nil))) rfl)
      (dss_one (ds_if (dt_cmp (op_neA (hu_of64 hr)) opd_eqA (de_var (pv 9)) (de_tup (da_cons de_str (da_cons de_str da_nil))) rfl)
        (dss_one (ds_ret de_bl))
        dss_nil))
      (dss_cons (ds_set (ps_set (i := 10) scm_law.nd rfl (by first | exact .inl rfl | exact .inr rfl) (de_tup (da_cons de_int (da_cons de_int da_nil)))))
      (dss_cons (ds_for (ps_for (passes_of rfl) rfl (di_seq (dc (takes_of rfl rfl rfl rfl) G_law_sets (hr.mono (by decide)) rfl rfl ((aCons_len aNil_len)) (da_cons (de_var (pv 3)) da_nil))) (dg_n (pg_name (i := 11) scm_law.nd rfl (by first | exact .inl rfl | exact .inr rfl)))
        (dss_one (ds_if (PW.pt (dw_and (dt_cmp op_inA opd_in (de_var (pv 8)) (de_var (pv 11)) rfl) (dw_and1 (dt_not (dt_tru (dc (takes_of rfl rfl rfl rfl) (G_law_works 24) (hr.mono (by decide)) rfl rfl ((aCons_len (aCons_len aNil_len))) (da_cons (de_var (pv 4)) (da_cons (dc (takes_of rfl rfl rfl rfl) G_law_others (hr.mono (by decide)) rfl rfl ((aCons_len (aCons_len aNil_len))) (da_cons (de_var (pv 3)) (da_cons (de_var (pv 11)) da_nil))) da_nil))))))))
          (dss_one (ds_set (ps_set (i := 10) scm_law.nd rfl (by first | exact .inl rfl | exact .inr rfl) (dc (takes_of rfl rfl rfl rfl) G_law_add (hr.mono (by decide)) rfl rfl ((aCons_len (aCons_len aNil_len))) (da_cons (de_var (pv 10)) (da_cons (dc (takes_of rfl rfl rfl rfl) G_law_prior (hr.mono (by decide)) rfl rfl ((aCons_len (aCons_len (aCons_len aNil_len)))) (da_cons (de_var (pv 3)) (da_cons (de_var (pv 5)) (da_cons (de_var (pv 11)) da_nil)))) da_nil))))))
          dss_nil))))
      (dss_cons (ds_if (PW.pt (dw_or (dt_cmp (op_neA (hu_of64 hr)) opd_eqA (de_ix ix_seq opd_ix (de_var (pv 9)) de_int (fun _ _ => rfl)) de_str rfl) (dw_or1 (dt_not (dt_tru (dc (takes_of rfl rfl rfl rfl) (G_law_so 24) (hr.mono (by decide)) rfl rfl ((aCons_len (aCons_len aNil_len))) (da_cons (de_ix ix_seq opd_ix (de_var (pv 9)) de_int (fun _ _ => rfl)) (da_cons (dc (takes_of rfl rfl rfl rfl) G_law_div (hr.mono (by decide)) rfl rfl ((aCons_len (aCons_len aNil_len))) (da_cons (de_var (pv 10)) (da_cons (de_var (pv 7)) da_nil))) da_nil))))))))
        (dss_one (ds_ret de_bl))
        dss_nil)
      (dss_one (ds_if (PW.pt (dw_and (dt_cmp op_notInA opd_in (de_var (pv 8)) (de_var (pv 6)) rfl) (dw_and1 (dt_cmp (op_neA (hu_of64 hr)) opd_eqA (de_var (pv 10)) (dc (takes_of rfl rfl rfl rfl) G_law_mul (hr.mono (by decide)) rfl rfl ((aCons_len (aCons_len aNil_len))) (da_cons (de_var (pv 7)) (da_cons (dc (takes_of rfl rfl rfl rfl) G_law_not (hr.mono (by decide)) rfl rfl ((aCons_len aNil_len)) (da_cons (dc (takes_of rfl rfl rfl rfl) G_law_odd (hr.mono (by decide)) rfl rfl ((aCons_len (aCons_len aNil_len))) (da_cons (de_var (pv 5)) (da_cons (de_var (pv 8)) da_nil))) da_nil)) da_nil))) rfl))))
        (dss_one (ds_ret de_bl))
        dss_nil))))))))))
  (dss_one (ds_ret de_bl)))))))))))
end
end Mp
namespace Mp
open PySem PySem.Spec PyProof.Rows L2
def fnL0 : List He.FnD := [fnD "_law_numbers" "_law_numbers" sm_law_numbers, fnD "_law_draw" "_law_draw" sm_law_draw, fnD "_law_take" "_law_take" sm_law_take, fnD "_law_letters" "_law_letters" sm_law_letters, fnD "_law_reserved" "_law_reserved" sm_law_reserved, fnD "_law_name" "_law_name" sm_law_name, fnD "_law_names" "_law_names" sm_law_names, fnD "_law_pick" "_law_pick" sm_law_pick, fnD "_law_tree" "_law_tree" sm_law_tree, fnD "_law_small" "_law_small" sm_law_small, fnD "_law_gcd" "_law_gcd" sm_law_gcd, fnD "_law_red" "_law_red" sm_law_red, fnD "_law_chance" "_law_chance" sm_law_chance, fnD "_law_odds" "_law_odds" sm_law_odds, fnD "_law_parts" "_law_parts" sm_law_parts, fnD "_law_sub" "_law_sub" sm_law_sub, fnD "_law_not" "_law_not" sm_law_not, fnD "_law_sets" "_law_sets" sm_law_sets, fnD "_law_works" "_law_works" sm_law_works, fnD "_law_add" "_law_add" sm_law_add, fnD "_law_mul" "_law_mul" sm_law_mul, fnD "_law_prior" "_law_prior" sm_law_prior, fnD "_law_others" "_law_others" sm_law_others, fnD "_law_sum_chance" "_law_sum_chance" sm_law_sum_chance, fnD "is_sequence" "is_sequence" sm_is_sequence, fnD "is_row" "is_row" sm_is_row, fnD "is_name" "is_name" sm_is_name, fnD "is_integer" "is_integer" sm_is_integer, fnD "is_fraction" "is_fraction" sm_is_fraction, fnD "is_chance" "is_chance" sm_is_chance]
def fnL1 : List He.FnD := [fnD "odds_of" "odds_of" sm_odds_of, fnD "is_within" "is_within" sm_is_within, fnD "_is_outline" "_is_outline" sm_is_outline, fnD "is_structure" "is_structure" sm_is_structure, fnD "_known_odds" "_known_odds" sm_known_odds, fnD "names_in" "names_in" sm_names_in, fnD "first_lacking" "first_lacking" sm_first_lacking, fnD "_look_up" "_look_up" sm_look_up, fnD "_named_odds" "_named_odds" sm_named_odds, fnD "weights_of" "weights_of" sm_weights_of_2, fnD "folded" "folded" sm_folded, fnD "bits_of" "bits_of" sm_bits_of, fnD "weighed" "weighed" sm_weighed, fnD "lowest" "lowest" sm_lowest, fnD "enough" "enough" sm_enough, fnD "joined" "joined" sm_joined, fnD "everywhere" "everywhere" sm_everywhere, fnD "column" "column" sm_column, fnD "table" "table" sm_table, fnD "blame" "blame" sm_blame, fnD "_law_listed" "_law_listed" sm_law_listed, fnD "_law_handed" "_law_handed" sm_law_handed, fnD "_law_so" "_law_so" sm_law_so, fnD "_law_div" "_law_div" sm_law_div, fnD "_law_odd" "_law_odd" sm_law_odd, fnD "law" "law" sm_law, fnD "_law_told" "_law_told" sm_law_told, ⟨("BadValue", some "__init__"), "__init__", "BadValue.__init__", defArgs sx_BadValue, defBody sx_BadValue, defScope sx_BadValue⟩, ⟨("Unknown", some "__init__"), "__init__", "Unknown.__init__", defArgs sx_Unknown, defBody sx_Unknown, defScope sx_Unknown⟩, ⟨("NoChance", some "__init__"), "__init__", "NoChance.__init__", defArgs sx_NoChance, defBody sx_NoChance, defScope sx_NoChance⟩]
def fnL : List He.FnD := fnL0 ++ fnL1
def faL0 : List Fq := [fFree "range", fFree "int", fFree "len", fFree "sorted", fFree "tuple", fFree "isinstance", fFree "list", fFree "str", fFree "all", fFree "bool", fFree "enumerate", fBlt "gcd" "math.gcd", fStrs "WORDS" ["and", "or", "of", "always", "never"], fStr "LETTERS" "abcdefghijklmnopqrstuvwxyz", fInt "MOST_ODDS" 20, fInt "MOST_MEMBERS" 8, fInt "MOST_SHAPES" 60, fInt "MOST_LEVELS" 10, fInt "MOST_PARTS" 10, fXcl "BadValue" ["at"]]
def faL1 : List Fq := [fXcl "Unknown" ["name"], fXcl "NoChance" ["word"], fTab "law", fFree "_masks", fFree "purchases", fXrd "BadValue" ["at"], fXrd "BadText" ["at"], fXrd "Unknown" ["name"], fXrd "NoChance" ["word"], fXrd "Crowded" ["first", "last"], fXrd "NoDay" ["name"], fXrd "Missing" ["at"], fXrd "TakenName" ["name"], fXrd "Short" ["rows"], fExm [("BadValue", ["at"]), ("BadText", ["at"]), ("Unknown", ["name"]), ("NoChance", ["word"]), ("Crowded", ["first", "last"]), ("NoDay", ["name"]), ("Missing", ["at"]), ("TakenName", ["name"]), ("Short", ["rows"])]]
def faL : List Fq := faL0 ++ faL1
def looseL0 : List Str := ["WORDS", "LETTERS", "is_integer", "is_within", "is_sequence", "is_row", "is_name", "is_fraction", "is_chance", "MOST_ODDS", "odds_of", "first_lacking", "weights_of", "bits_of", "folded", "weighed", "MOST_PARTS", "MOST_SHAPES", "MOST_LEVELS", "MOST_MEMBERS", "_is_outline", "is_structure", "names_in", "everywhere", "column", "enough", "joined", "table", "MendError", "BadValue"]
def looseL1 : List Str := ["BadText", "Unknown", "NoChance", "Crowded", "NoDay", "Missing", "TakenName", "Short", "lowest", "_known_odds", "_look_up", "_named_odds", "blame", "_law_so", "_law_numbers", "_law_draw", "_law_take", "_law_listed", "_law_handed", "_law_pick", "_law_letters", "_law_reserved", "_law_name", "_law_names", "_law_gcd", "_law_red", "_law_add", "_law_sub", "_law_mul", "_law_div"]
def looseL2 : List Str := ["_law_chance", "_law_tree", "_law_parts", "_law_works", "_law_sets", "_law_others", "_law_prior", "_law_sum_chance", "_law_odds", "_law_told", "_law_small", "_law_odd", "_law_not"]
def looseL : List Str := looseL0 ++ looseL1 ++ looseL2
theorem all_mk {l : PySem.W.OpenLaw} {w : World} {K : PySem.W.Frag} {h : Heap} {mg : Str → Option Value} {fa' : Addr} (X : K.In h) (G : h.Ns mainGlobals mg) (hfa : mg "law" = some (.ref fa')) (c : SaysM faL fnL K) :
    ∃ (fd : FuncData) (c P : Addr), PySem.W.tabIn K "law" = some (c, P) ∧ K.lookup P = none ∧ (∀ x ∈ lamNames, PySem.W.tabIn K x = none ∨ (x ∈ ([] : List Str) ∧ ∃ c' P', PySem.W.tabIn K x = some (c', P') ∧ K.lookup P' = none)) ∧ (∀ (s : Shared) (v : Value), BindsTo s fd ⟨[v], []⟩ [("script", v)]) ∧ ∀ base : Heap, K.In base → base.Ns mainGlobals mg → LawTab K mg base c P → FnOk l.prog w K mg base (L2.CX l.prog w) 32 fa' fd ["script"] (spTrue K) := by
  obtain ⟨cL, PL, htL, nL⟩ := fTab_ok (c.fact 22 rfl)
  have T : Tx l.prog w K mg := { ok := trivial, b_range := fFree_ok X G (c.fact 0 rfl), b_int := fFree_ok X G (c.fact 1 rfl), b_len := fFree_ok X G (c.fact 2 rfl), b_sorted := fFree_ok X G (c.fact 3 rfl), b_tuple := fFree_ok X G (c.fact 4 rfl), b_isinstance := fFree_ok X G (c.fact 5 rfl), b_list := fFree_ok X G (c.fact 6 rfl), b_str := fFree_ok X G (c.fact 7 rfl), b_all := fFree_ok X G (c.fact 8 rfl), b_bool := fFree_ok X G (c.fact 9 rfl), b_enumerate := fFree_ok X G (c.fact 10 rfl), i_gcd := fBlt_ok X G (c.fact 11 rfl), c_WORDS := fStrs_ok X G (c.fact 12 rfl), c_LETTERS := fStr_ok X G (c.fact 13 rfl), c_MOST_ODDS := fInt_ok X G (c.fact 14 rfl), c_MOST_MEMBERS := fInt_ok X G (c.fact 15 rfl), c_MOST_SHAPES := fInt_ok X G (c.fact 16 rfl), c_MOST_LEVELS := fInt_ok X G (c.fact 17 rfl), c_MOST_PARTS := fInt_ok X G (c.fact 18 rfl), x_BadValue := fXcl_ok X G c 57 rfl (fun _ _ _ _ _ _ us hl => match us, hl with | [_, _], _ => rfl) (fun f fd F base => init_BadValue F) (c.fact 19 rfl), x_Unknown := fXcl_ok X G c 58 rfl (fun _ _ _ _ _ _ us hl => match us, hl with | [_, _], _ => rfl) (fun f fd F base => init_Unknown F) (c.fact 20 rfl), x_NoChance := fXcl_ok X G c 59 rfl (fun _ _ _ _ _ _ us hl => match us, hl with | [_, _], _ => rfl) (fun f fd F base => init_NoChance F) (c.fact 21 rfl) }
  have D1 : DefAt K mg "_law_numbers" "_law_numbers" sm_law_numbers ["script"] := defM X G c 0 (fun _ _ _ _ _ _ us hl => match us, hl with | [_], _ => rfl) rfl
  have D2 : DefAt K mg "_law_draw" "_law_draw" sm_law_draw ["row", "at", "limit"] := defM X G c 1 (fun _ _ _ _ _ _ us hl => match us, hl with | [_, _, _], _ => rfl) rfl
  have D3 : DefAt K mg "_law_take" "_law_take" sm_law_take ["row", "spot", "limit"] := defM X G c 2 (fun _ _ _ _ _ _ us hl => match us, hl with | [_, _, _], _ => rfl) rfl
  have D4 : DefAt K mg "_law_letters" "_law_letters" sm_law_letters ["row", "spot", "many"] := defM X G c 3 (fun _ _ _ _ _ _ us hl => match us, hl with | [_, _, _], _ => rfl) rfl
  have D5 : DefAt K mg "_law_reserved" "_law_reserved" sm_law_reserved [] := defM X G c 4 (fun _ _ _ _ _ _ us hl => match us, hl with | [], _ => rfl) rfl
  have D6 : DefAt K mg "_law_name" "_law_name" sm_law_name ["row", "spot", "used"] := defM X G c 5 (fun _ _ _ _ _ _ us hl => match us, hl with | [_, _, _], _ => rfl) rfl
  have D7 : DefAt K mg "_law_names" "_law_names" sm_law_names ["row", "spot", "many"] := defM X G c 6 (fun _ _ _ _ _ _ us hl => match us, hl with | [_, _, _], _ => rfl) rfl
  have D8 : DefAt K mg "_law_pick" "_law_pick" sm_law_pick ["row", "spot", "things"] := defM X G c 7 (fun _ _ _ _ _ _ us hl => match us, hl with | [_, _, _], _ => rfl) rfl
  have D9 : DefAt K mg "_law_tree" "_law_tree" sm_law_tree ["row", "spot", "names", "depth", "most"] := defM X G c 8 (fun _ _ _ _ _ _ us hl => match us, hl with | [_, _, _, _, _], _ => rfl) rfl
  have D10 : DefAt K mg "_law_small" "_law_small" sm_law_small ["row", "spot", "names"] := defM X G c 9 (fun _ _ _ _ _ _ us hl => match us, hl with | [_, _, _], _ => rfl) rfl
  have D11 : DefAt K mg "_law_gcd" "_law_gcd" sm_law_gcd ["one", "other"] := defM X G c 10 (fun _ _ _ _ _ _ us hl => match us, hl with | [_, _], _ => rfl) rfl
  have D12 : DefAt K mg "_law_red" "_law_red" sm_law_red ["n", "d"] := defM X G c 11 (fun _ _ _ _ _ _ us hl => match us, hl with | [_, _], _ => rfl) rfl
  have D13 : DefAt K mg "_law_chance" "_law_chance" sm_law_chance ["row", "spot"] := defM X G c 12 (fun _ _ _ _ _ _ us hl => match us, hl with | [_, _], _ => rfl) rfl
  have D14 : DefAt K mg "_law_odds" "_law_odds" sm_law_odds ["row", "spot", "names"] := defM X G c 13 (fun _ _ _ _ _ _ us hl => match us, hl with | [_, _, _], _ => rfl) rfl
  have D15 : DefAt K mg "_law_parts" "_law_parts" sm_law_parts ["e"] := defM X G c 14 (fun _ _ _ _ _ _ us hl => match us, hl with | [_], _ => rfl) rfl
  have D16 : DefAt K mg "_law_sub" "_law_sub" sm_law_sub ["one", "other"] := defM X G c 15 (fun _ _ _ _ _ _ us hl => match us, hl with | [_, _], _ => rfl) rfl
  have D17 : DefAt K mg "_law_not" "_law_not" sm_law_not ["one"] := defM X G c 16 (fun _ _ _ _ _ _ us hl => match us, hl with | [_], _ => rfl) rfl
  have D18 : DefAt K mg "_law_sets" "_law_sets" sm_law_sets ["names"] := defM X G c 17 (fun _ _ _ _ _ _ us hl => match us, hl with | [_], _ => rfl) rfl
  have D19 : DefAt K mg "_law_works" "_law_works" sm_law_works ["e", "up"] := defM X G c 18 (fun _ _ _ _ _ _ us hl => match us, hl with | [_, _], _ => rfl) rfl
  have D20 : DefAt K mg "_law_add" "_law_add" sm_law_add ["one", "other"] := defM X G c 19 (fun _ _ _ _ _ _ us hl => match us, hl with | [_, _], _ => rfl) rfl
  have D21 : DefAt K mg "_law_mul" "_law_mul" sm_law_mul ["one", "other"] := defM X G c 20 (fun _ _ _ _ _ _ us hl => match us, hl with | [_, _], _ => rfl) rfl
  have D22 : DefAt K mg "_law_prior" "_law_prior" sm_law_prior ["names", "odds", "broken"] := defM X G c 21 (fun _ _ _ _ _ _ us hl => match us, hl with | [_, _, _], _ => rfl) rfl
  have D23 : DefAt K mg "_law_others" "_law_others" sm_law_others ["names", "some"] := defM X G c 22 (fun _ _ _ _ _ _ us hl => match us, hl with | [_, _], _ => rfl) rfl
  have D24 : DefAt K mg "_law_sum_chance" "_law_sum_chance" sm_law_sum_chance ["e", "odds"] := defM X G c 23 (fun _ _ _ _ _ _ us hl => match us, hl with | [_, _], _ => rfl) rfl
  have D25 : DefAt K mg "is_sequence" "is_sequence" sm_is_sequence ["x"] := defM X G c 24 (fun _ _ _ _ _ _ us hl => match us, hl with | [_], _ => rfl) rfl
  have D26 : DefAt K mg "is_row" "is_row" sm_is_row ["x", "least", "most"] := defM X G c 25 (fun _ _ _ _ _ _ us hl => match us, hl with | [_, _, _], _ => rfl) rfl
  have D27 : DefAt K mg "is_name" "is_name" sm_is_name ["x"] := defM X G c 26 (fun _ _ _ _ _ _ us hl => match us, hl with | [_], _ => rfl) rfl
  have D28 : DefAt K mg "is_integer" "is_integer" sm_is_integer ["x"] := defM X G c 27 (fun _ _ _ _ _ _ us hl => match us, hl with | [_], _ => rfl) rfl
  have D29 : DefAt K mg "is_fraction" "is_fraction" sm_is_fraction ["x"] := defM X G c 28 (fun _ _ _ _ _ _ us hl => match us, hl with | [_], _ => rfl) rfl
  have D30 : DefAt K mg "is_chance" "is_chance" sm_is_chance ["x"] := defM X G c 29 (fun _ _ _ _ _ _ us hl => match us, hl with | [_], _ => rfl) rfl
  have D31 : DefAt K mg "odds_of" "odds_of" sm_odds_of ["value"] := defM X G c 30 (fun _ _ _ _ _ _ us hl => match us, hl with | [_], _ => rfl) rfl
  have D32 : DefAt K mg "is_within" "is_within" sm_is_within ["x", "low", "high"] := defM X G c 31 (fun _ _ _ _ _ _ us hl => match us, hl with | [_, _, _], _ => rfl) rfl
  have D33 : DefAt K mg "_is_outline" "_is_outline" sm_is_outline ["e"] := defM X G c 32 (fun _ _ _ _ _ _ us hl => match us, hl with | [_], _ => rfl) rfl
  have D34 : DefAt K mg "is_structure" "is_structure" sm_is_structure ["e"] := defM X G c 33 (fun _ _ _ _ _ _ us hl => match us, hl with | [_], _ => rfl) rfl
  have D35 : DefAt K mg "_known_odds" "_known_odds" sm_known_odds ["e", "odds"] := defM X G c 34 (fun _ _ _ _ _ _ us hl => match us, hl with | [_, _], _ => rfl) rfl
  have D36 : DefAt K mg "names_in" "names_in" sm_names_in ["e"] := defM X G c 35 (fun _ _ _ _ _ _ us hl => match us, hl with | [_], _ => rfl) rfl
  have D37 : DefAt K mg "first_lacking" "first_lacking" sm_first_lacking ["names", "known"] := defM X G c 36 (fun _ _ _ _ _ _ us hl => match us, hl with | [_, _], _ => rfl) rfl
  have D38 : DefAt K mg "_look_up" "_look_up" sm_look_up ["names", "known"] := defM X G c 37 (fun _ _ _ _ _ _ us hl => match us, hl with | [_, _], _ => rfl) rfl
  have D39 : DefAt K mg "_named_odds" "_named_odds" sm_named_odds ["e", "odds", "name"] := defM X G c 38 (fun _ _ _ _ _ _ us hl => match us, hl with | [_, _, _], _ => rfl) rfl
  have D40 : DefAt K mg "weights_of" "weights_of" sm_weights_of_2 ["names", "known"] := defM X G c 39 (fun _ _ _ _ _ _ us hl => match us, hl with | [_, _], _ => rfl) rfl
  have D41 : DefAt K mg "folded" "folded" sm_folded ["row", "weights"] := defM X G c 40 (fun _ _ _ _ _ _ us hl => match us, hl with | [_, _], _ => rfl) rfl
  have D42 : DefAt K mg "bits_of" "bits_of" sm_bits_of ["told", "count"] := defM X G c 41 (fun _ _ _ _ _ _ us hl => match us, hl with | [_, _], _ => rfl) rfl
  have D43 : DefAt K mg "weighed" "weighed" sm_weighed ["told", "weights"] := defM X G c 42 (fun _ _ _ _ _ _ us hl => match us, hl with | [_, _], _ => rfl) rfl
  have D44 : DefAt K mg "lowest" "lowest" sm_lowest ["n", "d"] := defM X G c 43 (fun _ _ _ _ _ _ us hl => match us, hl with | [_, _], _ => rfl) rfl
  have D45 : DefAt K mg "enough" "enough" sm_enough ["tables", "least", "whole"] := defM X G c 44 (fun _ _ _ _ _ _ us hl => match us, hl with | [_, _, _], _ => rfl) rfl
  have D46 : DefAt K mg "joined" "joined" sm_joined ["e", "columns", "whole"] := defM X G c 45 (fun _ _ _ _ _ _ us hl => match us, hl with | [_, _, _], _ => rfl) rfl
  have D47 : DefAt K mg "everywhere" "everywhere" sm_everywhere ["count"] := defM X G c 46 (fun _ _ _ _ _ _ us hl => match us, hl with | [_], _ => rfl) rfl
  have D48 : DefAt K mg "column" "column" sm_column ["place", "count"] := defM X G c 47 (fun _ _ _ _ _ _ us hl => match us, hl with | [_, _], _ => rfl) rfl
  have D49 : DefAt K mg "table" "table" sm_table ["e", "names"] := defM X G c 48 (fun _ _ _ _ _ _ us hl => match us, hl with | [_, _], _ => rfl) rfl
  have D50 : DefAt K mg "blame" "blame" sm_blame ["e", "odds", "name"] := defM X G c 49 (fun _ _ _ _ _ _ us hl => match us, hl with | [_, _, _], _ => rfl) rfl
  have D51 : DefAt K mg "_law_listed" "_law_listed" sm_law_listed ["value"] := defM X G c 50 (fun _ _ _ _ _ _ us hl => match us, hl with | [_], _ => rfl) rfl
  have D52 : DefAt K mg "_law_handed" "_law_handed" sm_law_handed ["row", "spot", "value"] := defM X G c 51 (fun _ _ _ _ _ _ us hl => match us, hl with | [_, _, _], _ => rfl) rfl
  have D53 : DefAt K mg "_law_so" "_law_so" sm_law_so ["found", "meant"] := defM X G c 52 (fun _ _ _ _ _ _ us hl => match us, hl with | [_, _], _ => rfl) rfl
  have D54 : DefAt K mg "_law_div" "_law_div" sm_law_div ["one", "other"] := defM X G c 53 (fun _ _ _ _ _ _ us hl => match us, hl with | [_, _], _ => rfl) rfl
  have D55 : DefAt K mg "_law_odd" "_law_odd" sm_law_odd ["odds", "name"] := defM X G c 54 (fun _ _ _ _ _ _ us hl => match us, hl with | [_, _], _ => rfl) rfl
  have D56 : DefAtC K mg "law" "law" sm_law ["script"] cL := defMC X G c 55 htL (fun _ _ _ _ _ _ us hl => match us, hl with | [_], _ => rfl) rfl
  have D57 : DefAt K mg "_law_told" "_law_told" sm_law_told ["deed"] := defM X G c 56 (fun _ _ _ _ _ _ us hl => match us, hl with | [_], _ => rfl) rfl
  have TT : TellTxt K mg sm_law_told := tell_mk D57 (fXrd_ok X G (c.fact 25 rfl)) (fXrd_ok X G (c.fact 26 rfl)) (fXrd_ok X G (c.fact 27 rfl)) (fXrd_ok X G (c.fact 28 rfl)) (fXrd_ok X G (c.fact 29 rfl)) (fXrd_ok X G (c.fact 30 rfl)) (fXrd_ok X G (c.fact 31 rfl)) (fXrd_ok X G (c.fact 32 rfl)) (fXrd_ok X G (c.fact 33 rfl)) (c.fact 34 rfl)
  refine law_fin (m := m_law) hfa D56 htL nL (lam_two (.inl (tabIn_none (eqQ_ok (c.fact 23 rfl)))) (.inl (tabIn_none (eqQ_ok (c.fact 24 rfl))))) (fun _ _ _ _ _ _ us hl => match us, hl with | [_], _ => rfl) law_ok fun base TB => ?_
  have gm_law_numbers : Good l.prog w K mg base "_law_numbers" 1 ["script"] m_law_numbers := goodm_law_numbers T D1 
  have gm_law_draw : Good l.prog w K mg base "_law_draw" 1 ["row", "at", "limit"] m_law_draw := goodm_law_draw T D2 
  have gm_law_take : Good l.prog w K mg base "_law_take" 2 ["row", "spot", "limit"] m_law_take := goodm_law_take T D3 gm_law_draw
  have gm_law_letters : Good l.prog w K mg base "_law_letters" 3 ["row", "spot", "many"] m_law_letters := goodm_law_letters T D4 gm_law_take
  have gm_law_reserved : Good l.prog w K mg base "_law_reserved" 1 [] m_law_reserved := goodm_law_reserved T D5 
  have gm_law_name : Good l.prog w K mg base "_law_name" 4 ["row", "spot", "used"] m_law_name := goodm_law_name T D6 gm_law_letters gm_law_take gm_law_reserved
  have gm_law_names : Good l.prog w K mg base "_law_names" 5 ["row", "spot", "many"] m_law_names := goodm_law_names T D7 gm_law_name
  have gm_law_pick : Good l.prog w K mg base "_law_pick" 3 ["row", "spot", "things"] m_law_pick := goodm_law_pick T D8 gm_law_take
  have gm_law_tree : ∀ n, Good l.prog w K mg base "_law_tree" (4 + n) ["row", "spot", "names", "depth", "most"] (m_law_tree n) := goodm_law_tree T D9 gm_law_take gm_law_pick
  have gm_law_small : Good l.prog w K mg base "_law_small" 29 ["row", "spot", "names"] m_law_small := goodm_law_small T D10 gm_law_tree gm_law_take
  have gm_law_gcd : Good l.prog w K mg base "_law_gcd" 1 ["one", "other"] m_law_gcd := goodm_law_gcd T D11 
  have gm_law_red : ∀ n, Good l.prog w K mg base "_law_red" (2 + n) ["n", "d"] (m_law_red n) := goodm_law_red T D12 gm_law_gcd
  have gm_law_chance : Good l.prog w K mg base "_law_chance" 27 ["row", "spot"] m_law_chance := goodm_law_chance T D13 gm_law_take gm_law_red
  have gm_law_odds : Good l.prog w K mg base "_law_odds" 28 ["row", "spot", "names"] m_law_odds := goodm_law_odds T D14 gm_law_take gm_law_chance
  have gm_law_parts : ∀ n, Good l.prog w K mg base "_law_parts" (1 + n) ["e"] (m_law_parts n) := goodm_law_parts T D15 
  have gm_law_sub : Good l.prog w K mg base "_law_sub" 27 ["one", "other"] m_law_sub := goodm_law_sub T D16 gm_law_red
  have gm_law_not : Good l.prog w K mg base "_law_not" 28 ["one"] m_law_not := goodm_law_not T D17 gm_law_sub
  have gm_law_sets : Good l.prog w K mg base "_law_sets" 1 ["names"] m_law_sets := goodm_law_sets T D18 
  have gm_law_works : ∀ n, Good l.prog w K mg base "_law_works" (1 + n) ["e", "up"] (m_law_works n) := goodm_law_works T D19 
  have gm_law_add : Good l.prog w K mg base "_law_add" 27 ["one", "other"] m_law_add := goodm_law_add T D20 gm_law_red
  have gm_law_mul : Good l.prog w K mg base "_law_mul" 27 ["one", "other"] m_law_mul := goodm_law_mul T D21 gm_law_red
  have gm_law_prior : Good l.prog w K mg base "_law_prior" 28 ["names", "odds", "broken"] m_law_prior := goodm_law_prior T D22 gm_law_mul gm_law_sub
  have gm_law_others : Good l.prog w K mg base "_law_others" 1 ["names", "some"] m_law_others := goodm_law_others T D23 
  have gm_law_sum_chance : Good l.prog w K mg base "_law_sum_chance" 29 ["e", "odds"] m_law_sum_chance := goodm_law_sum_chance T D24 gm_law_parts gm_law_sets gm_law_works gm_law_add gm_law_prior gm_law_others
  have gm_is_sequence : Good l.prog w K mg base "is_sequence" 1 ["x"] m_is_sequence := goodm_is_sequence T D25 
  have gm_is_row : Good l.prog w K mg base "is_row" 2 ["x", "least", "most"] m_is_row := goodm_is_row T D26 gm_is_sequence
  have gm_is_name : Good l.prog w K mg base "is_name" 1 ["x"] m_is_name := goodm_is_name T D27 
  have gm_is_integer : Good l.prog w K mg base "is_integer" 1 ["x"] m_is_integer := goodm_is_integer T D28 
  have gm_is_fraction : Good l.prog w K mg base "is_fraction" 3 ["x"] m_is_fraction := goodm_is_fraction T D29 gm_is_row gm_is_integer
  have gm_is_chance : Good l.prog w K mg base "is_chance" 4 ["x"] m_is_chance := goodm_is_chance T D30 gm_is_fraction
  have gm_odds_of : Good l.prog w K mg base "odds_of" 5 ["value"] m_odds_of := goodm_odds_of T D31 gm_is_row gm_is_name gm_is_chance
  have gm_is_within : Good l.prog w K mg base "is_within" 2 ["x", "low", "high"] m_is_within := goodm_is_within T D32 gm_is_integer
  have gm_is_outline : Good l.prog w K mg base "_is_outline" 3 ["e"] m_is_outline := goodm_is_outline T D33 gm_is_name gm_is_row gm_is_sequence gm_is_within
  have gm_is_structure : Good l.prog w K mg base "is_structure" 4 ["e"] m_is_structure := goodm_is_structure T D34 gm_is_outline
  have gm_known_odds : Good l.prog w K mg base "_known_odds" 6 ["e", "odds"] m_known_odds := goodm_known_odds T D35 gm_odds_of gm_is_structure
  have gm_names_in : Good l.prog w K mg base "names_in" 1 ["e"] m_names_in := goodm_names_in T D36 
  have gm_first_lacking : Good l.prog w K mg base "first_lacking" 1 ["names", "known"] m_first_lacking := goodm_first_lacking T D37 
  have gm_look_up : Good l.prog w K mg base "_look_up" 3 ["names", "known"] m_look_up := goodm_look_up T D38 gm_first_lacking
  have gm_named_odds : Good l.prog w K mg base "_named_odds" 7 ["e", "odds", "name"] m_named_odds := goodm_named_odds T D39 gm_known_odds gm_names_in gm_look_up gm_is_name
  have gm_weights_of_2 : Good l.prog w K mg base "weights_of" 1 ["names", "known"] m_weights_of_2 := goodm_weights_of_2 T D40 
  have gm_folded : Good l.prog w K mg base "folded" 1 ["row", "weights"] m_folded := goodm_folded T D41 
  have gm_bits_of : Good l.prog w K mg base "bits_of" 1 ["told", "count"] m_bits_of := goodm_bits_of T D42 
  have gm_weighed : Good l.prog w K mg base "weighed" 2 ["told", "weights"] m_weighed := goodm_weighed T D43 gm_folded gm_bits_of
  have gm_lowest : Good l.prog w K mg base "lowest" 1 ["n", "d"] m_lowest := goodm_lowest T D44 
  have gm_enough : Good l.prog w K mg base "enough" 1 ["tables", "least", "whole"] m_enough := goodm_enough T D45 
  have gm_joined : ∀ n, Good l.prog w K mg base "joined" (2 + n) ["e", "columns", "whole"] (m_joined n) := goodm_joined T D46 gm_enough
  have gm_everywhere : Good l.prog w K mg base "everywhere" 1 ["count"] m_everywhere := goodm_everywhere T D47 
  have gm_column : Good l.prog w K mg base "column" 2 ["place", "count"] m_column := goodm_column T D48 gm_everywhere
  have gm_table : Good l.prog w K mg base "table" 27 ["e", "names"] m_table := goodm_table T D49 gm_joined gm_column gm_everywhere
  have gm_blame : Good l.prog w K mg base "blame" 28 ["e", "odds", "name"] m_blame := goodm_blame T D50 gm_named_odds gm_weights_of_2 gm_weighed gm_lowest gm_table gm_everywhere
  have gm_law_listed : ∀ n, Good l.prog w K mg base "_law_listed" (1 + n) ["value"] (m_law_listed n) := goodm_law_listed T D51 
  have gm_law_handed : Good l.prog w K mg base "_law_handed" 26 ["row", "spot", "value"] m_law_handed := goodm_law_handed T D52 gm_law_listed gm_law_take
  have gm_law_so : ∀ n, Good l.prog w K mg base "_law_so" (1 + n) ["found", "meant"] (m_law_so n) := goodm_law_so T D53 
  have gm_law_div : Good l.prog w K mg base "_law_div" 27 ["one", "other"] m_law_div := goodm_law_div T D54 gm_law_red
  have gm_law_odd : Good l.prog w K mg base "_law_odd" 1 ["odds", "name"] m_law_odd := goodm_law_odd T D55 
  exact goodm_law T D56 TT TB gm_law_numbers gm_law_names gm_law_small gm_law_odds gm_law_parts gm_law_not gm_law_sum_chance gm_law_take gm_law_sets gm_blame gm_law_handed gm_law_add gm_law_so gm_law_mul gm_law_works gm_law_prior gm_law_div gm_law_others gm_law_odd
abbrev rowR : PySem.W.OpenRow := PySem.W.OpenLaw.row PySem.Challenge.rw_mendplan_k21_blame
def obL (s : PySem.W.SharedT) : He.Al := obsMG faL fnL (HandSHeadRun.getT s)
theorem obL_eq (s : PySem.W.SharedT) : obL s = (hookM faL fnL).obs s.abs := obsMG_eq (HandSHeadRun.getT_eq s)
@[irreducible] noncomputable def runW (w : World) : Option (Shared × PySem.W.SharedT) := HandSHeadRun.wholeF (fun p => HandSHeadRun.stepQ (HandSHeadRun.denQ HandSHeadRun.tabQ) p w) HandSHeadRun.fenceQ 20000 rowR.prog
@[irreducible] noncomputable def lkF (x : Shared × PySem.W.SharedT) : Bool := HandSHeadRun.looksF rowR.prog x.1.heap x.2.abs
@[irreducible] noncomputable def snF (x : Shared × PySem.W.SharedT) := HandSHeadRun.seenQ (PySem.W.view rowR.prog [0, 82]) looseL (importedModules rowR.prog.main.body) (fun s => PySem.W.xlAt (PySem.W.view rowR.prog [0, 82]) [] s && PySem.W.recOk rowR.toRowW.records s) x.2.abs
@[irreducible] def obF (x : Shared × PySem.W.SharedT) : He.Al := obL x.2
set_option maxRecDepth 1000000 in
set_option maxHeartbeats 0 in
theorem runL1 (w : World) : (runW w).map lkF = some true := by kernel_rfl
set_option maxRecDepth 1000000 in
set_option maxHeartbeats 0 in
theorem runL2 (w : World) : (runW w).map snF = some (PySem.W.openGood (PySem.W.view rowR.prog [0, 82]) looseL) := by kernel_rfl
set_option maxRecDepth 1000000 in
set_option maxHeartbeats 0 in
theorem runL3 (w : World) : (runW w).map (fun x => (obF x).1) = some true := by kernel_rfl
set_option maxRecDepth 1000000 in
set_option maxHeartbeats 0 in
theorem runL4 (w : World) : (runW w).map (fun x => (obF x).2) = some (fnL.map He.FnD.val) := by kernel_rfl
theorem runL0 (w : World) : (runW w).map (fun x => (lkF x, snF x, obF x)) = some (true, PySem.W.openGood (PySem.W.view rowR.prog [0, 82]) looseL, valM fnL) := run_parts (runL1 w) (runL2 w) (obs_parts (runL3 w) (runL4 w))
theorem runL (w : World) : HandSHeadRun.RunEqI rowR (PySem.W.view rowR.prog [0, 82]) (hookM faL fnL) obL 20000 looseL w := by
  have e := runL0 w
  unfold runW lkF snF obF at e
  exact e
end Mp
open PySem PySem.W PyProof.Rows
set_option maxRecDepth 100000 in
set_option maxHeartbeats 0 in
theorem PySem.Challenge.cw_mendplan_k21_blame_holds : PySem.Challenge.rw_mendplan_k21_blame.Holds := by
  w_on; o_law
  refine HandSHeadRun.head_imp (r := Mp.rowR) (q := PySem.W.view Mp.rowR.prog [0, 82]) (H := Mp.hookM Mp.faL Mp.fnL) (ob := Mp.obL) (M := 20000) (loose := Mp.looseL) (d := HandSHeadRun.topDef Mp.rowR.prog 82) (kwd := []) Mp.obL_eq
    Mp.runL (by kernel_rfl) (by kernel_rfl) (by kernel_rfl) (by rfl) (by first | assumption | decide +kernel) (by decide +kernel) ⟨rfl, rfl, rfl, rfl, rfl, by decide +kernel⟩ ?hw ?hc
  case hw => w_witness2
  case hc =>
    refine Mp.walk_lawM (l := PySem.Challenge.rw_mendplan_k21_blame) (k := 32) ([] : List Str) rfl rfl ⟨rfl, by decide, by decide⟩ ⟨_, rfl⟩ (fun x hx => by cases hx) ?F
    intro w mg fa h K c KX G hmg0
    have hmg : mg ("law" : PySem.Str) = some (.ref fa) := by
      have e : (HandSHeadRun.topDef Mp.rowR.prog 82).name = ("law" : PySem.Str) := by kernel_rfl
      rw [← e]
      exact hmg0
    exact Mp.all_mk KX G hmg c
